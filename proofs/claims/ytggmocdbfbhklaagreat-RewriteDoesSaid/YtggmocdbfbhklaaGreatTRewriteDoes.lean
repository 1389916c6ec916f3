/-
  RewriteDoes holds: what a server is told of any messages, one behind the other, and what it is to reply, is what the document says; so are the references.
-/
import Derived.Test.YtggmocdbfbhklaaGreatPRewriteDoes6
import Derived.Test.YtggmocdbfbhklaaGreatRows
namespace Go.Proofs.YtggmocdbfbhklaaGreat
open Go Go.RK

theorem opens_fms (w : World) : Opens Tryz.prog w 36 (fun p : Value × List Fm => [p.1]) (fun p => Fms w.heap p.1 p.2 ∧ ∀ f ∈ p.2, 0 ≤ f.kind ∧ f.kind ≤ 255) :=
  (opens_slice Tryz.underlying36 (by kernel_rfl) (by decide) Fm.len (opens_fm w)).map id (fun _ => rfl) fun p q => ⟨⟨q.1, q.2.1, fun f hf => (q.2.2.2.1 f hf).1⟩, fun f hf => (q.2.2.2.1 f hf).2⟩
set_option maxHeartbeats 4000000 in
set_option maxRecDepth 100000 in
theorem does24 {h : Heap} {vl vn vs vf : Value} (l : List Stm) (N : List (List UInt8)) (spec : List Int) (most : Int) (L : List Fm) (hr : Rd h vl 2 l.length (l.flatMap stC)) (hl : l.length ≤ maxLen) (ok : ∀ d ∈ l, stOk h d) (hrn : Rd h vn 1 N.length (N.map St)) (hN : N.length ≤ maxLen)
    (hs : Rd h vs 1 spec.length (ints spec)) (hsl : spec.length ≤ maxLen) (hf : Fms h vf L) (hw : ∀ f ∈ L, 0 ≤ f.kind ∧ f.kind ≤ 255) :
    CallsH Tryz.prog 4 ⟨[vl, vn, vs, In most, vf]⟩ h fun u h' => u = .bool true ∧ Ext No h h' := by
  have kkn := fun h' (x : Ext No h h') => known24 l N x hr hl ok hrn hN
  have kpl := fun h' (x : Ext No h h') => plain_fronts L (hf.ext0 x) 20
  obtain ⟨ss, sc, rfl, _⟩ := id hs
  obtain ⟨hfr, hfl, hfo⟩ := hf
  obtain ⟨fA, fc, rfl, _⟩ := id hfr
  unfold maxLen at hl hN hsl hfl
  unfold ptE at kkn
  refine calls [(0, _), (1, _), (2, _), (3, _), (4, _)] Tryz.func4 rfl Tryz.ntmps4 rfl ⟨rfl, rfl, rfl, rfl, rfl, trivial⟩ ?_
  all_goals (refine WC.sr ?_; refine Go ?_; refine WC.sr ?_; refine Go ?_; refine WL.call (vs := [_, _]) rfl (fun a w => Tryz.call5 a w) rfl (kkn _ (.refl _ _)) rfl rfl rfl ?_; rintro _ h2 ⟨b, m1, m2, bt, tb, tm, tr, v15, s0, T, rfl, K2⟩; have X2 := K2.ext; refine Go ?_; refine Gs [(2, _), (3, _), (4, _), (11, _), (12, _), (13, _), (14, _)] ?_; refine WC.seq ?_; refine WC.sr ?_; refine Go ?_; refine WL.step (ok_eqlPn Tryz.underlying28 rfl rfl) rfl rfl rfl ?_; refine Go ?_; refine goP 34 ?_ TT.mk; refine WL.step (ok_move rfl) rfl rfl rfl ?_; refine WL.step (ok_eqlPn Tryz.underlying29 rfl rfl) rfl rfl rfl ?_; refine Go ?_; refine goP 38 ?_ TT.mk; refine Gg ?_; refine WL.call (vs := [_, _]) rfl (fun a w => Tryz.call9 a w) rfl (kpl _ X2) rfl rfl rfl ?_; rintro _ h3 ⟨⟨x, rfl, hfew⟩, hx3⟩; have K3 := K2.ext0 hx3; have X3 := X2.trans hx3; clear kpl kkn K2; cases x)
  all_goals (refine Gg ?_; refine Go ?_; refine goP 43 ?_ TT.mk; refine Gg ?_; refine Go ?_; refine Gs [(2, _), (3, _), (4, _), (11, _), (12, _), (13, _), (14, _), (47, _)] ?_; first | (refine goC 1 2 ?_ TT.mk) | (refine goC 1 2 (Hb.mk fun hb => ?_) (Hb.mk fun hb => ?_)))
  all_goals (first | (fail_if_success refine goB 1 ?_) | (
  refine goB 1 ?_
  all_goals (refine WC.sr ?_; refine Go ?_; refine WL.step (ok_neqPn Tryz.underlying28 rfl rfl) rfl rfl rfl ?_; refine Go ?_; refine goP 50 ?_ TT.mk; refine WL.step (ok_move rfl) rfl rfl rfl ?_; refine WL.step (ok_neqPn Tryz.underlying29 rfl rfl) rfl rfl rfl ?_; refine Go ?_; refine goP 54 ?_ TT.mk; refine WL.call (vs := []) rfl (fun a w => Tryz.call7 a w) rfl (awake24) rfl rfl rfl ?_; rintro _ h4 ⟨rfl, hx4⟩; refine Go ?_; refine Gs [(10, _)] ?_; refine Gt ?_; first | exact ⟨rfl, X3.trans hx4⟩ | exact ⟨rfl, S4.kn.ext.trans z2⟩ | exact ⟨rfl, X3⟩ | (exfalso; first | omega | simp_all))
  skip))
  all_goals (refine goB 2 ?_; refine WC.skip ?_; refine Gn ?_; refine WC.sr ?_; refine Go ?_; refine WC.seq ?_; refine WC.sr ?_; refine Go ?_; refine WC.block ?_)
  -- loop 0: slots that turn [15, 16, 59], that stay [2, 3, 11, 12, 13, 14, 57, 58]
  all_goals (refine WC.loopG (X := Nat × Value × Value) (fun x => ([(59, In (x.1 : Int)), (15, x.2.1), (16, x.2.2)] : Fr)) [(2, _), (3, _), (11, _), (12, _), (13, _), (14, _), (57, _), (58, _)] (fun x h' => x.1 ≤ L.length ∧ ∃ A Bn s, A.length ≤ 3 * x.1 ∧ St2 h h' (20 + 2 * (x.1 : Int)) b m1 m2 bt tb tm tr v15 T s x.2.1 x.2.2 A Bn) (fun x => L.length - x.1) ((0, .slice none 0 0, .slice none 0 0)) ⟨rfl, rfl, rfl, rfl, rfl, rfl, rfl, rfl, rfl, rfl, rfl, trivial⟩ (by exact ⟨Nat.zero_le _, [], [], s0, by simp, ⟨K3, Own.nil _ _ _, Own.nil _ _ _, by simp, by simp, rfl, by simp, by simp [Value.ownBlock], by simp [Value.ownBlock], by simp [Value.ownBlock]⟩⟩) ?_)
  all_goals (rintro ⟨k, vA, vB⟩ h4 ⟨hk, A, Bn, s, hlA, S4⟩
             dsimp only at hk hlA S4
             obtain ⟨hL20, few⟩ := hfew rfl)
  all_goals (refine WC.sub [(15, _), (16, _), (59, _), (2, _), (3, _), (11, _), (12, _), (13, _), (14, _), (57, _), (58, _)] ⟨rfl, rfl, rfl, rfl, rfl, rfl, rfl, rfl, rfl, rfl, rfl, trivial⟩ ?_; dsimp only)
  all_goals (refine WC.sr ?_; refine Go ?_; refine WC.seq ?_; refine goC 3 4 (Hb.mk fun hb => ?_) (Hb.mk fun hb => ?_))
  all_goals (first | (fail_if_success refine goB 3 ?_) | (
  refine goB 3 ?_
  all_goals (refine WC.skip ?_)
  skip))
  all_goals (first | (fail_if_success refine goB 4 ?_) | (
  refine goB 4 ?_
  all_goals (refine WC.exit ?_; repeat' (with_reducible first | refine thenP_x ?_ | refine blockP_miss rfl ?_ | refine blockP_hit ?_ | refine blockP_n ?_ | refine thenP_n ?_))
  all_goals (refine Br.out (i := 1000) ?_)
  skip))
  all_goals (refine Gn ?_; first | (refine Br.keep ?_) | (refine WC.seq ?_))
  all_goals (first | (refine Br.keep ?_) | (refine WC.block ?_))
  all_goals (first | (refine Br.keep ?_) | (refine WC.sr ?_))
  all_goals (first
               | (refine Br.keep ?_)
               | (obtain ⟨bF, iF, hFA, _, hat⟩ := Rd.at_ hfr (by omega)
                  obtain ⟨f, hfk⟩ : ∃ f, L[k]? = some f := ⟨_, List.getElem?_eq_getElem (by omega)⟩
                  have hmf := List.mem_of_getElem? hfk
                  have hd : At h4 bF (iF + k * 10) f.cells := At.elem Fm.len (hat.ext S4.kn.ext nos) hfk
                  have okf := hfo f hmf
                  have h60 : A.length ≤ 60 := by omega))
  all_goals (first | (refine Br.keep ?_) | (refine WL.step (ok_idxAddrA Tryz.underlying36 (fun w => Tryz.sizeOf27 w) rfl rfl rfl (by omega) (by first | rfl | assumption)) rfl rfl rfl ?_))
  all_goals (first | (refine Br.keep ?_) | (refine WL.step (ok_loadN (fun w => Tryz.isAgg27 w) (fun w => Tryz.sizeOf27 w) rfl rfl (by exact hd)) rfl rfl rfl ?_))
  all_goals (first
               | (refine Br.keep ?_)
               | (refine WL.stepR (okE_alloc (fun w => Tryz.zeroValue27 w)) rfl rfl rfl ?_
                  rintro _ h5 ⟨b18, rfl, hg5, hb5, hx5⟩))
  all_goals (first
               | (refine Br.keep ?_)
               | (refine WL.stepR0 (okE_storeW (fun w => Tryz.sizeOf27 w) rfl rfl rfl (by assumption) rfl okf.one) rfl rfl ?_
                  rintro _ h6 ⟨hb6, hx6⟩))
  all_goals (first
               | (refine Br.keep ?_)
               | (have X46 : Ext No h4 h6 := hx5.trans' hx6 (fun q hq e => by omega)
                  have S6 := S4.ext0 X46
                  clear S4))
  all_goals (refine Gn ?_; first | (refine Br.keep ?_) | (refine WC.sr ?_))
  all_goals (refine Go ?_; first | (refine Br.keep ?_) | (refine WL.step (ok_loadN (fun w => Tryz.isAgg27 w) (fun w => Tryz.sizeOf27 w) rfl rfl (by exact At.of_block hb6)) rfl rfl rfl ?_))
  all_goals (first
               | (refine Br.keep ?_)
               | (refine WL.call (vs := [_, _, _, _, _, _]) rfl (fun a w => Tryz.call8 a w) rfl (code_one (f := f) S6 okf (hw f hmf) (few f hmf) hs (by omega) h60 (by omega)) rfl rfl rfl ?_
                  rintro _ h7 ⟨vF1, vE1, L1, M1, rfl, O1, Mi⟩
                  have hb7 := Mi.blk S6 hb6 (by decide)))
  all_goals (refine Go ?_; first | (refine Br.keep ?_) | (refine Gs [(2, _), (3, _), (11, _), (12, _), (13, _), (14, _), (15, _), (16, _), (18, _), (19, _), (20, _), (57, _), (58, _), (59, _)] ?_))
  all_goals (first | (refine Br.keep ?_) | (refine WC.sr ?_))
  all_goals (refine Go ?_; first | (refine Br.keep ?_) | (refine WL.step (ok_loadN (fun w => Tryz.isAgg27 w) (fun w => Tryz.sizeOf27 w) rfl rfl (by exact At.of_block hb7)) rfl rfl rfl ?_))
  all_goals (first
               | (refine Br.keep ?_)
               | (refine WL.call (vs := [_, _, _, _, _, _]) rfl (fun a w => Tryz.call10 a w) rfl (doc_one (f := f) S6 Mi okf (few f hmf) hs (by omega) h60 (by omega)) rfl rfl rfl ?_
                  rintro _ h8 ⟨vF2, vE2, L2, M2, rfl, O2, S8, x8⟩
                  have hb8 := x8.obj hb7 (ds_off hb7 (by decide))
                  have O1 := O1.ds x8))
  all_goals (refine Go ?_; first | (refine Br.keep ?_) | (refine Gs [(2, _), (3, _), (11, _), (12, _), (13, _), (14, _), (15, _), (16, _), (18, _), (19, _), (20, _), (21, _), (22, _), (57, _), (58, _), (59, _)] ?_))
  all_goals (first | (refine Br.keep ?_) | (refine WC.seq ?_))
  all_goals (first | (refine Br.keep ?_) | (refine WC.seq ?_))
  all_goals (first | (refine Br.keep ?_) | (refine WC.drawH (fun h' => Ext No h8 h') 17 17 rfl fol ?_))
  all_goals (first
               | (refine Br.keep ?_)
               | (have eF : L1.map Fm.pl = L2.map Fm.pl := O1.pF.trans O2.pF.symm
                  have eE : M1.map En.pl = M2.map En.pl := O1.pE.trans O2.pE.symm
                  have gM := O1.good
                  generalize (resA s T spec most A f).1 = s1 at *))
  all_goals (first | (refine Br.keep ?_) | (refine WH.tk 0 rfl (fun hq hC => ok_move rfl) rfl rfl rfl ?_))
  all_goals (first | (refine Br.keep ?_) | (refine WH.tk 1 rfl (fun hq hC => ok_move rfl) rfl rfl rfl ?_))
  all_goals (first | (refine Br.keep ?_) | (refine WH.one 2 (by kernel_rfl) ?_))
  all_goals (first
               | (refine Br.keep ?_)
               | (refine Comes1.call (vs := [_, _]) rfl rfl (fun a w => Tryz.call11 a w) rfl (same24 L1 L2 O1.fms O2.fms eF) rfl rfl rfl ?_ (fun _ => by kernel_rfl)
                  rintro _ g1 ⟨rfl, z1⟩))
  all_goals (first | (refine Br.keep ?_) | (refine ⟨fun _ => z1, ?_⟩))
  all_goals (first | (refine Br.keep ?_) | (refine WH.tk 3 rfl (fun hq hC => ok_not rfl) rfl rfl rfl ?_))
  all_goals (first | (refine Br.keep ?_) | (refine WH.tk 4 rfl (fun hq hC => ok_move rfl) rfl rfl rfl ?_))
  all_goals (first | (refine Br.keep ?_) | (try ((fail_if_success (refine WH.part 87 (b := true) rfl (fun _ => ?_) (fun _ => ?_))); (fail_if_success (refine WH.part 87 (b := false) rfl (fun _ => ?_) (fun _ => ?_))); (refine WH.part 87 rfl (fun hb => ?_) (fun hb => ?_)))))
  all_goals (first | (refine Br.keep ?_) | (refine WH.tk 5 rfl (fun hq hC => ok_move rfl) rfl rfl rfl ?_))
  all_goals (first | (refine Br.keep ?_) | (refine WH.tk 6 rfl (fun hq hC => ok_move rfl) rfl rfl rfl ?_))
  all_goals (first
    | (refine Br.keep ?_)
    | (all_goals (refine WH.one 7 (by kernel_rfl) ?_)
       all_goals (refine Comes1.call (vs := [_, _]) rfl rfl (fun a w => Tryz.call12 a w) rfl (ens_true M1 M2 (O1.ext0 z1).ens (O2.ext0 z1).ens eE) rfl rfl rfl ?_ (fun _ => by kernel_rfl); rintro _ g2 ⟨rfl, z2⟩; refine ⟨fun _ => z1.trans z2, ?_⟩; have Z2 := z1.trans z2)
       skip))
  all_goals (first | (refine Br.keep ?_) | (refine WH.tk 8 rfl (fun hq hC => ok_not rfl) rfl rfl rfl ?_))
  all_goals (first | (refine Br.keep ?_) | (refine WH.tk 9 rfl (fun hq hC => ok_pick_f rfl rfl) rfl rfl rfl ?_))
  all_goals (first | (refine Br.keep ?_) | (refine WH.tk 10 rfl (fun hq hC => ok_move rfl) rfl rfl rfl ?_))
  all_goals (first | (refine Br.keep ?_) | (try ((fail_if_success (refine WH.part 93 (b := true) rfl (fun _ => ?_) (fun _ => ?_))); (fail_if_success (refine WH.part 93 (b := false) rfl (fun _ => ?_) (fun _ => ?_))); (refine WH.part 93 rfl (fun hb => ?_) (fun hb => ?_)))))
  all_goals (first | (refine Br.keep ?_) | (refine WH.tk 11 rfl (fun hq hC => ok_loadN (fun w => Tryz.isAgg27 w) (fun w => Tryz.sizeOf27 w) rfl rfl (by exact (At.of_block hb8).ext hC nos)) rfl rfl rfl ?_))
  all_goals (first | (refine Br.keep ?_) | (refine WH.tk 13 rfl (fun hq hC => ok_loadN (fun w => Tryz.isAgg27 w) (fun w => Tryz.sizeOf27 w) rfl rfl (by exact (At.of_block hb8).ext hC nos)) rfl rfl rfl ?_))
  all_goals (first
    | (refine Br.keep ?_)
    | (all_goals (refine WH.one 12 (by kernel_rfl) ?_)
       all_goals (refine Comes1.call (vs := [_]) rfl rfl (fun a w => Tryz.call13 a w) rfl (needs_code f (hw f hmf)) rfl rfl rfl ?_ (fun _ => by kernel_rfl); rintro _ g3 ⟨rfl, z3⟩; refine ⟨fun _ => Z2.trans z3, ?_⟩; have Z3 := Z2.trans z3)
       skip))
  all_goals (first
    | (refine Br.keep ?_)
    | (all_goals (refine WH.one 14 (by kernel_rfl) ?_)
       all_goals (refine Comes1.call (vs := [_]) rfl rfl (fun a w => Tryz.call14 a w) rfl (needs_doc f) rfl rfl rfl ?_ (fun _ => by kernel_rfl); rintro _ g4 ⟨rfl, z4⟩; refine ⟨fun _ => Z3.trans z4, ?_⟩; have Z4 := Z3.trans z4)
       skip))
  all_goals (first | (refine Br.keep ?_) | (refine WH.tk 15 rfl (fun hq hC => OkP.nbool_f (by rfl) (ok_neqB Tryz.underlying4 rfl rfl)) rfl rfl rfl ?_))
  all_goals (first | (refine Br.keep ?_) | (refine WH.tk 16 rfl (fun hq hC => ok_pick_f rfl rfl) rfl rfl rfl ?_))
  all_goals (first | (refine Br.keep ?_) | (refine WH.done (by kernel_rfl) ?_))
  all_goals (refine Gn ?_; first | (refine Br.keep ?_) | (refine Gs [(2, _), (3, _), (11, _), (12, _), (13, _), (14, _), (15, _), (16, _), (20, _), (22, _), (57, _), (58, _), (59, _), (99, _)] ?_))
  all_goals (first | (refine Br.keep ?_) | (refine goC 5 6 ?_ TT.mk))
  all_goals (first | (fail_if_success refine goB 6 ?_) | (
  refine goB 6 ?_
  all_goals (refine WC.skip ?_)
  skip))
  all_goals (refine Gn ?_; first | (refine Br.keep ?_) | (refine WC.sr ?_))
  all_goals (first
               | (refine Br.keep ?_)
               | (have S9 := S8.ext0 Z4
                  have P1 := O1.ext0 Z4
                  have P2 := O2.ext0 Z4
                  have l1 := P1.t.lE
                  have l2 := P2.t.lE
                  have lB := S9.len
                  clear O1 O2 S8))
  all_goals (first | (refine Br.keep ?_) | (refine WL.step (ok_move rfl) rfl rfl rfl ?_))
  all_goals (refine Go ?_)
  all_goals (first
               | (refine Br.keep ?_)
               | (refine WL.stepR (ok_append (sz := 8) (bytes := 144) rfl Tryz.underlying37 (show Tryz.prog.info? 44 = some Tryz.t44 by kernel_rfl) rfl rfl rfl rfl (by decide) rfl rfl S9.oA P1.t.E.rd (ens_one (fun e he => (P1.t.okE e he).now)) (by simp only [maxLen]; omega) (by omega)) rfl rfl rfl ?_
                  rintro vA' h10 ⟨o10, x10, l10⟩))
  all_goals (refine Go ?_)
  all_goals (first
               | (refine Br.keep ?_)
               | (refine WL.stepR (ok_append (sz := 8) (bytes := 144) rfl Tryz.underlying37 (show Tryz.prog.info? 44 = some Tryz.t44 by kernel_rfl) rfl rfl rfl rfl (by decide) rfl rfl (S9.oB.ext x10 (fun q hq e => S9.ne q e hq)) (P2.t.E.ext x10 (fun q hq e => by have := P2.t.fE q hq; obtain ⟨cur, z⟩ := own_ty S6.oA e; have := lt_of_some z; have := Mi.x.size; omega)).rd (ens_one (fun e he => (P2.t.okE e he).now)) (by simp only [maxLen]; omega) (by omega)) rfl rfl rfl ?_
                  rintro vB' h11 ⟨o11, x11, l11⟩))
  all_goals (first
               | (refine Br.keep ?_)
               | (have S11 := S9.app eE gM P1.t.okE P2.t.okE o10 x10 l10 o11 x11 l11
                  clear S9 P1 P2 S6 Mi))
  all_goals (refine Go ?_; first | (refine Br.keep ?_) | (refine Gs [(2, _), (3, _), (11, _), (12, _), (13, _), (14, _), (15, _), (16, _), (57, _), (58, _), (59, _)] ?_))
  all_goals (first | (refine Br.keep ?_) | (refine WC.sr ?_))
  all_goals (refine Go ?_; first | (refine Br.keep ?_) | (refine WC.block ?_))
  -- loop 1: slots that turn [106], that stay [2, 3, 11, 12, 13, 14, 15, 16, 57, 58, 59]
  all_goals (first | (refine Br.keep ?_) | (refine WC.loopG (X := Nat) (fun x => ([(106, In (x : Int))] : Fr)) [(2, _), (3, _), (11, _), (12, _), (13, _), (14, _), (15, _), (16, _), (57, _), (58, _), (59, _)] (fun x h' => h' = h11 ∧ x ≤ 25) (fun x => 25 - x) (0) ⟨rfl, rfl, rfl, rfl, rfl, rfl, rfl, rfl, rfl, rfl, rfl, rfl, trivial⟩ (by exact ⟨rfl, Nat.zero_le _⟩) ?_))
  all_goals (first
               | (refine Br.keep ?_)
               | (rintro j h12 ⟨hz, hj⟩
                  subst hz))
  all_goals (first | (refine Br.keep ?_) | (refine WC.sub [(106, _), (2, _), (3, _), (11, _), (12, _), (13, _), (14, _), (15, _), (16, _), (57, _), (58, _), (59, _)] ⟨rfl, rfl, rfl, rfl, rfl, rfl, rfl, rfl, rfl, rfl, rfl, rfl, trivial⟩ ?_))
  all_goals (first | (refine Br.keep ?_) | (refine WC.sr ?_))
  all_goals (refine Go ?_; first | (refine Br.keep ?_) | (refine WC.seq ?_))
  all_goals (first | (refine Br.keep ?_) | (refine goC 7 8 (Hb.mk fun hb => ?_) (Hb.mk fun hb => ?_)))
  all_goals (first | (fail_if_success refine goB 7 ?_) | (
  refine goB 7 ?_
  all_goals (refine WC.skip ?_)
  skip))
  all_goals (first | (fail_if_success refine goB 8 ?_) | (
  refine goB 8 ?_
  all_goals (refine WC.exit ?_; repeat' (with_reducible first | refine thenP_x ?_ | refine blockP_miss rfl ?_ | refine blockP_hit ?_ | refine blockP_n ?_ | refine thenP_n ?_))
  all_goals (refine Br.out (i := 1002) ?_)
  skip))
  all_goals (refine Gn ?_; first | (refine Br.keep ?_) | (refine WC.seq ?_))
  all_goals (first | (refine Br.keep ?_) | (refine WC.block ?_))
  all_goals (first | (refine Br.keep ?_) | (refine WC.sr ?_))
  all_goals (refine Go ?_; first | (refine Br.keep ?_) | (refine WC.sr ?_))
  all_goals (refine Go ?_)
  all_goals (first
               | (refine Br.keep ?_)
               | (refine WL.call (vs := [_, _]) rfl (fun a w => Tryz.call15 a w) rfl (c_refs S11.kn.cst (j : Int)) rfl rfl rfl ?_
                  rintro _ g ⟨rfl, hz⟩
                  subst hz))
  all_goals (refine Go ?_)
  all_goals (first
               | (refine Br.keep ?_)
               | (refine WL.call (vs := [_, _]) rfl (fun a w => Tryz.call16 a w) rfl (d_refs S11.kn.dst S11.kn.cst.sv (j : Int)) rfl rfl rfl ?_
                  rintro _ g ⟨rfl, hz⟩
                  subst hz))
  all_goals (refine Go ?_; first | (refine Br.keep ?_) | (refine Gs [(2, _), (3, _), (11, _), (12, _), (13, _), (14, _), (15, _), (16, _), (57, _), (58, _), (59, _), (106, _), (115, _)] ?_))
  all_goals (first | (refine Br.keep ?_) | (refine goC 9 10 ?_ TT.mk))
  all_goals (first | (fail_if_success refine goB 10 ?_) | (
  refine goB 10 ?_
  all_goals (refine WC.skip ?_)
  skip))
  all_goals (refine Gn ?_; first | (refine Br.keep ?_) | (refine WC.region ?_))
  all_goals (refine Go ?_; first | (refine Br.keep ?_) | (exact ⟨j + 1, ⟨rfl, rfl, rfl, rfl, rfl, rfl, rfl, rfl, rfl, rfl, rfl, rfl, trivial⟩, (by exact ⟨rfl, by omega⟩), (by omega)⟩))
  all_goals (try (refine Br.mk (i := 1002) ?_))
  all_goals (refine Gn ?_; first | (refine Br.keep ?_) | (refine WC.region ?_))
  all_goals (refine Go ?_; first | (refine Br.keep ?_) | (exact ⟨(k + 1, _, _), ⟨rfl, rfl, rfl, rfl, rfl, rfl, rfl, rfl, rfl, rfl, rfl, trivial⟩, (by exact ⟨by omega, A ++ M1, Bn ++ M2, s1, by rw [List.length_append]; omega, (show (20 + 2 * (k : Int) + 2) = 20 + 2 * ((k + 1 : Nat) : Int) by omega) ▸ S11⟩), (by (try simp only []); omega)⟩))
  all_goals (try (refine Br.mk (i := 1000) ?_))
  all_goals (refine Gn ?_; refine Gs [(11, _), (13, _)] ?_; refine WC.seq ?_; refine WC.drawH (fun h' => Ext No h4 h') 11 12 rfl fol ?_; obtain ⟨Aw, cw, hbw⟩ := d_len S4.kn.dst; refine WH.tk 0 rfl (fun hq hC => ok_move rfl) rfl rfl rfl ?_; refine WH.tk 2 rfl (fun hq hC => ok_move rfl) rfl rfl rfl ?_; refine WH.tk 3 rfl (fun hq hC => ok_nilCheck rfl) rfl rfl rfl ?_; refine WH.tk 4 rfl (fun hq hC => ok_fieldAddr rfl Tryz.underlying54 rfl (fun w => Tryz.sizeOf52 w)) rfl rfl rfl ?_; refine WH.tk 5 rfl (fun hq hC => ok_load (fun w => Tryz.isAgg52 w) rfl (by first | exact hC.cell (by first | exact cell_blk hbw rfl | assumption | exact cell_blk (by assumption) rfl) nos)) rfl rfl rfl ?_; refine WH.tk 6 rfl (fun hq hC => ok_lenL rfl Tryz.underlying52 rfl) rfl rfl rfl ?_; refine WH.one 1 (by kernel_rfl) ?_; refine Comes1.call (vs := [_]) rfl rfl (fun a w => Tryz.call17 a w) rfl (c_len S4.kn.cst) rfl rfl rfl ?_ (fun _ => by kernel_rfl); rintro _ g1 ⟨rfl, hz⟩; subst hz; refine ⟨fun _ => .refl _ _, ?_⟩; refine WH.tk 7 rfl (fun hq hC => OkP.bool_t (by omega) (ok_eql rfl rfl)) rfl rfl rfl ?_; refine WH.tk 8 rfl (fun hq hC => ok_move rfl) rfl rfl rfl ?_; try ((fail_if_success (refine WH.part 126 (b := true) rfl (fun _ => ?_) (fun _ => ?_))); (fail_if_success (refine WH.part 126 (b := false) rfl (fun _ => ?_) (fun _ => ?_))); (refine WH.part 126 rfl (fun hb => ?_) (fun hb => ?_))))
  all_goals (refine WH.one 9 (by kernel_rfl) ?_; refine Comes1.call (vs := []) rfl rfl (fun a w => Tryz.call7 a w) rfl (awake24) rfl rfl rfl ?_ (fun _ => by kernel_rfl); rintro _ g2 ⟨rfl, z2⟩; refine ⟨fun _ => z2, ?_⟩; refine WH.tk 10 rfl (fun hq hC => ok_pick_t rfl rfl) rfl rfl rfl ?_; refine WH.one 11 (by kernel_rfl) ?_; refine Comes1.run rfl (OkP.r (ok_assign rfl)) rfl rfl rfl ?_ (fun _ => by kernel_rfl); rintro _ hz ⟨rfl, _⟩; subst hz; refine ⟨fun e => (by cases e), ?_⟩; refine WH.done (by kernel_rfl) ?_; refine Gn ?_; refine Gs [(10, _)] ?_; refine Gt ?_; first | exact ⟨rfl, X3.trans hx4⟩ | exact ⟨rfl, S4.kn.ext.trans z2⟩ | exact ⟨rfl, X3⟩ | (exfalso; first | omega | simp_all))
namespace LRewriteDoes
open Go.ChangeShapes Go.WideShapes Go.ChangeAt Go.RowKit
open Go.ChangeMaps (open_string shut_string)
theorem own : ownKnob Tryz.prog.godebug = none := by kernel_rfl
theorem laidOut : laidOutB Tryz.prog = true := by kernel_rfl
set_option maxRecDepth 100000 in
theorem lifted (os : Os) (started : os.Started) (H : Type) (enc : TypeId × Value → H) :
    ReturnsInHanded {} Tryz.checked os 4 .any (Rows.rewriteDoesSpec.pre6 enc Tryz.prog Tryz.f4 Rows.rewriteDoesRow.domain false) (Rows.rewriteDoesSpec.post enc Tryz.prog Tryz.f4 false true false false) := by
  refine returnsInHanded_of_change_sized (C := Tryz.checked) own started (by kernel_rfl) Tryz.func4
    (ChangeSpec.witness6 (enc := enc) (C := Tryz.checked) false ⟨#[], #[.slice none 0 0, .slice none 0 0, .slice none 0 0, .int .i64 0, .slice none 0 0], []⟩ 8 (by kernel_rfl) (by kernel_rfl) (by kernel_rfl) (by kernel_rfl)) ?_
  intro W base args ds gs before hval0 hW hcnd hsz0 _
  have hval : ∀ (j : Nat) t v, Tryz.f4.params[j]? = some t → args[j]? = some v → Value.okWide Tryz.prog W .any base t v := hval0
  have hsz := hsz0
  rw [Tryz.params4] at hsz
  clear hsz0
  have hW' := hW
  obtain ⟨p, q, hA0, hV, rfl, hfz, hnd⟩ := hW
  have hA : DataW.TrodAll enc Tryz.prog W 0 (fun _ => true) true Tryz.f4.params.toList args.toList ds p := hA0
  rw [Tryz.params4] at hA hval
  obtain ⟨v0, vs0, d0, ds0, p0, q0, hargs, rfl, rfl, h0, r0⟩ := trodAll_cons hA
  obtain ⟨v1, vs1, d1, ds1, p1, q1, rfl, rfl, rfl, h1, r1⟩ := trodAll_cons r0
  obtain ⟨v2, vs2, d2, ds2, p2, q2, rfl, rfl, rfl, h2, r2⟩ := trodAll_cons r1
  obtain ⟨v3, vs3, d3, ds3, p3, q3, rfl, rfl, rfl, h3, r3⟩ := trodAll_cons r2
  obtain ⟨v4, vs4, d4, ds4, p4, q4, rfl, rfl, rfl, h4, r4⟩ := trodAll_cons r3
  obtain ⟨rfl, rfl, rfl⟩ := trodAll_nil r4
  obtain rfl : args = #[v0, v1, v2, v3, v4] := by cases args; simp_all
  obtain ⟨rfl, rfl⟩ := trodVars_none hV
  have hz0 : ∀ n ∈ d0.weights Tryz.prog 22, n ≤ reachBytes := fun n hn => by simpa using List.all_eq_true.1 hsz n (DataW.weights_mem_each (j := 0) rfl rfl n hn)
  have k0 := h0
  have lt0 : ∀ x ∈ p0, x.block < W.heap.size := by obtain ⟨m, hm⟩ := k0; exact DataW.trod_lt m _ _ _ hm
  obtain ⟨A0, n0, c0, rfl⟩ := okWide_slice Tryz.underlying22 (hval 0 22 v0 rfl rfl)
  obtain ⟨fu0, hf0⟩ := h0
  obtain ⟨⟨v0, l0⟩, e0, w0⟩ := opens_stms W _ _ _ _ _ _ _ _ hf0 hz0
  obtain rfl : .slice A0 n0 c0 = v0 := by simpa [Value.cells] using e0
  have hz1 : ∀ n ∈ d1.weights Tryz.prog 23, n ≤ reachBytes := fun n hn => by simpa using List.all_eq_true.1 hsz n (DataW.weights_mem_each (j := 1) rfl rfl n hn)
  have k1 := h1
  have lt1 : ∀ x ∈ p1, x.block < W.heap.size := by obtain ⟨m, hm⟩ := k1; exact DataW.trod_lt m _ _ _ hm
  obtain ⟨A1, n1, c1, rfl⟩ := okWide_slice Tryz.underlying23 (hval 1 23 v1 rfl rfl)
  obtain ⟨fu1, hf1⟩ := h1
  obtain ⟨⟨v1, l1⟩, e1, w1⟩ := opens_texts W _ _ _ _ _ _ _ _ hf1 hz1
  obtain rfl : .slice A1 n1 c1 = v1 := by simpa [Value.cells] using e1
  have hz2 : ∀ n ∈ d2.weights Tryz.prog 24, n ≤ reachBytes := fun n hn => by simpa using List.all_eq_true.1 hsz n (DataW.weights_mem_each (j := 2) rfl rfl n hn)
  have k2 := h2
  have lt2 : ∀ x ∈ p2, x.block < W.heap.size := by obtain ⟨m, hm⟩ := k2; exact DataW.trod_lt m _ _ _ hm
  obtain ⟨A2, n2, c2, rfl⟩ := okWide_slice Tryz.underlying24 (hval 2 24 v2 rfl rfl)
  obtain ⟨fu2, hf2⟩ := h2
  obtain ⟨⟨v2, l2⟩, e2, w2⟩ := opens_ints14 W _ _ _ _ _ _ _ _ hf2 hz2
  obtain rfl : .slice A2 n2 c2 = v2 := by simpa [Value.cells] using e2
  have hz3 : ∀ n ∈ d3.weights Tryz.prog 3, n ≤ reachBytes := fun n hn => by simpa using List.all_eq_true.1 hsz n (DataW.weights_mem_each (j := 3) rfl rfl n hn)
  have k3 := h3
  have lt3 : ∀ x ∈ p3, x.block < W.heap.size := by obtain ⟨m, hm⟩ := k3; exact DataW.trod_lt m _ _ _ hm
  obtain ⟨a3, rfl, e3, _, w3⟩ := open_int Tryz.underlying3 (hval 3 3 v3 rfl rfl) h3
  have hz4 : ∀ n ∈ d4.weights Tryz.prog 36, n ≤ reachBytes := fun n hn => by simpa using List.all_eq_true.1 hsz n (DataW.weights_mem_each (j := 4) rfl rfl n hn)
  have k4 := h4
  have lt4 : ∀ x ∈ p4, x.block < W.heap.size := by obtain ⟨m, hm⟩ := k4; exact DataW.trod_lt m _ _ _ hm
  obtain ⟨A4, n4, c4, rfl⟩ := okWide_slice Tryz.underlying36 (hval 4 36 v4 rfl rfl)
  obtain ⟨fu4, hf4⟩ := h4
  obtain ⟨⟨v4, l4⟩, e4, w4⟩ := opens_fms W _ _ _ _ _ _ _ _ hf4 hz4
  obtain rfl : .slice A4 n4 c4 = v4 := by simpa [Value.cells] using e4
  clear hA0 hval0
  refine (law_calls (does24 l0 l1 l2 a3 l4 w0.1 w0.2.1 w0.2.2 w1.1 w1.2 w2.1 (by have q : l2.length * 8 ≤ reachBytes := w2.2; unfold reachBytes at q; unfold maxLen; omega) w4.1 w4.2)).mono fun e W' ⟨he, bel⟩ => ?_
  subst he
  exact ⟨_, rfl, _, _, _, [], _, [], hW', trodAll_mk1 (shut_bool Tryz.underlying4 _), (trodAll_cons_mk (Below.trod laidOut (by kernel_rfl) (of_decide_eq_true (by kernel_rfl)) k0 bel lt0) (trodAll_cons_mk (Below.trod laidOut (by kernel_rfl) (of_decide_eq_true (by kernel_rfl)) k1 bel lt1) (trodAll_cons_mk (Below.trod laidOut (by kernel_rfl) (of_decide_eq_true (by kernel_rfl)) k2 bel lt2) (trodAll_cons_mk (Below.trod laidOut (by kernel_rfl) (of_decide_eq_true (by kernel_rfl)) k3 bel lt3) (trodAll_cons_mk (Below.trod laidOut (by kernel_rfl) (of_decide_eq_true (by kernel_rfl)) k4 bel lt4) trodAll_mk0))))), rfl, bel.frame _, fun h => by cases h⟩
theorem over : Rows.rewriteDoesRow.holds Tryz.pinned (OpenSpec.ofChange Rows.rewriteDoesSpec) :=
  OpenClaim.holds_of_wide 4 Tryz.f4 rfl rfl rfl rfl rfl rfl rfl ⟨rfl, rfl, rfl, rfl, rfl⟩ rfl rfl rfl rfl rfl (by kernel_rfl) Tryz.func4 (by kernel_rfl)
    (of_decide_eq_true (by kernel_rfl)) (by unfold Func.isWrapper; first | (rw [if_pos (by decide +kernel)]; kernel_rfl) | (rw [if_neg (by decide +kernel)]; exact ⟨rfl, rfl⟩))
    (fun os started H enc _ => lifted os started H enc)
end LRewriteDoes
theorem rewriteDoes_proved : Rows.RewriteDoesSaid := LRewriteDoes.over
#print axioms rewriteDoes_proved
end Go.Proofs.YtggmocdbfbhklaaGreat

