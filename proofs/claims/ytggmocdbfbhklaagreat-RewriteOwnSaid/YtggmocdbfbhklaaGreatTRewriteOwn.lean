/-
  RewriteOwn holds: what a message is turned into hides what the client did not send, and ends with the client's own.
-/
import Derived.Test.YtggmocdbfbhklaaGreatPRewriteOwn6
import Derived.Test.YtggmocdbfbhklaaGreatRows
namespace Go.Proofs.YtggmocdbfbhklaaGreat
open Go Go.RK

theorem WL.un {P : Program} {n : Env} {l0 l : List Oper} {Q : Post} {f : Fr} {h : Heap} (t : Nat) (_ : f.get t = some undef) (k : WL P n l0 l Q f h) : WL P n l0 l Q f h := k
set_option maxHeartbeats 4000000 in
set_option maxRecDepth 100000 in
theorem own24 {h : Heap} {vl vn vs : Value} (l : List Stm) (N : List (List UInt8)) (spec : List Int) (most : Int) (f : Fm) (hr : Rd h vl 2 l.length (l.flatMap stC)) (hl : l.length ≤ maxLen) (ok : ∀ d ∈ l, stOk h d) (hrn : Rd h vn 1 N.length (N.map St)) (hN : N.length ≤ maxLen)
    (hs : Rd h vs 1 spec.length (ints spec)) (hsl : spec.length ≤ maxLen) (hf : f.ok h) (hw : 0 ≤ f.kind ∧ f.kind ≤ 255) :
    CallsH Tryz.prog 3 ⟨[vl, vn, vs, In most, .agg ⟨f.cells⟩]⟩ h fun u h' => u = .bool true ∧ Ext No h h' := by
  have kkn := fun h' (x : Ext No h h') => known24 l N x hr hl ok hrn hN
  have kpl := fun h' (x : Ext No h h') => plain_front f (hf.ext0 x)
  obtain ⟨ss, sc, rfl, _⟩ := id hs
  have kdo := fun (h1 g : Heap) (b m1 m2 bt tb tm tr : Nat) (v15 : Value) (s : RS) (T : List NI) (x1 : Ext No h h1) (K : Kn h1 g 20 b m1 m2 bt tb tm tr v15 s T) (few : f.few) (h40 : spec.length ≤ 40) =>
    (Do24 (most := most) K.cst K.ext (hf.ext0 x1) hw ⟨by have := few.oids; omega, by have := few.formats; omega, by have := few.results; omega, by have := few.params; omega⟩ (hs.ext0 x1) h40 (by decide) K.tab (⟨Rd.nil g 8, by decide, by simp, by simp, by simp⟩ : Gds g (.slice none 0 0) [])).mono fun u h' k => (show ∃ vF vE L M, u = .tuple ⟨[vF, vE]⟩ ∧ TG h1 g vF vE L M h' ∧ OwnM L M f.kind ∧ Ext No h1 h' from by
      obtain ⟨⟨vF, vE, L, M, e, t, pF, pE⟩, _, x⟩ := k
      exact ⟨vF, vE, L, M, e, t, own_m pF pE (own_any _ _ _ _ _ _), fs_old K.ext x⟩)
  obtain ⟨⟨e1, _⟩, ⟨e2, _⟩, ⟨e3, _⟩, e4, _⟩ := hf
  obtain ⟨fk, w, n, p, t, vo, o, vf, fs, vs, rs, vp, ps, mx⟩ := f
  dsimp only at e1 e2 e3 e4 hw
  obtain ⟨_, _, rfl, _⟩ := e1
  obtain ⟨_, _, rfl, _⟩ := e2
  obtain ⟨_, _, rfl, _⟩ := e3
  obtain ⟨_, _, rfl, _⟩ := e4
  unfold maxLen at hl hN hsl
  dsimp only [Fm.cells, ptE] at kkn kpl kdo ⊢
  refine calls [(0, _), (1, _), (2, _), (3, _), (4, _)] Tryz.func3 rfl Tryz.ntmps3 rfl ⟨rfl, rfl, rfl, rfl, rfl, trivial⟩ ?_
  all_goals (refine WC.sr ?_)
  all_goals (refine WL.stepR (okE_box rfl) rfl rfl rfl ?_
             rintro _ h1 ⟨b9, rfl, hg1, hb1, hx1⟩)
  all_goals (refine Go ?_)
  all_goals (refine WC.sr ?_)
  all_goals (refine Go ?_)
  all_goals (refine WL.call (vs := [_, _]) rfl (fun a w => Tryz.call5 a w) rfl (kkn _ hx1) rfl rfl rfl ?_
             rintro _ h2 ⟨b, m1, m2, bt, tb, tm, tr, v15, s, T, rfl, K2⟩)
  all_goals (have hb2 := K2.ext.obj hb1 nos
             have X2 := hx1.trans K2.ext)
  all_goals (refine Go ?_)
  all_goals (refine WC.sub [(2, _), (3, _), (9, _), (11, _), (12, _)] ⟨rfl, rfl, rfl, rfl, rfl, trivial⟩ ?_)
  all_goals (refine WC.seq ?_)
  all_goals (refine WC.sr ?_)
  all_goals (refine Go ?_)
  all_goals (refine WL.step (ok_eqlPn Tryz.underlying28 rfl rfl) rfl rfl rfl ?_)
  all_goals (refine Go ?_)
  all_goals (refine goP 30 ?_ ?_ <;> first | exact ⟨⟩ | refine Hb.mk fun hb => ?_ | skip)
  all_goals (first | (refine WL.pass rfl rfl rfl ?_) | (refine WL.step (ok_move rfl) rfl rfl rfl ?_))
  all_goals (first | (refine WL.pass rfl rfl rfl ?_) | (refine WL.step (ok_eqlPn Tryz.underlying29 rfl rfl) rfl rfl rfl ?_))
  all_goals (refine Go ?_)
  all_goals (refine goP 34 ?_ ?_ <;> first | exact ⟨⟩ | refine Hb.mk fun hb => ?_ | skip)
  all_goals (first | (refine WL.pass rfl rfl rfl ?_) | (refine WL.step (ok_loadN (fun w => Tryz.isAgg27 w) (fun w => Tryz.sizeOf27 w) rfl rfl (by exact At.of_block hb2)) rfl rfl rfl ?_))
  all_goals (first
               | (refine WL.pass rfl rfl rfl ?_)
               | (refine WL.call (vs := [_]) rfl (fun a w => Tryz.call6 a w) rfl (kpl _ X2) rfl rfl rfl ?_
                  rintro _ h3 ⟨⟨x, rfl, hfew⟩, hx3⟩))
  all_goals (have hb3 := hx3.obj hb2 nos
             have K3 := K2.ext0 hx3
             have X3 := X2.trans hx3
             clear kpl kkn K2
             cases x)
  all_goals (refine Gg ?_)
  all_goals (refine Go ?_)
  all_goals (refine goP 39 ?_ ?_ <;> first | exact ⟨⟩ | refine Hb.mk fun hb => ?_ | skip)
  all_goals (refine Gg ?_)
  all_goals (refine Go ?_)
  all_goals (refine WC.sub [(2, _), (3, _), (9, _), (11, _), (12, _), (43, _)] ⟨rfl, rfl, rfl, rfl, rfl, rfl, trivial⟩ ?_)
  all_goals (refine goC 1 2 ?_ ?_ <;> first | exact ⟨⟩ | refine Hb.mk fun hb => ?_ | skip)
  all_goals (first | (fail_if_success refine goB 1 ?_) | (
  refine goB 1 ?_
  all_goals (refine WC.sr ?_)
  all_goals (refine Go ?_)
  all_goals (refine WL.step (ok_neqPn Tryz.underlying28 rfl rfl) rfl rfl rfl ?_)
  all_goals (refine Go ?_)
  all_goals (refine goP 46 ?_ ?_ <;> first | exact ⟨⟩ | refine Hb.mk fun hb => ?_ | skip)
  all_goals (first | (refine WL.pass rfl rfl rfl ?_) | (refine WL.step (ok_move rfl) rfl rfl rfl ?_))
  all_goals (first | (refine WL.pass rfl rfl rfl ?_) | (refine WL.step (ok_neqPn Tryz.underlying29 rfl rfl) rfl rfl rfl ?_))
  all_goals (refine Go ?_)
  all_goals (refine goP 50 ?_ ?_ <;> first | exact ⟨⟩ | refine Hb.mk fun hb => ?_ | skip)
  all_goals (first
               | (refine WL.pass rfl rfl rfl ?_)
               | (refine WL.call (vs := []) rfl (fun a w => Tryz.call7 a w) rfl (awake24) rfl rfl rfl ?_
                  rintro _ h4 ⟨rfl, hx4⟩))
  all_goals (refine Go ?_)
  all_goals (refine WC.sub [(10, _)] ⟨rfl, trivial⟩ ?_)
  all_goals (refine WC.ret ?_)
  all_goals (repeat' (with_reducible first | refine thenP_r ?_ | refine blockP_r ?_))
  all_goals (refine retP_1 _ ⟨rfl, trivial⟩ ?_)
  all_goals (first | exact ⟨rfl, X3.trans hx4⟩ | exact ⟨rfl, (X4.trans y4).trans hx7⟩ | exact ⟨rfl, ((X4.trans y4).trans hC).trans hx7⟩ | (exfalso; first | omega | simp_all))
  skip))
  all_goals (first | (fail_if_success refine goB 2 ?_) | (
  refine goB 2 ?_
  all_goals (refine WC.skip ?_)
  skip))
  all_goals (refine Gn ?_)
  all_goals (refine WC.sr ?_)
  all_goals (refine Go ?_)
  all_goals (refine WL.step (ok_loadN (fun w => Tryz.isAgg27 w) (fun w => Tryz.sizeOf27 w) rfl rfl (by exact At.of_block hb3)) rfl rfl rfl ?_)
  all_goals (refine WL.call (vs := [_, _, _, _, _, _]) rfl (fun a w => Tryz.call8 a w) rfl (kdo _ _ _ _ _ _ _ _ _ _ _ _ hx1 K3 (hfew rfl) (by omega)) rfl rfl rfl ?_
             rintro _ h4 ⟨vF, vE, L, M, rfl, g, om, X14⟩
             obtain ⟨AF, cF, rfl, _⟩ := id g.F.rd
             obtain ⟨AE, cE, rfl, _⟩ := id g.E.rd)
  all_goals (have oF := g.F.rd
             have oE := g.E.rd
             have okE := fun e he => (g.okE e he).now
             have l3 := om.f3
             have m3 := om.e3
             have X4 := hx1.trans X14
             have hb4 := X14.obj hb1 nos
             clear kdo K3 hfew g)
  all_goals (refine Go ?_)
  all_goals (refine WC.sub [(9, _), (15, _), (16, _)] ⟨rfl, rfl, rfl, trivial⟩ ?_)
  all_goals (refine WC.seq ?_)
  all_goals (refine WC.sr ?_)
  all_goals (refine Go ?_)
  all_goals (refine goP 65 ?_ ?_ <;> first | exact ⟨⟩ | refine Hb.mk fun hb => ?_ | skip)
  all_goals (refine Gg ?_)
  all_goals (refine Go ?_)
  all_goals (refine WC.sub [(9, _), (15, _), (16, _), (69, _)] ⟨rfl, rfl, rfl, rfl, trivial⟩ ?_)
  all_goals (refine goC 3 4 ?_ ?_ <;> first | exact ⟨⟩ | refine Hb.mk fun hb => ?_ | skip)
  all_goals (first | (fail_if_success refine goB 3 ?_) | (
  refine goB 3 ?_
  all_goals (refine WC.sr ?_)
  all_goals (refine Go ?_)
  all_goals (refine WC.sub [(10, _)] ⟨rfl, trivial⟩ ?_)
  all_goals (refine WC.ret ?_)
  all_goals (repeat' (with_reducible first | refine thenP_r ?_ | refine blockP_r ?_))
  all_goals (refine retP_1 _ ⟨rfl, trivial⟩ ?_)
  all_goals (first | exact ⟨rfl, X3.trans hx4⟩ | exact ⟨rfl, (X4.trans y4).trans hx7⟩ | exact ⟨rfl, ((X4.trans y4).trans hC).trans hx7⟩ | (exfalso; first | omega | simp_all))
  skip))
  all_goals (first | (fail_if_success refine goB 4 ?_) | (
  refine goB 4 ?_
  all_goals (refine WC.skip ?_)
  skip))
  all_goals (refine Gn ?_)
  all_goals (refine WC.seq ?_)
  all_goals (refine WC.sr ?_)
  all_goals (refine Go ?_)
  all_goals (refine WC.block ?_)
  -- loop 0: slots that turn [72], that stay [9, 15, 16, 70, 71]
  all_goals (refine WC.loopG (X := Nat) (fun x => ([(72, In (x : Int))] : Fr)) [(9, _), (15, _), (16, _), (70, _), (71, _)] (fun x h' => x ≤ M.length ∧ Ext No h4 h') (fun x => M.length - x) (0) ⟨rfl, rfl, rfl, rfl, rfl, rfl, trivial⟩ (by exact ⟨Nat.zero_le _, .refl _ _⟩) ?_)
  all_goals (rintro k h4' ⟨hk, y4⟩
             (try dsimp only at hk y4))
  all_goals (refine WC.sub [(72, _), (9, _), (15, _), (16, _), (70, _), (71, _)] ⟨rfl, rfl, rfl, rfl, rfl, rfl, trivial⟩ ?_)
  all_goals ((try dsimp only))
  all_goals (refine WC.sr ?_)
  all_goals (refine Go ?_)
  all_goals (refine WC.seq ?_)
  all_goals (refine goC 5 6 ?_ ?_ <;> first | exact ⟨⟩ | refine Hb.mk fun hb => ?_ | skip)
  all_goals (first | (fail_if_success refine goB 5 ?_) | (
  refine goB 5 ?_
  all_goals (refine WC.skip ?_)
  skip))
  all_goals (first | (fail_if_success refine goB 6 ?_) | (
  refine goB 6 ?_
  all_goals (refine WC.exit ?_)
  all_goals (repeat' (with_reducible first | refine thenP_x ?_ | refine blockP_miss rfl ?_ | refine blockP_hit ?_ | refine blockP_n ?_ | refine thenP_n ?_))
  all_goals (refine Br.out (i := 1000) ?_)
  skip))
  all_goals (refine Gn ?_)
  all_goals (first | (refine Br.keep ?_) | (refine WC.seq ?_))
  all_goals (first | (refine Br.keep ?_) | (refine WC.block ?_))
  all_goals (first | (refine Br.keep ?_) | (refine WC.sr ?_))
  all_goals (first
               | (refine Br.keep ?_)
               | (obtain ⟨bE, iE, hA, _, hat⟩ := Rd.at_ oE (by omega)
                  obtain ⟨e, he⟩ : ∃ e, M[k]? = some e := ⟨_, List.getElem?_eq_getElem (by omega)⟩
                  have hd : At h4' bE (iE + k * 8) e.cells := At.elem En.len (hat.ext y4 nos) he
                  have ke := okE e (List.mem_of_getElem? he)
                  have hh := om.hide k e he
                  have hp := om.pair k e he
                  obtain ⟨⟨q1, _⟩, ⟨q2, _⟩, ⟨q3, _⟩, q4, _⟩ := ke
                  obtain ⟨ek, eh, es, ed, vg, go, vb, ba, vc, op, vr, re⟩ := e
                  dsimp only at q1 q2 q3 q4 hh hp
                  obtain ⟨_, _, rfl, _⟩ := q1
                  obtain ⟨_, _, rfl, _⟩ := q2
                  obtain ⟨_, _, rfl, _⟩ := q3
                  obtain ⟨_, _, rfl, _⟩ := q4
                  dsimp only [En.cells] at hd
                  have hcs : (¬ (k + 1 < M.length) ∧ eh = false) ∨ ∃ fk' bF iF, k + 1 < M.length ∧ eh = true ∧ k < L.length ∧ AF = some ⟨bF, iF, none⟩ ∧ ((fk' = 67 ∧ ek = 7) ∨ (fk' = 80 ∧ ek = 2 ∧ k + 2 = M.length)) ∧ ∀ g, Ext No h4 g → ∀ p, p = iF + k * 10 → cell g ⟨bF, p, none⟩ = some (.int .u8 fk') := by
                   by_cases hk1 : k + 1 < M.length
                   · obtain ⟨f', hf', hp'⟩ := hp hk1
                     have hlt := (List.getElem?_eq_some_iff.1 hf').1
                     obtain ⟨bF, iF, hAF, _, hatF⟩ := Rd.at_ oF (by omega)
                     exact .inr ⟨f'.kind, bF, iF, hk1, by rw [hh, decide_eq_true hk1], hlt, hAF, hp', fun g x p hp => (At.elem Fm.len (hatF.ext x nos) hf').get 0 rfl (by omega)⟩
                   · exact .inl ⟨hk1, by rw [hh, decide_eq_false hk1]⟩
                  clear hh hp he
                  rcases hcs with ⟨hk1, rfl⟩ | ⟨fk', bF, iF, hk1, rfl, hlt, hAF, ⟨rfl, rfl⟩ | ⟨rfl, rfl, hk2⟩, hcF⟩))
  all_goals (first | (refine Br.keep ?_) | (refine WL.step (ok_move rfl) rfl rfl rfl ?_))
  all_goals (first | (refine Br.keep ?_) | (refine WL.step (ok_idxAddrA Tryz.underlying37 (fun w => Tryz.sizeOf44 w) rfl rfl rfl (by omega) (by first | rfl | assumption)) rfl rfl rfl ?_))
  all_goals (first | (refine Br.keep ?_) | (refine WL.step (ok_loadN (fun w => Tryz.isAgg44 w) (fun w => Tryz.sizeOf44 w) rfl rfl (by exact hd)) rfl rfl rfl ?_))
  all_goals (first
               | (refine Br.keep ?_)
               | (refine WL.stepR (okE_alloc (fun w => Tryz.zeroValue44 w)) rfl rfl rfl ?_
                  rintro _ h5 ⟨b18, rfl, hg5, hb5, hx5⟩))
  all_goals (refine Go ?_)
  all_goals (first
               | (refine Br.keep ?_)
               | (refine WL.stepR0 (okE_storeW (fun w => Tryz.sizeOf44 w) rfl rfl rfl hb5 rfl (by simp [Value.oneCell'])) rfl rfl ?_
                  rintro _ h6 ⟨hb6, hx6⟩))
  all_goals (first | (refine Br.keep ?_) | (have y6 : Ext No h4 h6 := y4.trans (hx5.trans' hx6 (fun q hq e => by omega))))
  all_goals (refine Gn ?_)
  all_goals (first | (refine Br.keep ?_) | (refine WC.sub [(9, _), (15, _), (16, _), (17, _), (18, _), (70, _), (71, _), (72, _)] ⟨rfl, rfl, rfl, rfl, rfl, rfl, rfl, rfl, trivial⟩ ?_))
  all_goals (first | (refine Br.keep ?_) | (refine WC.sr ?_))
  all_goals (refine Go ?_)
  all_goals (first | (refine Br.keep ?_) | (refine WC.sub [(9, _), (15, _), (16, _), (17, _), (18, _), (19, _), (70, _), (71, _), (72, _)] ⟨rfl, rfl, rfl, rfl, rfl, rfl, rfl, rfl, rfl, trivial⟩ ?_))
  all_goals (first | (refine Br.keep ?_) | (refine WC.seq ?_))
  all_goals (first | (refine Br.keep ?_) | (refine WC.sr ?_))
  all_goals (refine Go ?_)
  all_goals (first | (refine Br.keep ?_) | (refine WL.step (ok_load (fun w => Tryz.isAgg4 w) rfl (by first | exact cell_blk hb6 rfl | assumption | exact cell_blk (by assumption) rfl)) rfl rfl rfl ?_))
  all_goals (refine Go ?_)
  all_goals (first | (refine Br.keep ?_) | (first | (refine WL.step (OkP.bool_t (by rfl) (ok_eqlB Tryz.underlying4 rfl rfl)) rfl rfl rfl ?_) | (refine WL.step (OkP.bool_f (by decide) (ok_eqlB Tryz.underlying4 rfl rfl)) rfl rfl rfl ?_) | (refine WL.step (ok_eqlB Tryz.underlying4 rfl rfl) rfl rfl rfl ?_)))
  all_goals (refine Gn ?_)
  all_goals (first | (refine Br.keep ?_) | (refine goC 7 8 ?_ ?_ <;> first | exact ⟨⟩ | refine Hb.mk fun hb => ?_ | skip))
  all_goals (first | (fail_if_success refine goB 7 ?_) | (
  refine goB 7 ?_
  all_goals (refine WC.sr ?_)
  all_goals (refine Go ?_)
  all_goals (refine WC.sub [(10, _)] ⟨rfl, trivial⟩ ?_)
  all_goals (refine WC.ret ?_)
  all_goals (repeat' (with_reducible first | refine thenP_r ?_ | refine blockP_r ?_))
  all_goals (refine retP_1 _ ⟨rfl, trivial⟩ ?_)
  all_goals (first | exact ⟨rfl, X3.trans hx4⟩ | exact ⟨rfl, (X4.trans y4).trans hx7⟩ | exact ⟨rfl, ((X4.trans y4).trans hC).trans hx7⟩ | (exfalso; first | omega | simp_all))
  skip))
  all_goals (first | (fail_if_success refine goB 8 ?_) | (
  refine goB 8 ?_
  all_goals (refine WC.skip ?_)
  skip))
  all_goals (refine Gn ?_)
  all_goals (first | (refine Br.keep ?_) | (refine WC.sub [(9, _), (15, _), (16, _), (17, _), (18, _), (19, _), (70, _), (71, _), (72, _)] ⟨rfl, rfl, rfl, rfl, rfl, rfl, rfl, rfl, rfl, trivial⟩ ?_))
  all_goals (first | (refine Br.keep ?_) | (refine WC.sr ?_))
  all_goals (refine Go ?_)
  all_goals (first | (refine Br.keep ?_) | (first | (refine WL.un 88 rfl ?_) | (refine goP 88 ?_ ?_ <;> first | exact ⟨⟩ | refine Hb.mk fun hb => ?_ | skip)))
  all_goals (refine Gg ?_)
  all_goals (first | (refine Br.keep ?_) | (first | (refine WL.pass rfl rfl rfl ?_) | (refine WL.step (ok_idxAddrA Tryz.underlying36 (fun w => Tryz.sizeOf27 w) rfl rfl rfl (by omega) (by first | rfl | assumption)) rfl rfl rfl ?_)))
  all_goals (refine Gg ?_)
  all_goals (first | (refine Br.keep ?_) | (first | (refine WL.pass rfl rfl rfl ?_) | (refine WL.step (ok_load (fun w => Tryz.isAgg5 w) rfl (by first | exact hcF _ y6 _ (by omega) | assumption | exact cell_blk (by assumption) rfl)) rfl rfl rfl ?_)))
  all_goals (first | (refine Br.keep ?_) | (first | (refine WL.pass rfl rfl rfl ?_) | (first | (refine WL.step (OkP.nbool_t (by omega) (ok_neq rfl rfl)) rfl rfl rfl ?_) | (refine WL.step (OkP.nbool_f (by omega) (ok_neq rfl rfl)) rfl rfl rfl ?_) | (refine WL.step (ok_neq rfl rfl) rfl rfl rfl ?_))))
  all_goals (first | (refine Br.keep ?_) | (first | (refine WL.pass rfl rfl rfl ?_) | (refine WL.step (ok_move rfl) rfl rfl rfl ?_)))
  all_goals (first | (refine Br.keep ?_) | (first | (refine WL.un 95 rfl ?_) | (refine goP 95 ?_ ?_ <;> first | exact ⟨⟩ | refine Hb.mk fun hb => ?_ | skip)))
  all_goals (refine Gg ?_)
  all_goals (first | (refine Br.keep ?_) | (first | (refine WL.pass rfl rfl rfl ?_) | (refine WL.step (ok_load (fun w => Tryz.isAgg3 w) rfl (by first | exact cell_blk hb6 rfl | assumption | exact cell_blk (by assumption) rfl)) rfl rfl rfl ?_)))
  all_goals (refine Gg ?_)
  all_goals (refine Go ?_)
  all_goals (first | (refine Br.keep ?_) | (first | (refine WL.un 101 rfl ?_) | (refine goP 101 ?_ ?_ <;> first | exact ⟨⟩ | refine Hb.mk fun hb => ?_ | skip)))
  all_goals (refine Gg ?_)
  all_goals (first | (refine Br.keep ?_) | (first | (refine WL.pass rfl rfl rfl ?_) | (refine WL.step (ok_idxAddrA Tryz.underlying36 (fun w => Tryz.sizeOf27 w) rfl rfl rfl (by omega) (by first | rfl | assumption)) rfl rfl rfl ?_)))
  all_goals (refine Gg ?_)
  all_goals (first | (refine Br.keep ?_) | (first | (refine WL.pass rfl rfl rfl ?_) | (refine WL.step (ok_load (fun w => Tryz.isAgg5 w) rfl (by first | exact hcF _ y6 _ (by omega) | assumption | exact cell_blk (by assumption) rfl)) rfl rfl rfl ?_)))
  all_goals (first | (refine Br.keep ?_) | (first | (refine WL.pass rfl rfl rfl ?_) | (first | (refine WL.step (OkP.nbool_t (by omega) (ok_neq rfl rfl)) rfl rfl rfl ?_) | (refine WL.step (OkP.nbool_f (by omega) (ok_neq rfl rfl)) rfl rfl rfl ?_) | (refine WL.step (ok_neq rfl rfl) rfl rfl rfl ?_))))
  all_goals (first | (refine Br.keep ?_) | (first | (refine WL.pass rfl rfl rfl ?_) | (refine WL.step (ok_move rfl) rfl rfl rfl ?_)))
  all_goals (first | (refine Br.keep ?_) | (first | (refine WL.un 108 rfl ?_) | (refine goP 108 ?_ ?_ <;> first | exact ⟨⟩ | refine Hb.mk fun hb => ?_ | skip)))
  all_goals (refine Gg ?_)
  all_goals (first | (refine Br.keep ?_) | (first | (refine WL.pass rfl rfl rfl ?_) | (refine WL.step (ok_load (fun w => Tryz.isAgg3 w) rfl (by first | exact cell_blk hb6 rfl | assumption | exact cell_blk (by assumption) rfl)) rfl rfl rfl ?_)))
  all_goals (first | (refine Br.keep ?_) | (first | (refine WL.pass rfl rfl rfl ?_) | (first | (refine WL.step (OkP.nbool_t (by omega) (ok_neq rfl rfl)) rfl rfl rfl ?_) | (refine WL.step (OkP.nbool_f (by omega) (ok_neq rfl rfl)) rfl rfl rfl ?_) | (refine WL.step (ok_neq rfl rfl) rfl rfl rfl ?_))))
  all_goals (first | (refine Br.keep ?_) | (first | (refine WL.pass rfl rfl rfl ?_) | (first | (refine WL.step (ok_pick_t rfl rfl) rfl rfl rfl ?_) | (refine WL.step (ok_pick_f rfl rfl) rfl rfl rfl ?_))))
  all_goals (first | (refine Br.keep ?_) | (first | (refine WL.pass rfl rfl rfl ?_) | (refine WL.step (ok_move rfl) rfl rfl rfl ?_)))
  all_goals (first | (refine Br.keep ?_) | (first | (refine WL.un 113 rfl ?_) | (refine goP 113 ?_ ?_ <;> first | exact ⟨⟩ | refine Hb.mk fun hb => ?_ | skip)))
  all_goals (first | (refine Br.keep ?_) | (first | (refine WL.pass rfl rfl rfl ?_) | (refine WL.step (ok_move rfl) rfl rfl rfl ?_)))
  all_goals (first | (refine Br.keep ?_) | (first | (refine WL.pass rfl rfl rfl ?_) | (refine WL.step (ok_move rfl) rfl rfl rfl ?_)))
  all_goals (first | (refine Br.keep ?_) | (first | (refine WL.pass rfl rfl rfl ?_) | (refine WL.step (ok_lenL rfl Tryz.underlying37 rfl) rfl rfl rfl ?_)))
  all_goals (first | (refine Br.keep ?_) | (skip))
  all_goals (first | (refine Br.keep ?_) | (first | (refine WL.pass rfl rfl rfl ?_) | (first | (refine WL.step (ok_subI rfl rfl (by omega)) rfl rfl rfl ?_) | (refine WL.step (ok_sub rfl rfl) rfl rfl rfl ?_))))
  all_goals (refine Gg ?_)
  all_goals (refine Go ?_)
  all_goals (first | (refine Br.keep ?_) | (refine WC.sub [(9, _), (15, _), (16, _), (70, _), (71, _), (72, _), (120, _)] ⟨rfl, rfl, rfl, rfl, rfl, rfl, rfl, trivial⟩ ?_))
  all_goals (first | (refine Br.keep ?_) | (refine goC 9 10 ?_ ?_ <;> first | exact ⟨⟩ | refine Hb.mk fun hb => ?_ | skip))
  all_goals (first | (fail_if_success refine goB 9 ?_) | (
  refine goB 9 ?_
  all_goals (refine WC.sr ?_)
  all_goals (refine Go ?_)
  all_goals (refine WC.sub [(10, _)] ⟨rfl, trivial⟩ ?_)
  all_goals (refine WC.ret ?_)
  all_goals (repeat' (with_reducible first | refine thenP_r ?_ | refine blockP_r ?_))
  all_goals (refine retP_1 _ ⟨rfl, trivial⟩ ?_)
  all_goals (first | exact ⟨rfl, X3.trans hx4⟩ | exact ⟨rfl, (X4.trans y4).trans hx7⟩ | exact ⟨rfl, ((X4.trans y4).trans hC).trans hx7⟩ | (exfalso; first | omega | simp_all))
  skip))
  all_goals (first | (fail_if_success refine goB 10 ?_) | (
  refine goB 10 ?_
  all_goals (refine WC.skip ?_)
  skip))
  all_goals (refine Gn ?_)
  all_goals (first | (refine Br.keep ?_) | (refine WC.region ?_))
  all_goals (refine Go ?_)
  all_goals (first | (refine Br.keep ?_) | (exact ⟨k + 1, ⟨rfl, rfl, rfl, rfl, rfl, rfl, trivial⟩, (by exact ⟨by omega, y6⟩), (by (try simp only []); omega)⟩))
  all_goals (try (refine Br.mk (i := 1000) ?_))
  all_goals (refine Gn ?_)
  all_goals (refine WC.sub [(9, _), (15, _)] ⟨rfl, rfl, trivial⟩ ?_)
  all_goals (refine WC.seq ?_)
  all_goals (refine WC.seq ?_)
  all_goals (refine WC.drawH (fun h' => Ext No h4' h') 15 15 rfl fol ?_)
  all_goals (have hlast : L.length = 0 ∨ ∃ bF iF, 0 < L.length ∧ AF = some ⟨bF, iF, none⟩ ∧ ∀ g, Ext No h4 g → ∀ p, p = iF + (L.length - 1) * 10 → cell g ⟨bF, p, none⟩ = some (.int .u8 fk) := by
              by_cases hz : L.length = 0
              · exact .inl hz
              · obtain ⟨bF, iF, hAF, _, hatF⟩ := Rd.at_ oF (by omega)
                obtain ⟨f', hf'⟩ : ∃ e, L[L.length - 1]? = some e := ⟨_, List.getElem?_eq_getElem (by omega)⟩
                have hk := om.last _ _ hf' (by omega)
                exact .inr ⟨bF, iF, by omega, hAF, fun g x p hp => by have := (At.elem Fm.len (hatF.ext x nos) hf').get (p := p) 0 rfl (by omega); rw [this, ← hk]⟩
             have hb4' := y4.obj hb4 nos
             rcases hlast with hz | ⟨bF, iF, hz, hAF, hcL⟩)
  all_goals (refine WH.tk 0 rfl (fun hq hC => ok_move rfl) rfl rfl rfl ?_)
  all_goals (refine WH.tk 1 rfl (fun hq hC => ok_lenL rfl Tryz.underlying36 rfl) rfl rfl rfl ?_)
  all_goals (first | (refine WH.tk 2 rfl (fun hq hC => OkP.bool_t (by omega) (ok_gtr rfl rfl)) rfl rfl rfl ?_) | (refine WH.tk 2 rfl (fun hq hC => OkP.bool_f (by omega) (ok_gtr rfl rfl)) rfl rfl rfl ?_) | (refine WH.tk 2 rfl (fun hq hC => ok_gtr rfl rfl) rfl rfl rfl ?_))
  all_goals (refine WH.tk 3 rfl (fun hq hC => ok_move rfl) rfl rfl rfl ?_)
  all_goals (try ((fail_if_success (refine WH.part 125 (b := true) rfl (fun _ => ?_) (fun _ => ?_))); (fail_if_success (refine WH.part 125 (b := false) rfl (fun _ => ?_) (fun _ => ?_))); (refine WH.part 125 rfl (fun hb => ?_) (fun hb => ?_))))
  all_goals (first | (refine WH.ps 4 rfl rfl rfl rfl ?_) | (refine WH.tk 4 rfl (fun hq hC => ok_move rfl) rfl rfl rfl ?_))
  all_goals (first | (refine WH.ps 5 rfl rfl rfl rfl ?_) | (refine WH.tk 5 rfl (fun hq hC => ok_move rfl) rfl rfl rfl ?_))
  all_goals (first | (refine WH.ps 6 rfl rfl rfl rfl ?_) | (refine WH.tk 6 rfl (fun hq hC => ok_lenL rfl Tryz.underlying36 rfl) rfl rfl rfl ?_))
  all_goals (first | (refine WH.ps 7 rfl rfl rfl rfl ?_) | (first | (refine WH.tk 7 rfl (fun hq hC => ok_subI rfl rfl (by omega)) rfl rfl rfl ?_) | (refine WH.tk 7 rfl (fun hq hC => ok_sub rfl rfl) rfl rfl rfl ?_)))
  all_goals (first | rw [show ((L.length : Int) - 1) = ((L.length - 1 : Nat) : Int) by omega] | skip)
  all_goals (first | (refine WH.ps 8 rfl rfl rfl rfl ?_) | (refine WH.tk 8 rfl (fun hq hC => ok_idxAddrA Tryz.underlying36 (fun w => Tryz.sizeOf27 w) rfl rfl rfl (by omega) (by first | rfl | assumption)) rfl rfl rfl ?_))
  all_goals (first | (refine WH.ps 9 rfl rfl rfl rfl ?_) | (refine WH.tk 9 rfl (fun hq hC => ok_fieldAddr rfl Tryz.underlying27 rfl (fun w => Tryz.sizeOf5 w)) rfl rfl rfl ?_))
  all_goals (first | (refine WH.ps 10 rfl rfl rfl rfl ?_) | (refine WH.tk 10 rfl (fun hq hC => ok_load (fun w => Tryz.isAgg5 w) rfl (by first | exact hC.cell (by first | exact hcL _ y4 _ (by first | rfl | omega) | assumption | exact cell_blk (by assumption) rfl) nos)) rfl rfl rfl ?_))
  all_goals (first | (refine WH.ps 11 rfl rfl rfl rfl ?_) | (refine WH.tk 11 rfl (fun hq hC => ok_fieldAddr rfl Tryz.underlying27 rfl (fun w => Tryz.sizeOf5 w)) rfl rfl rfl ?_))
  all_goals (first | (refine WH.ps 12 rfl rfl rfl rfl ?_) | (refine WH.tk 12 rfl (fun hq hC => ok_load (fun w => Tryz.isAgg5 w) rfl (by first | exact hC.cell (by first | exact cell_blk hb4' rfl | assumption | exact cell_blk (by assumption) rfl) nos)) rfl rfl rfl ?_))
  all_goals (first | (refine WH.ps 13 rfl rfl rfl rfl ?_) | (first | (refine WH.tk 13 rfl (fun hq hC => OkP.nbool_t (by omega) (ok_neq rfl rfl)) rfl rfl rfl ?_) | (refine WH.tk 13 rfl (fun hq hC => OkP.nbool_f (by omega) (ok_neq rfl rfl)) rfl rfl rfl ?_) | (refine WH.tk 13 rfl (fun hq hC => ok_neq rfl rfl) rfl rfl rfl ?_)))
  all_goals (first | (refine WH.tk 14 rfl (fun hq hC => ok_pick_t rfl rfl) rfl rfl rfl ?_) | (refine WH.tk 14 rfl (fun hq hC => ok_pick_f rfl rfl) rfl rfl rfl ?_))
  all_goals (refine WH.done (by kernel_rfl) ?_)
  all_goals (refine Gn ?_)
  all_goals (refine WC.sub [(136, _)] ⟨rfl, trivial⟩ ?_)
  all_goals (refine goC 11 12 ?_ ?_ <;> first | exact ⟨⟩ | refine Hb.mk fun hb => ?_ | skip)
  all_goals (first | (fail_if_success refine goB 11 ?_) | (
  refine goB 11 ?_
  all_goals (refine WC.sr ?_)
  all_goals (refine Go ?_)
  all_goals (refine WC.ret ?_)
  all_goals (repeat' (with_reducible first | refine thenP_r ?_ | refine blockP_r ?_))
  all_goals (refine retP_1 _ ⟨rfl, trivial⟩ ?_)
  all_goals (first | exact ⟨rfl, X3.trans hx4⟩ | exact ⟨rfl, (X4.trans y4).trans hx7⟩ | exact ⟨rfl, ((X4.trans y4).trans hC).trans hx7⟩ | (exfalso; first | omega | simp_all))
  skip))
  all_goals (first | (fail_if_success refine goB 12 ?_) | (
  refine goB 12 ?_
  all_goals (refine WC.skip ?_)
  skip))
  all_goals (refine Gn ?_)
  all_goals (refine WC.sr ?_)
  all_goals (refine WL.call (vs := []) rfl (fun a w => Tryz.call7 a w) rfl (awake24) rfl rfl rfl ?_
             rintro _ h7 ⟨rfl, hx7⟩)
  all_goals (refine Go ?_)
  all_goals (refine WC.ret ?_)
  all_goals (repeat' (with_reducible first | refine thenP_r ?_ | refine blockP_r ?_))
  all_goals (refine retP_1 _ ⟨rfl, trivial⟩ ?_)
  all_goals (first | exact ⟨rfl, X3.trans hx4⟩ | exact ⟨rfl, (X4.trans y4).trans hx7⟩ | exact ⟨rfl, ((X4.trans y4).trans hC).trans hx7⟩ | (exfalso; first | omega | simp_all))
namespace LRewriteOwn
open Go.ChangeShapes Go.WideShapes Go.ChangeAt Go.RowKit
open Go.ChangeMaps (open_string shut_string)
theorem own : ownKnob Tryz.prog.godebug = none := by kernel_rfl
theorem laidOut : laidOutB Tryz.prog = true := by kernel_rfl
set_option maxRecDepth 100000 in
theorem lifted (os : Os) (started : os.Started) (H : Type) (enc : TypeId × Value → H) :
    ReturnsInHanded {} Tryz.checked os 3 .any (Rows.rewriteOwnSpec.pre6 enc Tryz.prog Tryz.f3 Rows.rewriteOwnRow.domain false) (Rows.rewriteOwnSpec.post enc Tryz.prog Tryz.f3 false true false false) := by
  refine returnsInHanded_of_change_sized (C := Tryz.checked) own started (by kernel_rfl) Tryz.func3
    (ChangeSpec.witness6 (enc := enc) (C := Tryz.checked) false ⟨#[], #[.slice none 0 0, .slice none 0 0, .slice none 0 0, .int .i64 0, .agg #[(.int .u8 0), (.int .u8 0), (.string ByteArray.empty), (.string ByteArray.empty), (.string ByteArray.empty), (.slice none 0 0), (.slice none 0 0), (.slice none 0 0), (.slice none 0 0), (.int .i64 0)]], []⟩ 8 (by kernel_rfl) (by kernel_rfl) (by kernel_rfl) (by kernel_rfl)) ?_
  intro W base args ds gs before hval0 hW hcnd hsz0 _
  have hval : ∀ (j : Nat) t v, Tryz.f3.params[j]? = some t → args[j]? = some v → Value.okWide Tryz.prog W .any base t v := hval0
  have hsz := hsz0
  rw [Tryz.params3] at hsz
  clear hsz0
  have hW' := hW
  obtain ⟨p, q, hA0, hV, rfl, hfz, hnd⟩ := hW
  have hA : DataW.TrodAll enc Tryz.prog W 0 (fun _ => true) true Tryz.f3.params.toList args.toList ds p := hA0
  rw [Tryz.params3] at hA hval
  obtain ⟨v0, vs0, d0, ds0, p0, q0, hargs, rfl, rfl, h0, r0⟩ := trodAll_cons hA
  obtain ⟨v1, vs1, d1, ds1, p1, q1, rfl, rfl, rfl, h1, r1⟩ := trodAll_cons r0
  obtain ⟨v2, vs2, d2, ds2, p2, q2, rfl, rfl, rfl, h2, r2⟩ := trodAll_cons r1
  obtain ⟨v3, vs3, d3, ds3, p3, q3, rfl, rfl, rfl, h3, r3⟩ := trodAll_cons r2
  obtain ⟨v4, vs4, d4, ds4, p4, q4, rfl, rfl, rfl, h4, r4⟩ := trodAll_cons r3
  obtain ⟨rfl, rfl, rfl⟩ := trodAll_nil r4
  obtain rfl : args = #[v0, v1, v2, v3, v4] := by cases args; simp_all
  obtain ⟨rfl, rfl⟩ := trodVars_none hV
  have hz0 : ∀ n ∈ d0.weights Tryz.prog 22, n ≤ reachBytes := fun n hn => by simpa using List.all_eq_true.1 hsz n (DataW.weights_mem_each (j := 0) rfl rfl n hn)
  have k0 := h0
  have lt0 : ∀ x ∈ p0, x.block < W.heap.size := by obtain ⟨m, hm⟩ := k0; exact DataW.trod_lt m _ _ _ hm
  obtain ⟨A0, n0, c0, rfl⟩ := okWide_slice Tryz.underlying22 (hval 0 22 v0 rfl rfl)
  obtain ⟨fu0, hf0⟩ := h0
  obtain ⟨⟨v0, l0⟩, e0, w0⟩ := opens_stms W _ _ _ _ _ _ _ _ hf0 hz0
  obtain rfl : .slice A0 n0 c0 = v0 := by simpa [Value.cells] using e0
  have hz1 : ∀ n ∈ d1.weights Tryz.prog 23, n ≤ reachBytes := fun n hn => by simpa using List.all_eq_true.1 hsz n (DataW.weights_mem_each (j := 1) rfl rfl n hn)
  have k1 := h1
  have lt1 : ∀ x ∈ p1, x.block < W.heap.size := by obtain ⟨m, hm⟩ := k1; exact DataW.trod_lt m _ _ _ hm
  obtain ⟨A1, n1, c1, rfl⟩ := okWide_slice Tryz.underlying23 (hval 1 23 v1 rfl rfl)
  obtain ⟨fu1, hf1⟩ := h1
  obtain ⟨⟨v1, l1⟩, e1, w1⟩ := opens_texts W _ _ _ _ _ _ _ _ hf1 hz1
  obtain rfl : .slice A1 n1 c1 = v1 := by simpa [Value.cells] using e1
  have hz2 : ∀ n ∈ d2.weights Tryz.prog 24, n ≤ reachBytes := fun n hn => by simpa using List.all_eq_true.1 hsz n (DataW.weights_mem_each (j := 2) rfl rfl n hn)
  have k2 := h2
  have lt2 : ∀ x ∈ p2, x.block < W.heap.size := by obtain ⟨m, hm⟩ := k2; exact DataW.trod_lt m _ _ _ hm
  obtain ⟨A2, n2, c2, rfl⟩ := okWide_slice Tryz.underlying24 (hval 2 24 v2 rfl rfl)
  obtain ⟨fu2, hf2⟩ := h2
  obtain ⟨⟨v2, l2⟩, e2, w2⟩ := opens_ints14 W _ _ _ _ _ _ _ _ hf2 hz2
  obtain rfl : .slice A2 n2 c2 = v2 := by simpa [Value.cells] using e2
  have hz3 : ∀ n ∈ d3.weights Tryz.prog 3, n ≤ reachBytes := fun n hn => by simpa using List.all_eq_true.1 hsz n (DataW.weights_mem_each (j := 3) rfl rfl n hn)
  have k3 := h3
  have lt3 : ∀ x ∈ p3, x.block < W.heap.size := by obtain ⟨m, hm⟩ := k3; exact DataW.trod_lt m _ _ _ hm
  obtain ⟨a3, rfl, e3, _, w3⟩ := open_int Tryz.underlying3 (hval 3 3 v3 rfl rfl) h3
  have hz4 : ∀ n ∈ d4.weights Tryz.prog 27, n ≤ reachBytes := fun n hn => by simpa using List.all_eq_true.1 hsz n (DataW.weights_mem_each (j := 4) rfl rfl n hn)
  have k4 := h4
  have lt4 : ∀ x ∈ p4, x.block < W.heap.size := by obtain ⟨m, hm⟩ := k4; exact DataW.trod_lt m _ _ _ hm
  obtain ⟨cs4, rfl, hsz4⟩ := okWide_struct Tryz.underlying27 (hval 4 27 v4 rfl rfl)
  obtain ⟨fu4, hf4⟩ := h4
  obtain ⟨a4, e4, w4⟩ := opens_fm W _ _ _ _ _ _ _ _ hf4 hz4
  obtain ⟨cs4⟩ := cs4
  obtain rfl := (show cs4 = _ from e4)
  clear hA0 hval0
  refine (law_calls (own24 l0 l1 l2 a3 a4 w0.1 w0.2.1 w0.2.2 w1.1 w1.2 w2.1 (by have q : l2.length * 8 ≤ reachBytes := w2.2; unfold reachBytes at q; unfold maxLen; omega) w4.1 w4.2)).mono fun e W' ⟨he, bel⟩ => ?_
  subst he
  exact ⟨_, rfl, _, _, _, [], _, [], hW', trodAll_mk1 (shut_bool Tryz.underlying4 _), (trodAll_cons_mk (Below.trod laidOut (by kernel_rfl) (of_decide_eq_true (by kernel_rfl)) k0 bel lt0) (trodAll_cons_mk (Below.trod laidOut (by kernel_rfl) (of_decide_eq_true (by kernel_rfl)) k1 bel lt1) (trodAll_cons_mk (Below.trod laidOut (by kernel_rfl) (of_decide_eq_true (by kernel_rfl)) k2 bel lt2) (trodAll_cons_mk (Below.trod laidOut (by kernel_rfl) (of_decide_eq_true (by kernel_rfl)) k3 bel lt3) (trodAll_cons_mk (Below.trod laidOut (by kernel_rfl) (of_decide_eq_true (by kernel_rfl)) k4 bel lt4) trodAll_mk0))))), rfl, bel.frame _, fun h => by cases h⟩
theorem over : Rows.rewriteOwnRow.holds Tryz.pinned (OpenSpec.ofChange Rows.rewriteOwnSpec) :=
  OpenClaim.holds_of_wide 3 Tryz.f3 rfl rfl rfl rfl rfl rfl rfl ⟨rfl, rfl, rfl, rfl, rfl⟩ rfl rfl rfl rfl rfl (by kernel_rfl) Tryz.func3 (by kernel_rfl)
    (of_decide_eq_true (by kernel_rfl)) (by unfold Func.isWrapper; first | (rw [if_pos (by decide +kernel)]; kernel_rfl) | (rw [if_neg (by decide +kernel)]; exact ⟨rfl, rfl⟩))
    (fun os started H enc _ => lifted os started H enc)
end LRewriteOwn
theorem rewriteOwn_proved : Rows.RewriteOwnSaid := LRewriteOwn.over
#print axioms rewriteOwn_proved
end Go.Proofs.YtggmocdbfbhklaaGreat

