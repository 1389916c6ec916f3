/-
  PortalFetches holds: rows are fetched once each, in their order, in whatever parts.
-/
import Derived.Test.YtgfbilmlgibbfaaPort3
import Derived.Test.YtgfbilmlgibbfaaRows
namespace Go.Proofs.Ytgfbilmlgibbfaa
open Go Go.RK

structure FI (h0 h : Heap) (b m p : Nat) (R : List Rw) (vg : Value) (done : List Rw) (d : PD) : Prop where
  port : P1 h b m p [112] d
  ran : d.ran = true
  over : d.over = true → d.rs = []
  own : Own h vg 36 1 done.length (done.map Rw.v)
  rows : ∀ r ∈ done, Cels h r.v r.l
  pl : (done ++ d.rs).map Rw.pl = R.map Rw.pl
  ext : Ext No h0 h
  gp : h0.size ≤ p
  fg : ∀ k, vg.ownBlock = some k → h0.size ≤ k ∧ k ≠ p ∧ k ≠ b ∧ k ≠ m
  ap : ∀ r ∈ done, ∀ k, CelsF r.v r.l k → k ≠ p ∧ vg.ownBlock ≠ some k
  ad : ∀ k, d.F k → vg.ownBlock ≠ some k
theorem FI.next {h0 h h1 h2 : Heap} {b m p n : Nat} {R : List Rw} {vg vg2 wo vr' : Value} {done : List Rw} {d : PD} {ov : Bool} (i : FI h0 h b m p R vg done d) (R1 : Rws h1 wo (d.rs.take n)) (P1' : P1 h1 b m p [112] { d with vr := vr', rs := d.rs.drop n, over := ov }) (hov : ov = true → d.rs.drop n = [])
    (t : ∀ k, RwsF wo (d.rs.take n) k → RwsF d.vr d.rs k) (u : ∀ k, RwsF vr' (d.rs.drop n) k → RwsF d.vr d.rs k) (x1 : Ext (fun k => k = p) h h1) (o2 : Own h2 vg2 36 1 (done.length + (d.rs.take n).length) (done.map Rw.v ++ (d.rs.take n).map Rw.v)) (x2 : Ext (fun k => vg.ownBlock = some k) h1 h2) (hl : vg2.ownBlock = vg.ownBlock ∨ vg2.ownBlock = some h1.size) :
    FI h0 h2 b m p R vg2 (done ++ d.rs.take n) { d with vr := vr', rs := d.rs.drop n, over := ov } := by
  have s0 := i.ext.size
  have s1 := x1.size
  have hF : ∀ k, PD.F { d with vr := vr', rs := d.rs.drop n, over := ov } k → d.F k := fun k hk => by
    rcases hk with hk | hk | hk
    · exact .inl hk
    · exact .inr (.inl hk)
    · exact .inr (.inr (u k hk))
  have hT : ∀ r ∈ d.rs.take n, ∀ k, CelsF r.v r.l k → d.F k := fun r hr k hk => .inr (.inr (t k (.inr ⟨r, hr, hk⟩)))
  have hb := lt_of_some P1'.set
  have hm := P1'.map.lt
  have hp := lt_of_some P1'.blk
  have hgl : ∀ k, vg.ownBlock = some k → k < h.size := fun k e => i.own.lt e
  refine ⟨P1'.ext x2 (fun e => (i.fg b e).2.2.1 rfl) (fun e => (i.fg m e).2.2.2 rfl) (fun e => (i.fg p e).2.1 rfl) (fun k hk e => i.ad k (hF k hk) e), i.ran, hov, ?_, fun r hr => ?_, ?_, (i.ext.trans' x1 fun k hk e => ?_).trans' x2 fun k hk e => ?_, i.gp, fun k e => ?_, fun r hr k hk => ?_, fun k hk e => ?_⟩
  · rw [List.length_append, List.map_append]; exact o2
  · rcases List.mem_append.1 hr with hr | hr
    · exact ((i.rows r hr).ext x1 fun k hk e => (i.ap r hr k hk).1 e).ext x2 fun k hk e => (i.ap r hr k hk).2 e
    · exact (R1.2.2 r hr).ext x2 fun k hk e => i.ad k (hT r hr k hk) e
  · rw [List.append_assoc, List.take_append_drop]; exact i.pl
  · have := i.gp; omega
  · have := (i.fg k e).1; omega
  · rcases hl with hl | hl
    · exact i.fg k (hl ▸ e)
    · rw [hl] at e; simp only [Option.some.injEq] at e; exact ⟨by omega, by omega, by omega, by omega⟩
  · rcases List.mem_append.1 hr with hr | hr
    · obtain ⟨a1, a2⟩ := i.ap r hr k hk
      have := (i.rows r hr).lt hk
      refine ⟨a1, fun e => ?_⟩
      rcases hl with hl | hl
      · exact a2 (hl ▸ e)
      · rw [hl] at e; simp only [Option.some.injEq] at e; omega
    · have f1 := hT r hr k hk
      have := (R1.2.2 r hr).lt hk
      refine ⟨i.port.apart k f1, fun e => ?_⟩
      rcases hl with hl | hl
      · exact i.ad k f1 (hl ▸ e)
      · rw [hl] at e; simp only [Option.some.injEq] at e; omega
  · have := P1'.ok.lt hk
    rcases hl with hl | hl
    · exact i.ad k (hF k hk) (hl ▸ e)
    · rw [hl] at e; simp only [Option.some.injEq] at e; omega
theorem FI.len {h0 h : Heap} {b m p : Nat} {R : List Rw} {vg : Value} {done : List Rw} {d : PD} (i : FI h0 h b m p R vg done d) : done.length + d.rs.length = R.length := by
  simpa using congrArg List.length i.pl
set_option maxRecDepth 100000 in
theorem fetches_many {h : Heap} {v w : Value} (R : List Rw) (l : List UInt8) (hR : Rws h v R) (hl : Rd h w 1 l.length (bys l)) (hm : l.length ≤ reachBytes) (hbig : 40 < R.length ∨ 60 < l.length) :
    CallsH Try.prog 5 ⟨[v, w]⟩ h fun u h' => u = .bool true ∧ Ext No h h' := by
  obtain ⟨_, ⟨_, A, c, rfl, _⟩, _⟩ := id hR
  obtain ⟨B, e, rfl, _⟩ := id hl
  rcases hbig with hbig | hbig
  ·
    refine calls [(0, _), (1, _)] Try.func5 rfl Try.ntmps5 rfl ⟨rfl, rfl, trivial⟩ ?_
    all_goals (refine WC.seq ?_)
    all_goals (refine WC.region ?_)
    all_goals (refine WL.step (ok_assign rfl) rfl rfl rfl ?_)
    all_goals (refine WL.nil ?_)
    all_goals (repeat' (with_reducible first | refine thenP_n ?_ | refine blockP_n ?_))
    all_goals (refine WC.seq ?_)
    all_goals (refine WC.seq ?_)
    all_goals (refine WC.region ?_)
    all_goals (refine WL.step (ok_move rfl) rfl rfl rfl ?_)
    all_goals (refine WL.step (ok_lenL rfl Try.underlying37 rfl) rfl rfl rfl ?_)
    all_goals (first | (refine WL.step (OkP.bool_t (by omega) (ok_gtr rfl rfl)) rfl rfl rfl ?_) | (refine WL.step (OkP.bool_f (by omega) (ok_gtr rfl rfl)) rfl rfl rfl ?_) | (refine WL.step (ok_gtr rfl rfl) rfl rfl rfl ?_))
    all_goals (refine WL.step (ok_move rfl) rfl rfl rfl ?_)
    all_goals (try ((fail_if_success (refine WL.part 16 (b := true) rfl (fun _ => ?_) (fun _ => ?_))); (fail_if_success (refine WL.part 16 (b := false) rfl (fun _ => ?_) (fun _ => ?_))); (refine WL.part 16 rfl (fun hb => ?_) (fun hb => ?_) <;> (first | replace hb := of_decide_eq_true hb | replace hb := of_decide_eq_false hb | replace hb := of_decide_eq_false (nt hb) | replace hb := of_decide_eq_true (nf hb) | skip))))
    all_goals (first | (refine WL.pass rfl rfl rfl ?_) | (refine WL.step (ok_move rfl) rfl rfl rfl ?_))
    all_goals (first | (refine WL.pass rfl rfl rfl ?_) | (refine WL.step (ok_lenL rfl Try.underlying51 rfl) rfl rfl rfl ?_))
    all_goals (first | (refine WL.pass rfl rfl rfl ?_) | (first | (refine WL.step (OkP.bool_t (by omega) (ok_gtr rfl rfl)) rfl rfl rfl ?_) | (refine WL.step (OkP.bool_f (by omega) (ok_gtr rfl rfl)) rfl rfl rfl ?_) | (refine WL.step (ok_gtr rfl rfl) rfl rfl rfl ?_)))
    all_goals (first | (refine WL.step (ok_pick_t rfl rfl) rfl rfl rfl ?_) | (refine WL.step (ok_pick_f rfl rfl) rfl rfl rfl ?_))
    all_goals (refine WL.nil ?_)
    all_goals (repeat' (with_reducible first | refine thenP_n ?_ | refine blockP_n ?_))
    all_goals (refine WC.sub [(0, _), (1, _), (20, _)] ⟨rfl, rfl, rfl, trivial⟩ ?_)
    all_goals (first | refine WC.condB_t 1 rfl ?_ | refine WC.condB_f 2 rfl ?_ | (refine WC.condB 1 2 rfl (fun hb => ?_) (fun hb => ?_) <;> (first | replace hb := of_decide_eq_true hb | replace hb := of_decide_eq_false hb | replace hb := of_decide_eq_false (nt hb) | replace hb := of_decide_eq_true (nf hb) | skip)))
    all_goals (first
      | (fail_if_success (refine Br.mk (i := 1) ?_))
      | (refine Br.mk (i := 1) ?_
         all_goals (refine WC.seq ?_)
         all_goals (refine WC.region ?_)
         all_goals (refine WL.call (vs := []) rfl (fun a w => Try.call31 a w) rfl (awake28) rfl rfl rfl ?_
                    rintro _ h2 ⟨rfl, hx2⟩)
         all_goals (refine WL.step (ok_assign rfl) rfl rfl rfl ?_)
         all_goals (refine WL.nil ?_)
         all_goals (repeat' (with_reducible first | refine thenP_n ?_ | refine blockP_n ?_))
         all_goals (refine WC.sub [(4, _)] ⟨rfl, trivial⟩ ?_)
         all_goals (refine WC.ret ?_)
         all_goals (repeat' (with_reducible first | refine thenP_r ?_ | refine blockP_r ?_))
         all_goals (refine retP_1 _ ⟨rfl, trivial⟩ ?_)
         all_goals (exact ⟨rfl, hx2⟩)
         skip))
    all_goals (first
      | (fail_if_success (refine Br.mk (i := 2) ?_))
      | (refine Br.mk (i := 2) ?_
         all_goals (refine WC.skip ?_)
         skip))
    all_goals (repeat' (with_reducible first | refine thenP_n ?_ | refine blockP_n ?_))
    all_goals (refine WC.seq ?_)
    all_goals (refine WC.region ?_)
    all_goals (fail "no contract for call of remuda/portal.New at 3.0")
    all_goals (refine WL.step (ok_assign rfl) rfl rfl rfl ?_)
    all_goals (refine WL.nil ?_)
    all_goals (repeat' (with_reducible first | refine thenP_n ?_ | refine blockP_n ?_))
    all_goals (refine WC.seq ?_)
    all_goals (refine WC.seq ?_)
    all_goals (refine WC.region ?_)
    all_goals (refine WL.step (ok_move rfl) rfl rfl rfl ?_)
    all_goals (refine WL.step (ok_eqlPn Try.underlying52 rfl rfl) rfl rfl rfl ?_)
    all_goals (refine WL.step (ok_move rfl) rfl rfl rfl ?_)
    all_goals (try ((fail_if_success (refine WL.part 25 (b := true) rfl (fun _ => ?_) (fun _ => ?_))); (fail_if_success (refine WL.part 25 (b := false) rfl (fun _ => ?_) (fun _ => ?_))); (refine WL.part 25 rfl (fun hb => ?_) (fun hb => ?_) <;> (first | replace hb := of_decide_eq_true hb | replace hb := of_decide_eq_false hb | replace hb := of_decide_eq_false (nt hb) | replace hb := of_decide_eq_true (nf hb) | skip))))
    all_goals (first | (refine WL.pass rfl rfl rfl ?_) | (refine WL.step (ok_move rfl) rfl rfl rfl ?_))
    all_goals (first | (refine WL.pass rfl rfl rfl ?_) | (refine WL.step (ok_buildF (vs := []) (cs := [_, _, _, _, _, _]) (fun | [] => [(St []), (.slice none 0 0), (.slice none 0 0), (.slice none 0 0), (.bool false), (.bool false)] | _ => []) rfl rfl (by kernel_rfl)) rfl rfl rfl ?_))
    all_goals (first | (refine WL.pass rfl rfl rfl ?_) | (fail "no contract for call of (*remuda/portal.Set).Put at 4.5"))
    all_goals (first | (refine WL.pass rfl rfl rfl ?_) | (first | (refine WL.step (OkP.nbool_t (by omega) (ok_neq rfl rfl)) rfl rfl rfl ?_) | (refine WL.step (OkP.nbool_f (by omega) (ok_neq rfl rfl)) rfl rfl rfl ?_) | (refine WL.step (ok_neq rfl rfl) rfl rfl rfl ?_)))
    all_goals (first | (refine WL.step (ok_pick_t rfl rfl) rfl rfl rfl ?_) | (refine WL.step (ok_pick_f rfl rfl) rfl rfl rfl ?_))
    all_goals (refine WL.step (ok_move rfl) rfl rfl rfl ?_)
    all_goals (try ((fail_if_success (refine WL.part 31 (b := true) rfl (fun _ => ?_) (fun _ => ?_))); (fail_if_success (refine WL.part 31 (b := false) rfl (fun _ => ?_) (fun _ => ?_))); (refine WL.part 31 rfl (fun hb => ?_) (fun hb => ?_) <;> (first | replace hb := of_decide_eq_true hb | replace hb := of_decide_eq_false hb | replace hb := of_decide_eq_false (nt hb) | replace hb := of_decide_eq_true (nf hb) | skip))))
    all_goals (first | (refine WL.pass rfl rfl rfl ?_) | (refine WL.step (ok_move rfl) rfl rfl rfl ?_))
    all_goals (first | (refine WL.pass rfl rfl rfl ?_) | (refine WL.step (ok_move rfl) rfl rfl rfl ?_))
    all_goals (first | (refine WL.pass rfl rfl rfl ?_) | (fail "no contract for call of (*remuda/portal.Set).Ran at 4.11"))
    all_goals (first | (refine WL.pass rfl rfl rfl ?_) | (refine WL.step (ok_not rfl) rfl rfl rfl ?_))
    all_goals (first | (refine WL.step (ok_pick_t rfl rfl) rfl rfl rfl ?_) | (refine WL.step (ok_pick_f rfl rfl) rfl rfl rfl ?_))
    all_goals (refine WL.step (ok_move rfl) rfl rfl rfl ?_)
    all_goals (try ((fail_if_success (refine WL.part 37 (b := true) rfl (fun _ => ?_) (fun _ => ?_))); (fail_if_success (refine WL.part 37 (b := false) rfl (fun _ => ?_) (fun _ => ?_))); (refine WL.part 37 rfl (fun hb => ?_) (fun hb => ?_) <;> (first | replace hb := of_decide_eq_true hb | replace hb := of_decide_eq_false hb | replace hb := of_decide_eq_false (nt hb) | replace hb := of_decide_eq_true (nf hb) | skip))))
    all_goals (first | (refine WL.pass rfl rfl rfl ?_) | (refine WL.step (ok_move rfl) rfl rfl rfl ?_))
    all_goals (first | (refine WL.pass rfl rfl rfl ?_) | (fail "no contract for call of (*remuda/portal.Set).Ran at 4.16"))
    all_goals (first | (refine WL.step (ok_pick_t rfl rfl) rfl rfl rfl ?_) | (refine WL.step (ok_pick_f rfl rfl) rfl rfl rfl ?_))
    all_goals (refine WL.nil ?_)
    all_goals (repeat' (with_reducible first | refine thenP_n ?_ | refine blockP_n ?_))
    all_goals (refine WC.sub [(0, _), (1, _), (5, _), (40, _)] ⟨rfl, rfl, rfl, rfl, trivial⟩ ?_)
    all_goals (first | refine WC.condB_t 3 rfl ?_ | refine WC.condB_f 4 rfl ?_ | (refine WC.condB 3 4 rfl (fun hb => ?_) (fun hb => ?_) <;> (first | replace hb := of_decide_eq_true hb | replace hb := of_decide_eq_false hb | replace hb := of_decide_eq_false (nt hb) | replace hb := of_decide_eq_true (nf hb) | skip)))
    all_goals (first
      | (fail_if_success (refine Br.mk (i := 3) ?_))
      | (refine Br.mk (i := 3) ?_
         all_goals (refine WC.seq ?_)
         all_goals (refine WC.region ?_)
         all_goals (refine WL.step (ok_assign rfl) rfl rfl rfl ?_)
         all_goals (refine WL.nil ?_)
         all_goals (repeat' (with_reducible first | refine thenP_n ?_ | refine blockP_n ?_))
         all_goals (refine WC.sub [(4, _)] ⟨rfl, trivial⟩ ?_)
         all_goals (refine WC.ret ?_)
         all_goals (repeat' (with_reducible first | refine thenP_r ?_ | refine blockP_r ?_))
         all_goals (refine retP_1 _ ⟨rfl, trivial⟩ ?_)
         all_goals (exact ⟨rfl, hx2⟩)
         skip))
    all_goals (first
      | (fail_if_success (refine Br.mk (i := 4) ?_))
      | (refine Br.mk (i := 4) ?_
         all_goals (refine WC.skip ?_)
         skip))
    all_goals (repeat' (with_reducible first | refine thenP_n ?_ | refine blockP_n ?_))
    all_goals (refine WC.seq ?_)
    all_goals (refine WC.region ?_)
    all_goals (refine WL.step (ok_assign rfl) rfl rfl rfl ?_)
    all_goals (refine WL.nil ?_)
    all_goals (repeat' (with_reducible first | refine thenP_n ?_ | refine blockP_n ?_))
    all_goals (refine WC.seq ?_)
    all_goals (refine WC.seq ?_)
    all_goals (refine WC.region ?_)
    all_goals (refine WL.step (ok_move rfl) rfl rfl rfl ?_)
    all_goals (refine WL.step (ok_lenL rfl Try.underlying51 rfl) rfl rfl rfl ?_)
    all_goals (refine WL.step (ok_move rfl) rfl rfl rfl ?_)
    all_goals (refine WL.nil ?_)
    all_goals (repeat' (with_reducible first | refine thenP_n ?_ | refine blockP_n ?_))
    all_goals (refine WC.block ?_)
    -- loop 0: slots that turn [6, 43], that stay [0, 5, 41, 42]
    all_goals (refine WC.loopG (fun x => (None : Fr)) [(0, _), (5, _), (41, _), (42, _)] (None) (None) (None) ⟨rfl, rfl, rfl, rfl, rfl, rfl, trivial⟩ (by exact ⟨⟩) ?_)
    all_goals (rintro x h1 hI)
    all_goals (refine WC.sub [(6, _), (43, _), (0, _), (5, _), (41, _), (42, _)] ⟨rfl, rfl, rfl, rfl, rfl, rfl, trivial⟩ ?_)
    all_goals (refine WC.seq ?_)
    all_goals (refine WC.region ?_)
    all_goals (first | (refine WL.step (OkP.bool_t (by omega) (ok_lss rfl rfl)) rfl rfl rfl ?_) | (refine WL.step (OkP.bool_f (by omega) (ok_lss rfl rfl)) rfl rfl rfl ?_) | (refine WL.step (ok_lss rfl rfl) rfl rfl rfl ?_))
    all_goals (refine WL.nil ?_)
    all_goals (repeat' (with_reducible first | refine thenP_n ?_ | refine blockP_n ?_))
    all_goals (refine WC.seq ?_)
    all_goals (first | refine WC.condB_t 5 rfl ?_ | refine WC.condB_f 6 rfl ?_ | (refine WC.condB 5 6 rfl (fun hb => ?_) (fun hb => ?_) <;> (first | replace hb := of_decide_eq_true hb | replace hb := of_decide_eq_false hb | replace hb := of_decide_eq_false (nt hb) | replace hb := of_decide_eq_true (nf hb) | skip)))
    all_goals (first
      | (fail_if_success (refine Br.mk (i := 5) ?_))
      | (refine Br.mk (i := 5) ?_
         all_goals (refine WC.skip ?_)
         skip))
    all_goals (first
      | (fail_if_success (refine Br.mk (i := 6) ?_))
      | (refine Br.mk (i := 6) ?_
         all_goals (refine WC.exit ?_)
         all_goals (repeat' (with_reducible first | refine thenP_x ?_ | refine blockP_miss rfl ?_ | refine blockP_hit ?_ | refine blockP_n ?_ | refine thenP_n ?_))
         all_goals (refine Br.out (i := 1000) ?_)
         skip))
    all_goals (first | (refine Br.keep ?_) | (repeat' (with_reducible first | refine thenP_n ?_ | refine blockP_n ?_)))
    all_goals (first | (refine Br.keep ?_) | (refine WC.seq ?_))
    all_goals (first | (refine Br.keep ?_) | (refine WC.block ?_))
    all_goals (first | (refine Br.keep ?_) | (refine WC.seq ?_))
    all_goals (first | (refine Br.keep ?_) | (refine WC.region ?_))
    all_goals (first | (refine Br.keep ?_) | (refine WL.step (ok_idxAddrA Try.underlying51 (fun w => Try.sizeOf5 w) rfl rfl rfl (by omega) (by first | rfl | assumption)) rfl rfl rfl ?_))
    all_goals (first | (refine Br.keep ?_) | (refine WL.step (ok_load (fun w => Try.isAgg5 w) rfl (by first | assumption | exact cell_blk (by assumption) rfl)) rfl rfl rfl ?_))
    all_goals (first | (refine Br.keep ?_) | (refine WL.step (ok_assign rfl) rfl rfl rfl ?_))
    all_goals (first | (refine Br.keep ?_) | (refine WL.nil ?_))
    all_goals (first | (refine Br.keep ?_) | (repeat' (with_reducible first | refine thenP_n ?_ | refine blockP_n ?_)))
    all_goals (first | (refine Br.keep ?_) | (refine WC.seq ?_))
    all_goals (first | (refine Br.keep ?_) | (refine WC.region ?_))
    all_goals (first | (refine Br.keep ?_) | (refine WL.step (ok_move rfl) rfl rfl rfl ?_))
    all_goals (first | (refine Br.keep ?_) | (refine WL.step (ok_move rfl) rfl rfl rfl ?_))
    all_goals (first | (refine Br.keep ?_) | (refine WL.step (ok_rem rfl rfl (by decide)) rfl rfl rfl ?_))
    all_goals (first | (refine Br.keep ?_) | (first | (refine WL.step (ok_convI Try.underlying5 Try.underlying3 rfl (by omega)) rfl rfl rfl ?_) | (refine WL.step (ok_conv Try.underlying5 Try.underlying3 rfl) rfl rfl rfl ?_)))
    all_goals (first | (refine Br.keep ?_) | (first | (refine WL.step (ok_addI rfl rfl (by omega)) rfl rfl rfl ?_) | (refine WL.step (ok_add rfl rfl) rfl rfl rfl ?_)))
    all_goals (first | (refine Br.keep ?_) | (fail "no contract for call of (*remuda/portal.Set).Fetch at 10.5"))
    all_goals (first | (refine Br.keep ?_) | (refine WL.step (ok_move rfl) rfl rfl rfl ?_))
    all_goals (first | (refine Br.keep ?_) | (refine WL.step (ok_extract rfl rfl) rfl rfl rfl ?_))
    all_goals (first | (refine Br.keep ?_) | (refine WL.step (ok_extract rfl rfl) rfl rfl rfl ?_))
    all_goals (first | (refine Br.keep ?_) | (refine WL.step (ok_assign rfl) rfl rfl rfl ?_))
    all_goals (first | (refine Br.keep ?_) | (refine WL.step (ok_assign rfl) rfl rfl rfl ?_))
    all_goals (first | (refine Br.keep ?_) | (refine WL.nil ?_))
    all_goals (first | (refine Br.keep ?_) | (repeat' (with_reducible first | refine thenP_n ?_ | refine blockP_n ?_)))
    all_goals (first | (refine Br.keep ?_) | (refine WC.sub [(0, _), (5, _), (6, _), (8, _), (9, _), (10, _), (41, _), (42, _), (43, _)] ⟨rfl, rfl, rfl, rfl, rfl, rfl, rfl, rfl, rfl, trivial⟩ ?_))
    all_goals (first | (refine Br.keep ?_) | (refine WC.seq ?_))
    all_goals (first | (refine Br.keep ?_) | (refine WC.region ?_))
    all_goals (first | (refine Br.keep ?_) | (refine WL.step (ok_move rfl) rfl rfl rfl ?_))
    all_goals (first | (refine Br.keep ?_) | (refine WL.step (ok_move rfl) rfl rfl rfl ?_))
    all_goals (first
                 | (refine Br.keep ?_)
                 | (refine WL.stepR (ok_append (sz := 1) (bytes := 24) rfl Try.underlying37 (show Try.prog.info? 36 = some Try.t36 by kernel_rfl) rfl rfl rfl rfl (by decide) rfl rfl (by assumption) (by first | assumption | exact rd_blk (by assumption) rfl) (by simp [Value.oneCell']) (by simp only [maxLen]; omega) (by omega)) rfl rfl rfl ?_
                    rintro v1 h1 ⟨ho1, hx1, hl1⟩))
    all_goals (first | (refine Br.keep ?_) | (refine WL.step (ok_assign rfl) rfl rfl rfl ?_))
    all_goals (first | (refine Br.keep ?_) | (refine WL.nil ?_))
    all_goals (first | (refine Br.keep ?_) | (repeat' (with_reducible first | refine thenP_n ?_ | refine blockP_n ?_)))
    all_goals (first | (refine Br.keep ?_) | (refine WC.seq ?_))
    all_goals (first | (refine Br.keep ?_) | (refine WC.region ?_))
    all_goals (first | (refine Br.keep ?_) | (refine WL.step (ok_move rfl) rfl rfl rfl ?_))
    all_goals (first | (refine Br.keep ?_) | (refine WL.step (ok_move rfl) rfl rfl rfl ?_))
    all_goals (first | (refine Br.keep ?_) | (refine WL.step (ok_lenL rfl Try.underlying37 rfl) rfl rfl rfl ?_))
    all_goals (first | (refine Br.keep ?_) | (refine WL.step (ok_move rfl) rfl rfl rfl ?_))
    all_goals (first | (refine Br.keep ?_) | (refine WL.step (ok_lenL rfl Try.underlying37 rfl) rfl rfl rfl ?_))
    all_goals (first | (refine Br.keep ?_) | (first | (refine WL.step (OkP.bool_t (by omega) (ok_lss rfl rfl)) rfl rfl rfl ?_) | (refine WL.step (OkP.bool_f (by omega) (ok_lss rfl rfl)) rfl rfl rfl ?_) | (refine WL.step (ok_lss rfl rfl) rfl rfl rfl ?_)))
    all_goals (first | (refine Br.keep ?_) | (first | (refine WL.step (OkP.nbool_f (by rfl) (ok_neqB Try.underlying4 rfl rfl)) rfl rfl rfl ?_) | (refine WL.step (OkP.nbool_t (by decide) (ok_neqB Try.underlying4 rfl rfl)) rfl rfl rfl ?_) | (refine WL.step (ok_neqB Try.underlying4 rfl rfl) rfl rfl rfl ?_)))
    all_goals (first | (refine Br.keep ?_) | (refine WL.step (ok_move rfl) rfl rfl rfl ?_))
    all_goals (first | (refine Br.keep ?_) | (try ((fail_if_success (refine WL.part 66 (b := true) rfl (fun _ => ?_) (fun _ => ?_))); (fail_if_success (refine WL.part 66 (b := false) rfl (fun _ => ?_) (fun _ => ?_))); (refine WL.part 66 rfl (fun hb => ?_) (fun hb => ?_) <;> (first | replace hb := of_decide_eq_true hb | replace hb := of_decide_eq_false hb | replace hb := of_decide_eq_false (nt hb) | replace hb := of_decide_eq_true (nf hb) | skip)))))
    all_goals (first | (refine Br.keep ?_) | (first | (refine WL.pass rfl rfl rfl ?_) | (refine WL.step (ok_move rfl) rfl rfl rfl ?_)))
    all_goals (first | (refine Br.keep ?_) | (first | (refine WL.pass rfl rfl rfl ?_) | (refine WL.step (ok_lenL rfl Try.underlying37 rfl) rfl rfl rfl ?_)))
    all_goals (first | (refine Br.keep ?_) | (first | (refine WL.pass rfl rfl rfl ?_) | (refine WL.step (ok_move rfl) rfl rfl rfl ?_)))
    all_goals (first | (refine Br.keep ?_) | (first | (refine WL.pass rfl rfl rfl ?_) | (refine WL.step (ok_rem rfl rfl (by decide)) rfl rfl rfl ?_)))
    all_goals (first | (refine Br.keep ?_) | (first | (refine WL.pass rfl rfl rfl ?_) | (first | (refine WL.step (ok_convI Try.underlying5 Try.underlying3 rfl (by omega)) rfl rfl rfl ?_) | (refine WL.step (ok_conv Try.underlying5 Try.underlying3 rfl) rfl rfl rfl ?_))))
    all_goals (first | (refine Br.keep ?_) | (first | (refine WL.pass rfl rfl rfl ?_) | (first | (refine WL.step (ok_addI rfl rfl (by omega)) rfl rfl rfl ?_) | (refine WL.step (ok_add rfl rfl) rfl rfl rfl ?_))))
    all_goals (first | (refine Br.keep ?_) | (first | (refine WL.pass rfl rfl rfl ?_) | (first | (refine WL.step (OkP.bool_t (by omega) (ok_gtr rfl rfl)) rfl rfl rfl ?_) | (refine WL.step (OkP.bool_f (by omega) (ok_gtr rfl rfl)) rfl rfl rfl ?_) | (refine WL.step (ok_gtr rfl rfl) rfl rfl rfl ?_))))
    all_goals (first | (refine Br.keep ?_) | (first | (refine WL.step (ok_pick_t rfl rfl) rfl rfl rfl ?_) | (refine WL.step (ok_pick_f rfl rfl) rfl rfl rfl ?_)))
    all_goals (first | (refine Br.keep ?_) | (refine WL.nil ?_))
    all_goals (first | (refine Br.keep ?_) | (repeat' (with_reducible first | refine thenP_n ?_ | refine blockP_n ?_)))
    all_goals (first | (refine Br.keep ?_) | (refine WC.sub [(0, _), (5, _), (6, _), (41, _), (42, _), (43, _), (74, _)] ⟨rfl, rfl, rfl, rfl, rfl, rfl, rfl, trivial⟩ ?_))
    all_goals (first | (refine Br.keep ?_) | (first | refine WC.condB_t 7 rfl ?_ | refine WC.condB_f 8 rfl ?_ | (refine WC.condB 7 8 rfl (fun hb => ?_) (fun hb => ?_) <;> (first | replace hb := of_decide_eq_true hb | replace hb := of_decide_eq_false hb | replace hb := of_decide_eq_false (nt hb) | replace hb := of_decide_eq_true (nf hb) | skip))))
    all_goals (first
      | (fail_if_success (refine Br.mk (i := 7) ?_))
      | (refine Br.mk (i := 7) ?_
         all_goals (refine WC.seq ?_)
         all_goals (refine WC.region ?_)
         all_goals (refine WL.step (ok_assign rfl) rfl rfl rfl ?_)
         all_goals (refine WL.nil ?_)
         all_goals (repeat' (with_reducible first | refine thenP_n ?_ | refine blockP_n ?_))
         all_goals (refine WC.sub [(4, _)] ⟨rfl, trivial⟩ ?_)
         all_goals (refine WC.ret ?_)
         all_goals (repeat' (with_reducible first | refine thenP_r ?_ | refine blockP_r ?_))
         all_goals (refine retP_1 _ ⟨rfl, trivial⟩ ?_)
         all_goals (exact ⟨rfl, hx2⟩)
         skip))
    all_goals (first
      | (fail_if_success (refine Br.mk (i := 8) ?_))
      | (refine Br.mk (i := 8) ?_
         all_goals (refine WC.skip ?_)
         skip))
    all_goals (first | (refine Br.keep ?_) | (repeat' (with_reducible first | refine thenP_n ?_ | refine blockP_n ?_)))
    all_goals (first | (refine Br.keep ?_) | (refine WC.region ?_))
    all_goals (first | (refine Br.keep ?_) | (first | (refine WL.step (ok_addI rfl rfl (by omega)) rfl rfl rfl ?_) | (refine WL.step (ok_add rfl rfl) rfl rfl rfl ?_)))
    all_goals (first | (refine Br.keep ?_) | (refine WL.step (ok_move rfl) rfl rfl rfl ?_))
    all_goals (first | (refine Br.keep ?_) | (refine WL.nil ?_))
    all_goals (first | (refine Br.keep ?_) | (repeat' (with_reducible first | refine thenP_n ?_ | refine blockP_n ?_)))
    all_goals (first | (refine Br.keep ?_) | (exact ⟨None, ⟨rfl, rfl, rfl, rfl, rfl, rfl, trivial⟩, (by exact ⟨⟩), (by simp; omega)⟩))
    all_goals (try (refine Br.mk (i := 1000) ?_))
    all_goals (repeat' (with_reducible first | refine thenP_n ?_ | refine blockP_n ?_))
    all_goals (refine WC.sub [(0, _), (5, _), (6, _)] ⟨rfl, rfl, rfl, trivial⟩ ?_)
    all_goals (refine WC.seq ?_)
    all_goals (refine WC.region ?_)
    all_goals (refine WL.step (ok_move rfl) rfl rfl rfl ?_)
    all_goals (fail "no contract for call of (*remuda/portal.Set).Fetch at 15.1")
    all_goals (refine WL.step (ok_move rfl) rfl rfl rfl ?_)
    all_goals (refine WL.step (ok_extract rfl rfl) rfl rfl rfl ?_)
    all_goals (refine WL.step (ok_extract rfl rfl) rfl rfl rfl ?_)
    all_goals (refine WL.step (ok_assign rfl) rfl rfl rfl ?_)
    all_goals (refine WL.step (ok_assign rfl) rfl rfl rfl ?_)
    all_goals (refine WL.nil ?_)
    all_goals (repeat' (with_reducible first | refine thenP_n ?_ | refine blockP_n ?_))
    all_goals (refine WC.sub [(0, _), (6, _), (11, _), (12, _)] ⟨rfl, rfl, rfl, rfl, trivial⟩ ?_)
    all_goals (refine WC.seq ?_)
    all_goals (refine WC.region ?_)
    all_goals (refine WL.step (ok_move rfl) rfl rfl rfl ?_)
    all_goals (refine WL.step (ok_move rfl) rfl rfl rfl ?_)
    all_goals (refine WL.stepR (ok_append (sz := 1) (bytes := 24) rfl Try.underlying37 (show Try.prog.info? 36 = some Try.t36 by kernel_rfl) rfl rfl rfl rfl (by decide) rfl rfl (by assumption) (by first | assumption | exact rd_blk (by assumption) rfl) (by simp [Value.oneCell']) (by simp only [maxLen]; omega) (by omega)) rfl rfl rfl ?_
               rintro v1 h1 ⟨ho1, hx1, hl1⟩)
    all_goals (refine WL.step (ok_move rfl) rfl rfl rfl ?_)
    all_goals (fail "no contract for call of remuda/remudalaw28.rows at 16.4")
    all_goals (refine WL.step (ok_move rfl) rfl rfl rfl ?_)
    all_goals (try ((fail_if_success (refine WL.part 86 (b := true) rfl (fun _ => ?_) (fun _ => ?_))); (fail_if_success (refine WL.part 86 (b := false) rfl (fun _ => ?_) (fun _ => ?_))); (refine WL.part 86 rfl (fun hb => ?_) (fun hb => ?_) <;> (first | replace hb := of_decide_eq_true hb | replace hb := of_decide_eq_false hb | replace hb := of_decide_eq_false (nt hb) | replace hb := of_decide_eq_true (nf hb) | skip))))
    all_goals (first | (refine WL.pass rfl rfl rfl ?_) | (refine WL.step (ok_move rfl) rfl rfl rfl ?_))
    all_goals (first | (refine WL.pass rfl rfl rfl ?_) | (refine WL.step (ok_not rfl) rfl rfl rfl ?_))
    all_goals (first | (refine WL.step (ok_pick_t rfl rfl) rfl rfl rfl ?_) | (refine WL.step (ok_pick_f rfl rfl) rfl rfl rfl ?_))
    all_goals (refine WL.step (ok_move rfl) rfl rfl rfl ?_)
    all_goals (try ((fail_if_success (refine WL.part 90 (b := true) rfl (fun _ => ?_) (fun _ => ?_))); (fail_if_success (refine WL.part 90 (b := false) rfl (fun _ => ?_) (fun _ => ?_))); (refine WL.part 90 rfl (fun hb => ?_) (fun hb => ?_) <;> (first | replace hb := of_decide_eq_true hb | replace hb := of_decide_eq_false hb | replace hb := of_decide_eq_false (nt hb) | replace hb := of_decide_eq_true (nf hb) | skip))))
    all_goals (first | (refine WL.pass rfl rfl rfl ?_) | (fail "no contract for call of remuda/remudalaw28.awake at 16.10"))
    all_goals (first | (refine WL.step (ok_pick_t rfl rfl) rfl rfl rfl ?_) | (refine WL.step (ok_pick_f rfl rfl) rfl rfl rfl ?_))
    all_goals (refine WL.step (ok_assign rfl) rfl rfl rfl ?_)
    all_goals (refine WL.nil ?_)
    all_goals (repeat' (with_reducible first | refine thenP_n ?_ | refine blockP_n ?_))
    all_goals (refine WC.sub [(4, _)] ⟨rfl, trivial⟩ ?_)
    all_goals (refine WC.ret ?_)
    all_goals (repeat' (with_reducible first | refine thenP_r ?_ | refine blockP_r ?_))
    all_goals (refine retP_1 _ ⟨rfl, trivial⟩ ?_)
    all_goals (exact ⟨rfl, hx2⟩)
  · by_cases h4 : 40 < R.length
    ·
      refine calls [(0, _), (1, _)] Try.func5 rfl Try.ntmps5 rfl ⟨rfl, rfl, trivial⟩ ?_
      all_goals (refine WC.seq ?_)
      all_goals (refine WC.region ?_)
      all_goals (refine WL.step (ok_assign rfl) rfl rfl rfl ?_)
      all_goals (refine WL.nil ?_)
      all_goals (repeat' (with_reducible first | refine thenP_n ?_ | refine blockP_n ?_))
      all_goals (refine WC.seq ?_)
      all_goals (refine WC.seq ?_)
      all_goals (refine WC.region ?_)
      all_goals (refine WL.step (ok_move rfl) rfl rfl rfl ?_)
      all_goals (refine WL.step (ok_lenL rfl Try.underlying37 rfl) rfl rfl rfl ?_)
      all_goals (first | (refine WL.step (OkP.bool_t (by omega) (ok_gtr rfl rfl)) rfl rfl rfl ?_) | (refine WL.step (OkP.bool_f (by omega) (ok_gtr rfl rfl)) rfl rfl rfl ?_) | (refine WL.step (ok_gtr rfl rfl) rfl rfl rfl ?_))
      all_goals (refine WL.step (ok_move rfl) rfl rfl rfl ?_)
      all_goals (try ((fail_if_success (refine WL.part 16 (b := true) rfl (fun _ => ?_) (fun _ => ?_))); (fail_if_success (refine WL.part 16 (b := false) rfl (fun _ => ?_) (fun _ => ?_))); (refine WL.part 16 rfl (fun hb => ?_) (fun hb => ?_) <;> (first | replace hb := of_decide_eq_true hb | replace hb := of_decide_eq_false hb | replace hb := of_decide_eq_false (nt hb) | replace hb := of_decide_eq_true (nf hb) | skip))))
      all_goals (first | (refine WL.pass rfl rfl rfl ?_) | (refine WL.step (ok_move rfl) rfl rfl rfl ?_))
      all_goals (first | (refine WL.pass rfl rfl rfl ?_) | (refine WL.step (ok_lenL rfl Try.underlying51 rfl) rfl rfl rfl ?_))
      all_goals (first | (refine WL.pass rfl rfl rfl ?_) | (first | (refine WL.step (OkP.bool_t (by omega) (ok_gtr rfl rfl)) rfl rfl rfl ?_) | (refine WL.step (OkP.bool_f (by omega) (ok_gtr rfl rfl)) rfl rfl rfl ?_) | (refine WL.step (ok_gtr rfl rfl) rfl rfl rfl ?_)))
      all_goals (first | (refine WL.step (ok_pick_t rfl rfl) rfl rfl rfl ?_) | (refine WL.step (ok_pick_f rfl rfl) rfl rfl rfl ?_))
      all_goals (refine WL.nil ?_)
      all_goals (repeat' (with_reducible first | refine thenP_n ?_ | refine blockP_n ?_))
      all_goals (refine WC.sub [(0, _), (1, _), (20, _)] ⟨rfl, rfl, rfl, trivial⟩ ?_)
      all_goals (first | refine WC.condB_t 1 rfl ?_ | refine WC.condB_f 2 rfl ?_ | (refine WC.condB 1 2 rfl (fun hb => ?_) (fun hb => ?_) <;> (first | replace hb := of_decide_eq_true hb | replace hb := of_decide_eq_false hb | replace hb := of_decide_eq_false (nt hb) | replace hb := of_decide_eq_true (nf hb) | skip)))
      all_goals (first
        | (fail_if_success (refine Br.mk (i := 1) ?_))
        | (refine Br.mk (i := 1) ?_
           all_goals (refine WC.seq ?_)
           all_goals (refine WC.region ?_)
           all_goals (refine WL.call (vs := []) rfl (fun a w => Try.call31 a w) rfl (awake28) rfl rfl rfl ?_
                      rintro _ h2 ⟨rfl, hx2⟩)
           all_goals (refine WL.step (ok_assign rfl) rfl rfl rfl ?_)
           all_goals (refine WL.nil ?_)
           all_goals (repeat' (with_reducible first | refine thenP_n ?_ | refine blockP_n ?_))
           all_goals (refine WC.sub [(4, _)] ⟨rfl, trivial⟩ ?_)
           all_goals (refine WC.ret ?_)
           all_goals (repeat' (with_reducible first | refine thenP_r ?_ | refine blockP_r ?_))
           all_goals (refine retP_1 _ ⟨rfl, trivial⟩ ?_)
           all_goals (exact ⟨rfl, hx2⟩)
           skip))
      all_goals (first
        | (fail_if_success (refine Br.mk (i := 2) ?_))
        | (refine Br.mk (i := 2) ?_
           all_goals (refine WC.skip ?_)
           skip))
      all_goals (repeat' (with_reducible first | refine thenP_n ?_ | refine blockP_n ?_))
      all_goals (refine WC.seq ?_)
      all_goals (refine WC.region ?_)
      all_goals (fail "no contract for call of remuda/portal.New at 3.0")
      all_goals (refine WL.step (ok_assign rfl) rfl rfl rfl ?_)
      all_goals (refine WL.nil ?_)
      all_goals (repeat' (with_reducible first | refine thenP_n ?_ | refine blockP_n ?_))
      all_goals (refine WC.seq ?_)
      all_goals (refine WC.seq ?_)
      all_goals (refine WC.region ?_)
      all_goals (refine WL.step (ok_move rfl) rfl rfl rfl ?_)
      all_goals (refine WL.step (ok_eqlPn Try.underlying52 rfl rfl) rfl rfl rfl ?_)
      all_goals (refine WL.step (ok_move rfl) rfl rfl rfl ?_)
      all_goals (try ((fail_if_success (refine WL.part 25 (b := true) rfl (fun _ => ?_) (fun _ => ?_))); (fail_if_success (refine WL.part 25 (b := false) rfl (fun _ => ?_) (fun _ => ?_))); (refine WL.part 25 rfl (fun hb => ?_) (fun hb => ?_) <;> (first | replace hb := of_decide_eq_true hb | replace hb := of_decide_eq_false hb | replace hb := of_decide_eq_false (nt hb) | replace hb := of_decide_eq_true (nf hb) | skip))))
      all_goals (first | (refine WL.pass rfl rfl rfl ?_) | (refine WL.step (ok_move rfl) rfl rfl rfl ?_))
      all_goals (first | (refine WL.pass rfl rfl rfl ?_) | (refine WL.step (ok_buildF (vs := []) (cs := [_, _, _, _, _, _]) (fun | [] => [(St []), (.slice none 0 0), (.slice none 0 0), (.slice none 0 0), (.bool false), (.bool false)] | _ => []) rfl rfl (by kernel_rfl)) rfl rfl rfl ?_))
      all_goals (first | (refine WL.pass rfl rfl rfl ?_) | (fail "no contract for call of (*remuda/portal.Set).Put at 4.5"))
      all_goals (first | (refine WL.pass rfl rfl rfl ?_) | (first | (refine WL.step (OkP.nbool_t (by omega) (ok_neq rfl rfl)) rfl rfl rfl ?_) | (refine WL.step (OkP.nbool_f (by omega) (ok_neq rfl rfl)) rfl rfl rfl ?_) | (refine WL.step (ok_neq rfl rfl) rfl rfl rfl ?_)))
      all_goals (first | (refine WL.step (ok_pick_t rfl rfl) rfl rfl rfl ?_) | (refine WL.step (ok_pick_f rfl rfl) rfl rfl rfl ?_))
      all_goals (refine WL.step (ok_move rfl) rfl rfl rfl ?_)
      all_goals (try ((fail_if_success (refine WL.part 31 (b := true) rfl (fun _ => ?_) (fun _ => ?_))); (fail_if_success (refine WL.part 31 (b := false) rfl (fun _ => ?_) (fun _ => ?_))); (refine WL.part 31 rfl (fun hb => ?_) (fun hb => ?_) <;> (first | replace hb := of_decide_eq_true hb | replace hb := of_decide_eq_false hb | replace hb := of_decide_eq_false (nt hb) | replace hb := of_decide_eq_true (nf hb) | skip))))
      all_goals (first | (refine WL.pass rfl rfl rfl ?_) | (refine WL.step (ok_move rfl) rfl rfl rfl ?_))
      all_goals (first | (refine WL.pass rfl rfl rfl ?_) | (refine WL.step (ok_move rfl) rfl rfl rfl ?_))
      all_goals (first | (refine WL.pass rfl rfl rfl ?_) | (fail "no contract for call of (*remuda/portal.Set).Ran at 4.11"))
      all_goals (first | (refine WL.pass rfl rfl rfl ?_) | (refine WL.step (ok_not rfl) rfl rfl rfl ?_))
      all_goals (first | (refine WL.step (ok_pick_t rfl rfl) rfl rfl rfl ?_) | (refine WL.step (ok_pick_f rfl rfl) rfl rfl rfl ?_))
      all_goals (refine WL.step (ok_move rfl) rfl rfl rfl ?_)
      all_goals (try ((fail_if_success (refine WL.part 37 (b := true) rfl (fun _ => ?_) (fun _ => ?_))); (fail_if_success (refine WL.part 37 (b := false) rfl (fun _ => ?_) (fun _ => ?_))); (refine WL.part 37 rfl (fun hb => ?_) (fun hb => ?_) <;> (first | replace hb := of_decide_eq_true hb | replace hb := of_decide_eq_false hb | replace hb := of_decide_eq_false (nt hb) | replace hb := of_decide_eq_true (nf hb) | skip))))
      all_goals (first | (refine WL.pass rfl rfl rfl ?_) | (refine WL.step (ok_move rfl) rfl rfl rfl ?_))
      all_goals (first | (refine WL.pass rfl rfl rfl ?_) | (fail "no contract for call of (*remuda/portal.Set).Ran at 4.16"))
      all_goals (first | (refine WL.step (ok_pick_t rfl rfl) rfl rfl rfl ?_) | (refine WL.step (ok_pick_f rfl rfl) rfl rfl rfl ?_))
      all_goals (refine WL.nil ?_)
      all_goals (repeat' (with_reducible first | refine thenP_n ?_ | refine blockP_n ?_))
      all_goals (refine WC.sub [(0, _), (1, _), (5, _), (40, _)] ⟨rfl, rfl, rfl, rfl, trivial⟩ ?_)
      all_goals (first | refine WC.condB_t 3 rfl ?_ | refine WC.condB_f 4 rfl ?_ | (refine WC.condB 3 4 rfl (fun hb => ?_) (fun hb => ?_) <;> (first | replace hb := of_decide_eq_true hb | replace hb := of_decide_eq_false hb | replace hb := of_decide_eq_false (nt hb) | replace hb := of_decide_eq_true (nf hb) | skip)))
      all_goals (first
        | (fail_if_success (refine Br.mk (i := 3) ?_))
        | (refine Br.mk (i := 3) ?_
           all_goals (refine WC.seq ?_)
           all_goals (refine WC.region ?_)
           all_goals (refine WL.step (ok_assign rfl) rfl rfl rfl ?_)
           all_goals (refine WL.nil ?_)
           all_goals (repeat' (with_reducible first | refine thenP_n ?_ | refine blockP_n ?_))
           all_goals (refine WC.sub [(4, _)] ⟨rfl, trivial⟩ ?_)
           all_goals (refine WC.ret ?_)
           all_goals (repeat' (with_reducible first | refine thenP_r ?_ | refine blockP_r ?_))
           all_goals (refine retP_1 _ ⟨rfl, trivial⟩ ?_)
           all_goals (exact ⟨rfl, hx2⟩)
           skip))
      all_goals (first
        | (fail_if_success (refine Br.mk (i := 4) ?_))
        | (refine Br.mk (i := 4) ?_
           all_goals (refine WC.skip ?_)
           skip))
      all_goals (repeat' (with_reducible first | refine thenP_n ?_ | refine blockP_n ?_))
      all_goals (refine WC.seq ?_)
      all_goals (refine WC.region ?_)
      all_goals (refine WL.step (ok_assign rfl) rfl rfl rfl ?_)
      all_goals (refine WL.nil ?_)
      all_goals (repeat' (with_reducible first | refine thenP_n ?_ | refine blockP_n ?_))
      all_goals (refine WC.seq ?_)
      all_goals (refine WC.seq ?_)
      all_goals (refine WC.region ?_)
      all_goals (refine WL.step (ok_move rfl) rfl rfl rfl ?_)
      all_goals (refine WL.step (ok_lenL rfl Try.underlying51 rfl) rfl rfl rfl ?_)
      all_goals (refine WL.step (ok_move rfl) rfl rfl rfl ?_)
      all_goals (refine WL.nil ?_)
      all_goals (repeat' (with_reducible first | refine thenP_n ?_ | refine blockP_n ?_))
      all_goals (refine WC.block ?_)
      -- loop 0: slots that turn [6, 43], that stay [0, 5, 41, 42]
      all_goals (refine WC.loopG (fun x => (None : Fr)) [(0, _), (5, _), (41, _), (42, _)] (None) (None) (None) ⟨rfl, rfl, rfl, rfl, rfl, rfl, trivial⟩ (by exact ⟨⟩) ?_)
      all_goals (rintro x h1 hI)
      all_goals (refine WC.sub [(6, _), (43, _), (0, _), (5, _), (41, _), (42, _)] ⟨rfl, rfl, rfl, rfl, rfl, rfl, trivial⟩ ?_)
      all_goals (refine WC.seq ?_)
      all_goals (refine WC.region ?_)
      all_goals (first | (refine WL.step (OkP.bool_t (by omega) (ok_lss rfl rfl)) rfl rfl rfl ?_) | (refine WL.step (OkP.bool_f (by omega) (ok_lss rfl rfl)) rfl rfl rfl ?_) | (refine WL.step (ok_lss rfl rfl) rfl rfl rfl ?_))
      all_goals (refine WL.nil ?_)
      all_goals (repeat' (with_reducible first | refine thenP_n ?_ | refine blockP_n ?_))
      all_goals (refine WC.seq ?_)
      all_goals (first | refine WC.condB_t 5 rfl ?_ | refine WC.condB_f 6 rfl ?_ | (refine WC.condB 5 6 rfl (fun hb => ?_) (fun hb => ?_) <;> (first | replace hb := of_decide_eq_true hb | replace hb := of_decide_eq_false hb | replace hb := of_decide_eq_false (nt hb) | replace hb := of_decide_eq_true (nf hb) | skip)))
      all_goals (first
        | (fail_if_success (refine Br.mk (i := 5) ?_))
        | (refine Br.mk (i := 5) ?_
           all_goals (refine WC.skip ?_)
           skip))
      all_goals (first
        | (fail_if_success (refine Br.mk (i := 6) ?_))
        | (refine Br.mk (i := 6) ?_
           all_goals (refine WC.exit ?_)
           all_goals (repeat' (with_reducible first | refine thenP_x ?_ | refine blockP_miss rfl ?_ | refine blockP_hit ?_ | refine blockP_n ?_ | refine thenP_n ?_))
           all_goals (refine Br.out (i := 1000) ?_)
           skip))
      all_goals (first | (refine Br.keep ?_) | (repeat' (with_reducible first | refine thenP_n ?_ | refine blockP_n ?_)))
      all_goals (first | (refine Br.keep ?_) | (refine WC.seq ?_))
      all_goals (first | (refine Br.keep ?_) | (refine WC.block ?_))
      all_goals (first | (refine Br.keep ?_) | (refine WC.seq ?_))
      all_goals (first | (refine Br.keep ?_) | (refine WC.region ?_))
      all_goals (first | (refine Br.keep ?_) | (refine WL.step (ok_idxAddrA Try.underlying51 (fun w => Try.sizeOf5 w) rfl rfl rfl (by omega) (by first | rfl | assumption)) rfl rfl rfl ?_))
      all_goals (first | (refine Br.keep ?_) | (refine WL.step (ok_load (fun w => Try.isAgg5 w) rfl (by first | assumption | exact cell_blk (by assumption) rfl)) rfl rfl rfl ?_))
      all_goals (first | (refine Br.keep ?_) | (refine WL.step (ok_assign rfl) rfl rfl rfl ?_))
      all_goals (first | (refine Br.keep ?_) | (refine WL.nil ?_))
      all_goals (first | (refine Br.keep ?_) | (repeat' (with_reducible first | refine thenP_n ?_ | refine blockP_n ?_)))
      all_goals (first | (refine Br.keep ?_) | (refine WC.seq ?_))
      all_goals (first | (refine Br.keep ?_) | (refine WC.region ?_))
      all_goals (first | (refine Br.keep ?_) | (refine WL.step (ok_move rfl) rfl rfl rfl ?_))
      all_goals (first | (refine Br.keep ?_) | (refine WL.step (ok_move rfl) rfl rfl rfl ?_))
      all_goals (first | (refine Br.keep ?_) | (refine WL.step (ok_rem rfl rfl (by decide)) rfl rfl rfl ?_))
      all_goals (first | (refine Br.keep ?_) | (first | (refine WL.step (ok_convI Try.underlying5 Try.underlying3 rfl (by omega)) rfl rfl rfl ?_) | (refine WL.step (ok_conv Try.underlying5 Try.underlying3 rfl) rfl rfl rfl ?_)))
      all_goals (first | (refine Br.keep ?_) | (first | (refine WL.step (ok_addI rfl rfl (by omega)) rfl rfl rfl ?_) | (refine WL.step (ok_add rfl rfl) rfl rfl rfl ?_)))
      all_goals (first | (refine Br.keep ?_) | (fail "no contract for call of (*remuda/portal.Set).Fetch at 10.5"))
      all_goals (first | (refine Br.keep ?_) | (refine WL.step (ok_move rfl) rfl rfl rfl ?_))
      all_goals (first | (refine Br.keep ?_) | (refine WL.step (ok_extract rfl rfl) rfl rfl rfl ?_))
      all_goals (first | (refine Br.keep ?_) | (refine WL.step (ok_extract rfl rfl) rfl rfl rfl ?_))
      all_goals (first | (refine Br.keep ?_) | (refine WL.step (ok_assign rfl) rfl rfl rfl ?_))
      all_goals (first | (refine Br.keep ?_) | (refine WL.step (ok_assign rfl) rfl rfl rfl ?_))
      all_goals (first | (refine Br.keep ?_) | (refine WL.nil ?_))
      all_goals (first | (refine Br.keep ?_) | (repeat' (with_reducible first | refine thenP_n ?_ | refine blockP_n ?_)))
      all_goals (first | (refine Br.keep ?_) | (refine WC.sub [(0, _), (5, _), (6, _), (8, _), (9, _), (10, _), (41, _), (42, _), (43, _)] ⟨rfl, rfl, rfl, rfl, rfl, rfl, rfl, rfl, rfl, trivial⟩ ?_))
      all_goals (first | (refine Br.keep ?_) | (refine WC.seq ?_))
      all_goals (first | (refine Br.keep ?_) | (refine WC.region ?_))
      all_goals (first | (refine Br.keep ?_) | (refine WL.step (ok_move rfl) rfl rfl rfl ?_))
      all_goals (first | (refine Br.keep ?_) | (refine WL.step (ok_move rfl) rfl rfl rfl ?_))
      all_goals (first
                   | (refine Br.keep ?_)
                   | (refine WL.stepR (ok_append (sz := 1) (bytes := 24) rfl Try.underlying37 (show Try.prog.info? 36 = some Try.t36 by kernel_rfl) rfl rfl rfl rfl (by decide) rfl rfl (by assumption) (by first | assumption | exact rd_blk (by assumption) rfl) (by simp [Value.oneCell']) (by simp only [maxLen]; omega) (by omega)) rfl rfl rfl ?_
                      rintro v1 h1 ⟨ho1, hx1, hl1⟩))
      all_goals (first | (refine Br.keep ?_) | (refine WL.step (ok_assign rfl) rfl rfl rfl ?_))
      all_goals (first | (refine Br.keep ?_) | (refine WL.nil ?_))
      all_goals (first | (refine Br.keep ?_) | (repeat' (with_reducible first | refine thenP_n ?_ | refine blockP_n ?_)))
      all_goals (first | (refine Br.keep ?_) | (refine WC.seq ?_))
      all_goals (first | (refine Br.keep ?_) | (refine WC.region ?_))
      all_goals (first | (refine Br.keep ?_) | (refine WL.step (ok_move rfl) rfl rfl rfl ?_))
      all_goals (first | (refine Br.keep ?_) | (refine WL.step (ok_move rfl) rfl rfl rfl ?_))
      all_goals (first | (refine Br.keep ?_) | (refine WL.step (ok_lenL rfl Try.underlying37 rfl) rfl rfl rfl ?_))
      all_goals (first | (refine Br.keep ?_) | (refine WL.step (ok_move rfl) rfl rfl rfl ?_))
      all_goals (first | (refine Br.keep ?_) | (refine WL.step (ok_lenL rfl Try.underlying37 rfl) rfl rfl rfl ?_))
      all_goals (first | (refine Br.keep ?_) | (first | (refine WL.step (OkP.bool_t (by omega) (ok_lss rfl rfl)) rfl rfl rfl ?_) | (refine WL.step (OkP.bool_f (by omega) (ok_lss rfl rfl)) rfl rfl rfl ?_) | (refine WL.step (ok_lss rfl rfl) rfl rfl rfl ?_)))
      all_goals (first | (refine Br.keep ?_) | (first | (refine WL.step (OkP.nbool_f (by rfl) (ok_neqB Try.underlying4 rfl rfl)) rfl rfl rfl ?_) | (refine WL.step (OkP.nbool_t (by decide) (ok_neqB Try.underlying4 rfl rfl)) rfl rfl rfl ?_) | (refine WL.step (ok_neqB Try.underlying4 rfl rfl) rfl rfl rfl ?_)))
      all_goals (first | (refine Br.keep ?_) | (refine WL.step (ok_move rfl) rfl rfl rfl ?_))
      all_goals (first | (refine Br.keep ?_) | (try ((fail_if_success (refine WL.part 66 (b := true) rfl (fun _ => ?_) (fun _ => ?_))); (fail_if_success (refine WL.part 66 (b := false) rfl (fun _ => ?_) (fun _ => ?_))); (refine WL.part 66 rfl (fun hb => ?_) (fun hb => ?_) <;> (first | replace hb := of_decide_eq_true hb | replace hb := of_decide_eq_false hb | replace hb := of_decide_eq_false (nt hb) | replace hb := of_decide_eq_true (nf hb) | skip)))))
      all_goals (first | (refine Br.keep ?_) | (first | (refine WL.pass rfl rfl rfl ?_) | (refine WL.step (ok_move rfl) rfl rfl rfl ?_)))
      all_goals (first | (refine Br.keep ?_) | (first | (refine WL.pass rfl rfl rfl ?_) | (refine WL.step (ok_lenL rfl Try.underlying37 rfl) rfl rfl rfl ?_)))
      all_goals (first | (refine Br.keep ?_) | (first | (refine WL.pass rfl rfl rfl ?_) | (refine WL.step (ok_move rfl) rfl rfl rfl ?_)))
      all_goals (first | (refine Br.keep ?_) | (first | (refine WL.pass rfl rfl rfl ?_) | (refine WL.step (ok_rem rfl rfl (by decide)) rfl rfl rfl ?_)))
      all_goals (first | (refine Br.keep ?_) | (first | (refine WL.pass rfl rfl rfl ?_) | (first | (refine WL.step (ok_convI Try.underlying5 Try.underlying3 rfl (by omega)) rfl rfl rfl ?_) | (refine WL.step (ok_conv Try.underlying5 Try.underlying3 rfl) rfl rfl rfl ?_))))
      all_goals (first | (refine Br.keep ?_) | (first | (refine WL.pass rfl rfl rfl ?_) | (first | (refine WL.step (ok_addI rfl rfl (by omega)) rfl rfl rfl ?_) | (refine WL.step (ok_add rfl rfl) rfl rfl rfl ?_))))
      all_goals (first | (refine Br.keep ?_) | (first | (refine WL.pass rfl rfl rfl ?_) | (first | (refine WL.step (OkP.bool_t (by omega) (ok_gtr rfl rfl)) rfl rfl rfl ?_) | (refine WL.step (OkP.bool_f (by omega) (ok_gtr rfl rfl)) rfl rfl rfl ?_) | (refine WL.step (ok_gtr rfl rfl) rfl rfl rfl ?_))))
      all_goals (first | (refine Br.keep ?_) | (first | (refine WL.step (ok_pick_t rfl rfl) rfl rfl rfl ?_) | (refine WL.step (ok_pick_f rfl rfl) rfl rfl rfl ?_)))
      all_goals (first | (refine Br.keep ?_) | (refine WL.nil ?_))
      all_goals (first | (refine Br.keep ?_) | (repeat' (with_reducible first | refine thenP_n ?_ | refine blockP_n ?_)))
      all_goals (first | (refine Br.keep ?_) | (refine WC.sub [(0, _), (5, _), (6, _), (41, _), (42, _), (43, _), (74, _)] ⟨rfl, rfl, rfl, rfl, rfl, rfl, rfl, trivial⟩ ?_))
      all_goals (first | (refine Br.keep ?_) | (first | refine WC.condB_t 7 rfl ?_ | refine WC.condB_f 8 rfl ?_ | (refine WC.condB 7 8 rfl (fun hb => ?_) (fun hb => ?_) <;> (first | replace hb := of_decide_eq_true hb | replace hb := of_decide_eq_false hb | replace hb := of_decide_eq_false (nt hb) | replace hb := of_decide_eq_true (nf hb) | skip))))
      all_goals (first
        | (fail_if_success (refine Br.mk (i := 7) ?_))
        | (refine Br.mk (i := 7) ?_
           all_goals (refine WC.seq ?_)
           all_goals (refine WC.region ?_)
           all_goals (refine WL.step (ok_assign rfl) rfl rfl rfl ?_)
           all_goals (refine WL.nil ?_)
           all_goals (repeat' (with_reducible first | refine thenP_n ?_ | refine blockP_n ?_))
           all_goals (refine WC.sub [(4, _)] ⟨rfl, trivial⟩ ?_)
           all_goals (refine WC.ret ?_)
           all_goals (repeat' (with_reducible first | refine thenP_r ?_ | refine blockP_r ?_))
           all_goals (refine retP_1 _ ⟨rfl, trivial⟩ ?_)
           all_goals (exact ⟨rfl, hx2⟩)
           skip))
      all_goals (first
        | (fail_if_success (refine Br.mk (i := 8) ?_))
        | (refine Br.mk (i := 8) ?_
           all_goals (refine WC.skip ?_)
           skip))
      all_goals (first | (refine Br.keep ?_) | (repeat' (with_reducible first | refine thenP_n ?_ | refine blockP_n ?_)))
      all_goals (first | (refine Br.keep ?_) | (refine WC.region ?_))
      all_goals (first | (refine Br.keep ?_) | (first | (refine WL.step (ok_addI rfl rfl (by omega)) rfl rfl rfl ?_) | (refine WL.step (ok_add rfl rfl) rfl rfl rfl ?_)))
      all_goals (first | (refine Br.keep ?_) | (refine WL.step (ok_move rfl) rfl rfl rfl ?_))
      all_goals (first | (refine Br.keep ?_) | (refine WL.nil ?_))
      all_goals (first | (refine Br.keep ?_) | (repeat' (with_reducible first | refine thenP_n ?_ | refine blockP_n ?_)))
      all_goals (first | (refine Br.keep ?_) | (exact ⟨None, ⟨rfl, rfl, rfl, rfl, rfl, rfl, trivial⟩, (by exact ⟨⟩), (by simp; omega)⟩))
      all_goals (try (refine Br.mk (i := 1000) ?_))
      all_goals (repeat' (with_reducible first | refine thenP_n ?_ | refine blockP_n ?_))
      all_goals (refine WC.sub [(0, _), (5, _), (6, _)] ⟨rfl, rfl, rfl, trivial⟩ ?_)
      all_goals (refine WC.seq ?_)
      all_goals (refine WC.region ?_)
      all_goals (refine WL.step (ok_move rfl) rfl rfl rfl ?_)
      all_goals (fail "no contract for call of (*remuda/portal.Set).Fetch at 15.1")
      all_goals (refine WL.step (ok_move rfl) rfl rfl rfl ?_)
      all_goals (refine WL.step (ok_extract rfl rfl) rfl rfl rfl ?_)
      all_goals (refine WL.step (ok_extract rfl rfl) rfl rfl rfl ?_)
      all_goals (refine WL.step (ok_assign rfl) rfl rfl rfl ?_)
      all_goals (refine WL.step (ok_assign rfl) rfl rfl rfl ?_)
      all_goals (refine WL.nil ?_)
      all_goals (repeat' (with_reducible first | refine thenP_n ?_ | refine blockP_n ?_))
      all_goals (refine WC.sub [(0, _), (6, _), (11, _), (12, _)] ⟨rfl, rfl, rfl, rfl, trivial⟩ ?_)
      all_goals (refine WC.seq ?_)
      all_goals (refine WC.region ?_)
      all_goals (refine WL.step (ok_move rfl) rfl rfl rfl ?_)
      all_goals (refine WL.step (ok_move rfl) rfl rfl rfl ?_)
      all_goals (refine WL.stepR (ok_append (sz := 1) (bytes := 24) rfl Try.underlying37 (show Try.prog.info? 36 = some Try.t36 by kernel_rfl) rfl rfl rfl rfl (by decide) rfl rfl (by assumption) (by first | assumption | exact rd_blk (by assumption) rfl) (by simp [Value.oneCell']) (by simp only [maxLen]; omega) (by omega)) rfl rfl rfl ?_
                 rintro v1 h1 ⟨ho1, hx1, hl1⟩)
      all_goals (refine WL.step (ok_move rfl) rfl rfl rfl ?_)
      all_goals (fail "no contract for call of remuda/remudalaw28.rows at 16.4")
      all_goals (refine WL.step (ok_move rfl) rfl rfl rfl ?_)
      all_goals (try ((fail_if_success (refine WL.part 86 (b := true) rfl (fun _ => ?_) (fun _ => ?_))); (fail_if_success (refine WL.part 86 (b := false) rfl (fun _ => ?_) (fun _ => ?_))); (refine WL.part 86 rfl (fun hb => ?_) (fun hb => ?_) <;> (first | replace hb := of_decide_eq_true hb | replace hb := of_decide_eq_false hb | replace hb := of_decide_eq_false (nt hb) | replace hb := of_decide_eq_true (nf hb) | skip))))
      all_goals (first | (refine WL.pass rfl rfl rfl ?_) | (refine WL.step (ok_move rfl) rfl rfl rfl ?_))
      all_goals (first | (refine WL.pass rfl rfl rfl ?_) | (refine WL.step (ok_not rfl) rfl rfl rfl ?_))
      all_goals (first | (refine WL.step (ok_pick_t rfl rfl) rfl rfl rfl ?_) | (refine WL.step (ok_pick_f rfl rfl) rfl rfl rfl ?_))
      all_goals (refine WL.step (ok_move rfl) rfl rfl rfl ?_)
      all_goals (try ((fail_if_success (refine WL.part 90 (b := true) rfl (fun _ => ?_) (fun _ => ?_))); (fail_if_success (refine WL.part 90 (b := false) rfl (fun _ => ?_) (fun _ => ?_))); (refine WL.part 90 rfl (fun hb => ?_) (fun hb => ?_) <;> (first | replace hb := of_decide_eq_true hb | replace hb := of_decide_eq_false hb | replace hb := of_decide_eq_false (nt hb) | replace hb := of_decide_eq_true (nf hb) | skip))))
      all_goals (first | (refine WL.pass rfl rfl rfl ?_) | (fail "no contract for call of remuda/remudalaw28.awake at 16.10"))
      all_goals (first | (refine WL.step (ok_pick_t rfl rfl) rfl rfl rfl ?_) | (refine WL.step (ok_pick_f rfl rfl) rfl rfl rfl ?_))
      all_goals (refine WL.step (ok_assign rfl) rfl rfl rfl ?_)
      all_goals (refine WL.nil ?_)
      all_goals (repeat' (with_reducible first | refine thenP_n ?_ | refine blockP_n ?_))
      all_goals (refine WC.sub [(4, _)] ⟨rfl, trivial⟩ ?_)
      all_goals (refine WC.ret ?_)
      all_goals (repeat' (with_reducible first | refine thenP_r ?_ | refine blockP_r ?_))
      all_goals (refine retP_1 _ ⟨rfl, trivial⟩ ?_)
      all_goals (exact ⟨rfl, hx2⟩)
    ·
      refine calls [(0, _), (1, _)] Try.func5 rfl Try.ntmps5 rfl ⟨rfl, rfl, trivial⟩ ?_
      all_goals (refine WC.seq ?_)
      all_goals (refine WC.region ?_)
      all_goals (refine WL.step (ok_assign rfl) rfl rfl rfl ?_)
      all_goals (refine WL.nil ?_)
      all_goals (repeat' (with_reducible first | refine thenP_n ?_ | refine blockP_n ?_))
      all_goals (refine WC.seq ?_)
      all_goals (refine WC.seq ?_)
      all_goals (refine WC.region ?_)
      all_goals (refine WL.step (ok_move rfl) rfl rfl rfl ?_)
      all_goals (refine WL.step (ok_lenL rfl Try.underlying37 rfl) rfl rfl rfl ?_)
      all_goals (first | (refine WL.step (OkP.bool_t (by omega) (ok_gtr rfl rfl)) rfl rfl rfl ?_) | (refine WL.step (OkP.bool_f (by omega) (ok_gtr rfl rfl)) rfl rfl rfl ?_) | (refine WL.step (ok_gtr rfl rfl) rfl rfl rfl ?_))
      all_goals (refine WL.step (ok_move rfl) rfl rfl rfl ?_)
      all_goals (try ((fail_if_success (refine WL.part 16 (b := true) rfl (fun _ => ?_) (fun _ => ?_))); (fail_if_success (refine WL.part 16 (b := false) rfl (fun _ => ?_) (fun _ => ?_))); (refine WL.part 16 rfl (fun hb => ?_) (fun hb => ?_) <;> (first | replace hb := of_decide_eq_true hb | replace hb := of_decide_eq_false hb | replace hb := of_decide_eq_false (nt hb) | replace hb := of_decide_eq_true (nf hb) | skip))))
      all_goals (first | (refine WL.pass rfl rfl rfl ?_) | (refine WL.step (ok_move rfl) rfl rfl rfl ?_))
      all_goals (first | (refine WL.pass rfl rfl rfl ?_) | (refine WL.step (ok_lenL rfl Try.underlying51 rfl) rfl rfl rfl ?_))
      all_goals (first | (refine WL.pass rfl rfl rfl ?_) | (first | (refine WL.step (OkP.bool_t (by omega) (ok_gtr rfl rfl)) rfl rfl rfl ?_) | (refine WL.step (OkP.bool_f (by omega) (ok_gtr rfl rfl)) rfl rfl rfl ?_) | (refine WL.step (ok_gtr rfl rfl) rfl rfl rfl ?_)))
      all_goals (first | (refine WL.step (ok_pick_t rfl rfl) rfl rfl rfl ?_) | (refine WL.step (ok_pick_f rfl rfl) rfl rfl rfl ?_))
      all_goals (refine WL.nil ?_)
      all_goals (repeat' (with_reducible first | refine thenP_n ?_ | refine blockP_n ?_))
      all_goals (refine WC.sub [(0, _), (1, _), (20, _)] ⟨rfl, rfl, rfl, trivial⟩ ?_)
      all_goals (first | refine WC.condB_t 1 rfl ?_ | refine WC.condB_f 2 rfl ?_ | (refine WC.condB 1 2 rfl (fun hb => ?_) (fun hb => ?_) <;> (first | replace hb := of_decide_eq_true hb | replace hb := of_decide_eq_false hb | replace hb := of_decide_eq_false (nt hb) | replace hb := of_decide_eq_true (nf hb) | skip)))
      all_goals (first
        | (fail_if_success (refine Br.mk (i := 1) ?_))
        | (refine Br.mk (i := 1) ?_
           all_goals (refine WC.seq ?_)
           all_goals (refine WC.region ?_)
           all_goals (refine WL.call (vs := []) rfl (fun a w => Try.call31 a w) rfl (awake28) rfl rfl rfl ?_
                      rintro _ h2 ⟨rfl, hx2⟩)
           all_goals (refine WL.step (ok_assign rfl) rfl rfl rfl ?_)
           all_goals (refine WL.nil ?_)
           all_goals (repeat' (with_reducible first | refine thenP_n ?_ | refine blockP_n ?_))
           all_goals (refine WC.sub [(4, _)] ⟨rfl, trivial⟩ ?_)
           all_goals (refine WC.ret ?_)
           all_goals (repeat' (with_reducible first | refine thenP_r ?_ | refine blockP_r ?_))
           all_goals (refine retP_1 _ ⟨rfl, trivial⟩ ?_)
           all_goals (exact ⟨rfl, hx2⟩)
           skip))
      all_goals (first
        | (fail_if_success (refine Br.mk (i := 2) ?_))
        | (refine Br.mk (i := 2) ?_
           all_goals (refine WC.skip ?_)
           skip))
      all_goals (repeat' (with_reducible first | refine thenP_n ?_ | refine blockP_n ?_))
      all_goals (refine WC.seq ?_)
      all_goals (refine WC.region ?_)
      all_goals (fail "no contract for call of remuda/portal.New at 3.0")
      all_goals (refine WL.step (ok_assign rfl) rfl rfl rfl ?_)
      all_goals (refine WL.nil ?_)
      all_goals (repeat' (with_reducible first | refine thenP_n ?_ | refine blockP_n ?_))
      all_goals (refine WC.seq ?_)
      all_goals (refine WC.seq ?_)
      all_goals (refine WC.region ?_)
      all_goals (refine WL.step (ok_move rfl) rfl rfl rfl ?_)
      all_goals (refine WL.step (ok_eqlPn Try.underlying52 rfl rfl) rfl rfl rfl ?_)
      all_goals (refine WL.step (ok_move rfl) rfl rfl rfl ?_)
      all_goals (try ((fail_if_success (refine WL.part 25 (b := true) rfl (fun _ => ?_) (fun _ => ?_))); (fail_if_success (refine WL.part 25 (b := false) rfl (fun _ => ?_) (fun _ => ?_))); (refine WL.part 25 rfl (fun hb => ?_) (fun hb => ?_) <;> (first | replace hb := of_decide_eq_true hb | replace hb := of_decide_eq_false hb | replace hb := of_decide_eq_false (nt hb) | replace hb := of_decide_eq_true (nf hb) | skip))))
      all_goals (first | (refine WL.pass rfl rfl rfl ?_) | (refine WL.step (ok_move rfl) rfl rfl rfl ?_))
      all_goals (first | (refine WL.pass rfl rfl rfl ?_) | (refine WL.step (ok_buildF (vs := []) (cs := [_, _, _, _, _, _]) (fun | [] => [(St []), (.slice none 0 0), (.slice none 0 0), (.slice none 0 0), (.bool false), (.bool false)] | _ => []) rfl rfl (by kernel_rfl)) rfl rfl rfl ?_))
      all_goals (first | (refine WL.pass rfl rfl rfl ?_) | (fail "no contract for call of (*remuda/portal.Set).Put at 4.5"))
      all_goals (first | (refine WL.pass rfl rfl rfl ?_) | (first | (refine WL.step (OkP.nbool_t (by omega) (ok_neq rfl rfl)) rfl rfl rfl ?_) | (refine WL.step (OkP.nbool_f (by omega) (ok_neq rfl rfl)) rfl rfl rfl ?_) | (refine WL.step (ok_neq rfl rfl) rfl rfl rfl ?_)))
      all_goals (first | (refine WL.step (ok_pick_t rfl rfl) rfl rfl rfl ?_) | (refine WL.step (ok_pick_f rfl rfl) rfl rfl rfl ?_))
      all_goals (refine WL.step (ok_move rfl) rfl rfl rfl ?_)
      all_goals (try ((fail_if_success (refine WL.part 31 (b := true) rfl (fun _ => ?_) (fun _ => ?_))); (fail_if_success (refine WL.part 31 (b := false) rfl (fun _ => ?_) (fun _ => ?_))); (refine WL.part 31 rfl (fun hb => ?_) (fun hb => ?_) <;> (first | replace hb := of_decide_eq_true hb | replace hb := of_decide_eq_false hb | replace hb := of_decide_eq_false (nt hb) | replace hb := of_decide_eq_true (nf hb) | skip))))
      all_goals (first | (refine WL.pass rfl rfl rfl ?_) | (refine WL.step (ok_move rfl) rfl rfl rfl ?_))
      all_goals (first | (refine WL.pass rfl rfl rfl ?_) | (refine WL.step (ok_move rfl) rfl rfl rfl ?_))
      all_goals (first | (refine WL.pass rfl rfl rfl ?_) | (fail "no contract for call of (*remuda/portal.Set).Ran at 4.11"))
      all_goals (first | (refine WL.pass rfl rfl rfl ?_) | (refine WL.step (ok_not rfl) rfl rfl rfl ?_))
      all_goals (first | (refine WL.step (ok_pick_t rfl rfl) rfl rfl rfl ?_) | (refine WL.step (ok_pick_f rfl rfl) rfl rfl rfl ?_))
      all_goals (refine WL.step (ok_move rfl) rfl rfl rfl ?_)
      all_goals (try ((fail_if_success (refine WL.part 37 (b := true) rfl (fun _ => ?_) (fun _ => ?_))); (fail_if_success (refine WL.part 37 (b := false) rfl (fun _ => ?_) (fun _ => ?_))); (refine WL.part 37 rfl (fun hb => ?_) (fun hb => ?_) <;> (first | replace hb := of_decide_eq_true hb | replace hb := of_decide_eq_false hb | replace hb := of_decide_eq_false (nt hb) | replace hb := of_decide_eq_true (nf hb) | skip))))
      all_goals (first | (refine WL.pass rfl rfl rfl ?_) | (refine WL.step (ok_move rfl) rfl rfl rfl ?_))
      all_goals (first | (refine WL.pass rfl rfl rfl ?_) | (fail "no contract for call of (*remuda/portal.Set).Ran at 4.16"))
      all_goals (first | (refine WL.step (ok_pick_t rfl rfl) rfl rfl rfl ?_) | (refine WL.step (ok_pick_f rfl rfl) rfl rfl rfl ?_))
      all_goals (refine WL.nil ?_)
      all_goals (repeat' (with_reducible first | refine thenP_n ?_ | refine blockP_n ?_))
      all_goals (refine WC.sub [(0, _), (1, _), (5, _), (40, _)] ⟨rfl, rfl, rfl, rfl, trivial⟩ ?_)
      all_goals (first | refine WC.condB_t 3 rfl ?_ | refine WC.condB_f 4 rfl ?_ | (refine WC.condB 3 4 rfl (fun hb => ?_) (fun hb => ?_) <;> (first | replace hb := of_decide_eq_true hb | replace hb := of_decide_eq_false hb | replace hb := of_decide_eq_false (nt hb) | replace hb := of_decide_eq_true (nf hb) | skip)))
      all_goals (first
        | (fail_if_success (refine Br.mk (i := 3) ?_))
        | (refine Br.mk (i := 3) ?_
           all_goals (refine WC.seq ?_)
           all_goals (refine WC.region ?_)
           all_goals (refine WL.step (ok_assign rfl) rfl rfl rfl ?_)
           all_goals (refine WL.nil ?_)
           all_goals (repeat' (with_reducible first | refine thenP_n ?_ | refine blockP_n ?_))
           all_goals (refine WC.sub [(4, _)] ⟨rfl, trivial⟩ ?_)
           all_goals (refine WC.ret ?_)
           all_goals (repeat' (with_reducible first | refine thenP_r ?_ | refine blockP_r ?_))
           all_goals (refine retP_1 _ ⟨rfl, trivial⟩ ?_)
           all_goals (exact ⟨rfl, hx2⟩)
           skip))
      all_goals (first
        | (fail_if_success (refine Br.mk (i := 4) ?_))
        | (refine Br.mk (i := 4) ?_
           all_goals (refine WC.skip ?_)
           skip))
      all_goals (repeat' (with_reducible first | refine thenP_n ?_ | refine blockP_n ?_))
      all_goals (refine WC.seq ?_)
      all_goals (refine WC.region ?_)
      all_goals (refine WL.step (ok_assign rfl) rfl rfl rfl ?_)
      all_goals (refine WL.nil ?_)
      all_goals (repeat' (with_reducible first | refine thenP_n ?_ | refine blockP_n ?_))
      all_goals (refine WC.seq ?_)
      all_goals (refine WC.seq ?_)
      all_goals (refine WC.region ?_)
      all_goals (refine WL.step (ok_move rfl) rfl rfl rfl ?_)
      all_goals (refine WL.step (ok_lenL rfl Try.underlying51 rfl) rfl rfl rfl ?_)
      all_goals (refine WL.step (ok_move rfl) rfl rfl rfl ?_)
      all_goals (refine WL.nil ?_)
      all_goals (repeat' (with_reducible first | refine thenP_n ?_ | refine blockP_n ?_))
      all_goals (refine WC.block ?_)
      -- loop 0: slots that turn [6, 43], that stay [0, 5, 41, 42]
      all_goals (refine WC.loopG (fun x => (None : Fr)) [(0, _), (5, _), (41, _), (42, _)] (None) (None) (None) ⟨rfl, rfl, rfl, rfl, rfl, rfl, trivial⟩ (by exact ⟨⟩) ?_)
      all_goals (rintro x h1 hI)
      all_goals (refine WC.sub [(6, _), (43, _), (0, _), (5, _), (41, _), (42, _)] ⟨rfl, rfl, rfl, rfl, rfl, rfl, trivial⟩ ?_)
      all_goals (refine WC.seq ?_)
      all_goals (refine WC.region ?_)
      all_goals (first | (refine WL.step (OkP.bool_t (by omega) (ok_lss rfl rfl)) rfl rfl rfl ?_) | (refine WL.step (OkP.bool_f (by omega) (ok_lss rfl rfl)) rfl rfl rfl ?_) | (refine WL.step (ok_lss rfl rfl) rfl rfl rfl ?_))
      all_goals (refine WL.nil ?_)
      all_goals (repeat' (with_reducible first | refine thenP_n ?_ | refine blockP_n ?_))
      all_goals (refine WC.seq ?_)
      all_goals (first | refine WC.condB_t 5 rfl ?_ | refine WC.condB_f 6 rfl ?_ | (refine WC.condB 5 6 rfl (fun hb => ?_) (fun hb => ?_) <;> (first | replace hb := of_decide_eq_true hb | replace hb := of_decide_eq_false hb | replace hb := of_decide_eq_false (nt hb) | replace hb := of_decide_eq_true (nf hb) | skip)))
      all_goals (first
        | (fail_if_success (refine Br.mk (i := 5) ?_))
        | (refine Br.mk (i := 5) ?_
           all_goals (refine WC.skip ?_)
           skip))
      all_goals (first
        | (fail_if_success (refine Br.mk (i := 6) ?_))
        | (refine Br.mk (i := 6) ?_
           all_goals (refine WC.exit ?_)
           all_goals (repeat' (with_reducible first | refine thenP_x ?_ | refine blockP_miss rfl ?_ | refine blockP_hit ?_ | refine blockP_n ?_ | refine thenP_n ?_))
           all_goals (refine Br.out (i := 1000) ?_)
           skip))
      all_goals (first | (refine Br.keep ?_) | (repeat' (with_reducible first | refine thenP_n ?_ | refine blockP_n ?_)))
      all_goals (first | (refine Br.keep ?_) | (refine WC.seq ?_))
      all_goals (first | (refine Br.keep ?_) | (refine WC.block ?_))
      all_goals (first | (refine Br.keep ?_) | (refine WC.seq ?_))
      all_goals (first | (refine Br.keep ?_) | (refine WC.region ?_))
      all_goals (first | (refine Br.keep ?_) | (refine WL.step (ok_idxAddrA Try.underlying51 (fun w => Try.sizeOf5 w) rfl rfl rfl (by omega) (by first | rfl | assumption)) rfl rfl rfl ?_))
      all_goals (first | (refine Br.keep ?_) | (refine WL.step (ok_load (fun w => Try.isAgg5 w) rfl (by first | assumption | exact cell_blk (by assumption) rfl)) rfl rfl rfl ?_))
      all_goals (first | (refine Br.keep ?_) | (refine WL.step (ok_assign rfl) rfl rfl rfl ?_))
      all_goals (first | (refine Br.keep ?_) | (refine WL.nil ?_))
      all_goals (first | (refine Br.keep ?_) | (repeat' (with_reducible first | refine thenP_n ?_ | refine blockP_n ?_)))
      all_goals (first | (refine Br.keep ?_) | (refine WC.seq ?_))
      all_goals (first | (refine Br.keep ?_) | (refine WC.region ?_))
      all_goals (first | (refine Br.keep ?_) | (refine WL.step (ok_move rfl) rfl rfl rfl ?_))
      all_goals (first | (refine Br.keep ?_) | (refine WL.step (ok_move rfl) rfl rfl rfl ?_))
      all_goals (first | (refine Br.keep ?_) | (refine WL.step (ok_rem rfl rfl (by decide)) rfl rfl rfl ?_))
      all_goals (first | (refine Br.keep ?_) | (first | (refine WL.step (ok_convI Try.underlying5 Try.underlying3 rfl (by omega)) rfl rfl rfl ?_) | (refine WL.step (ok_conv Try.underlying5 Try.underlying3 rfl) rfl rfl rfl ?_)))
      all_goals (first | (refine Br.keep ?_) | (first | (refine WL.step (ok_addI rfl rfl (by omega)) rfl rfl rfl ?_) | (refine WL.step (ok_add rfl rfl) rfl rfl rfl ?_)))
      all_goals (first | (refine Br.keep ?_) | (fail "no contract for call of (*remuda/portal.Set).Fetch at 10.5"))
      all_goals (first | (refine Br.keep ?_) | (refine WL.step (ok_move rfl) rfl rfl rfl ?_))
      all_goals (first | (refine Br.keep ?_) | (refine WL.step (ok_extract rfl rfl) rfl rfl rfl ?_))
      all_goals (first | (refine Br.keep ?_) | (refine WL.step (ok_extract rfl rfl) rfl rfl rfl ?_))
      all_goals (first | (refine Br.keep ?_) | (refine WL.step (ok_assign rfl) rfl rfl rfl ?_))
      all_goals (first | (refine Br.keep ?_) | (refine WL.step (ok_assign rfl) rfl rfl rfl ?_))
      all_goals (first | (refine Br.keep ?_) | (refine WL.nil ?_))
      all_goals (first | (refine Br.keep ?_) | (repeat' (with_reducible first | refine thenP_n ?_ | refine blockP_n ?_)))
      all_goals (first | (refine Br.keep ?_) | (refine WC.sub [(0, _), (5, _), (6, _), (8, _), (9, _), (10, _), (41, _), (42, _), (43, _)] ⟨rfl, rfl, rfl, rfl, rfl, rfl, rfl, rfl, rfl, trivial⟩ ?_))
      all_goals (first | (refine Br.keep ?_) | (refine WC.seq ?_))
      all_goals (first | (refine Br.keep ?_) | (refine WC.region ?_))
      all_goals (first | (refine Br.keep ?_) | (refine WL.step (ok_move rfl) rfl rfl rfl ?_))
      all_goals (first | (refine Br.keep ?_) | (refine WL.step (ok_move rfl) rfl rfl rfl ?_))
      all_goals (first
                   | (refine Br.keep ?_)
                   | (refine WL.stepR (ok_append (sz := 1) (bytes := 24) rfl Try.underlying37 (show Try.prog.info? 36 = some Try.t36 by kernel_rfl) rfl rfl rfl rfl (by decide) rfl rfl (by assumption) (by first | assumption | exact rd_blk (by assumption) rfl) (by simp [Value.oneCell']) (by simp only [maxLen]; omega) (by omega)) rfl rfl rfl ?_
                      rintro v1 h1 ⟨ho1, hx1, hl1⟩))
      all_goals (first | (refine Br.keep ?_) | (refine WL.step (ok_assign rfl) rfl rfl rfl ?_))
      all_goals (first | (refine Br.keep ?_) | (refine WL.nil ?_))
      all_goals (first | (refine Br.keep ?_) | (repeat' (with_reducible first | refine thenP_n ?_ | refine blockP_n ?_)))
      all_goals (first | (refine Br.keep ?_) | (refine WC.seq ?_))
      all_goals (first | (refine Br.keep ?_) | (refine WC.region ?_))
      all_goals (first | (refine Br.keep ?_) | (refine WL.step (ok_move rfl) rfl rfl rfl ?_))
      all_goals (first | (refine Br.keep ?_) | (refine WL.step (ok_move rfl) rfl rfl rfl ?_))
      all_goals (first | (refine Br.keep ?_) | (refine WL.step (ok_lenL rfl Try.underlying37 rfl) rfl rfl rfl ?_))
      all_goals (first | (refine Br.keep ?_) | (refine WL.step (ok_move rfl) rfl rfl rfl ?_))
      all_goals (first | (refine Br.keep ?_) | (refine WL.step (ok_lenL rfl Try.underlying37 rfl) rfl rfl rfl ?_))
      all_goals (first | (refine Br.keep ?_) | (first | (refine WL.step (OkP.bool_t (by omega) (ok_lss rfl rfl)) rfl rfl rfl ?_) | (refine WL.step (OkP.bool_f (by omega) (ok_lss rfl rfl)) rfl rfl rfl ?_) | (refine WL.step (ok_lss rfl rfl) rfl rfl rfl ?_)))
      all_goals (first | (refine Br.keep ?_) | (first | (refine WL.step (OkP.nbool_f (by rfl) (ok_neqB Try.underlying4 rfl rfl)) rfl rfl rfl ?_) | (refine WL.step (OkP.nbool_t (by decide) (ok_neqB Try.underlying4 rfl rfl)) rfl rfl rfl ?_) | (refine WL.step (ok_neqB Try.underlying4 rfl rfl) rfl rfl rfl ?_)))
      all_goals (first | (refine Br.keep ?_) | (refine WL.step (ok_move rfl) rfl rfl rfl ?_))
      all_goals (first | (refine Br.keep ?_) | (try ((fail_if_success (refine WL.part 66 (b := true) rfl (fun _ => ?_) (fun _ => ?_))); (fail_if_success (refine WL.part 66 (b := false) rfl (fun _ => ?_) (fun _ => ?_))); (refine WL.part 66 rfl (fun hb => ?_) (fun hb => ?_) <;> (first | replace hb := of_decide_eq_true hb | replace hb := of_decide_eq_false hb | replace hb := of_decide_eq_false (nt hb) | replace hb := of_decide_eq_true (nf hb) | skip)))))
      all_goals (first | (refine Br.keep ?_) | (first | (refine WL.pass rfl rfl rfl ?_) | (refine WL.step (ok_move rfl) rfl rfl rfl ?_)))
      all_goals (first | (refine Br.keep ?_) | (first | (refine WL.pass rfl rfl rfl ?_) | (refine WL.step (ok_lenL rfl Try.underlying37 rfl) rfl rfl rfl ?_)))
      all_goals (first | (refine Br.keep ?_) | (first | (refine WL.pass rfl rfl rfl ?_) | (refine WL.step (ok_move rfl) rfl rfl rfl ?_)))
      all_goals (first | (refine Br.keep ?_) | (first | (refine WL.pass rfl rfl rfl ?_) | (refine WL.step (ok_rem rfl rfl (by decide)) rfl rfl rfl ?_)))
      all_goals (first | (refine Br.keep ?_) | (first | (refine WL.pass rfl rfl rfl ?_) | (first | (refine WL.step (ok_convI Try.underlying5 Try.underlying3 rfl (by omega)) rfl rfl rfl ?_) | (refine WL.step (ok_conv Try.underlying5 Try.underlying3 rfl) rfl rfl rfl ?_))))
      all_goals (first | (refine Br.keep ?_) | (first | (refine WL.pass rfl rfl rfl ?_) | (first | (refine WL.step (ok_addI rfl rfl (by omega)) rfl rfl rfl ?_) | (refine WL.step (ok_add rfl rfl) rfl rfl rfl ?_))))
      all_goals (first | (refine Br.keep ?_) | (first | (refine WL.pass rfl rfl rfl ?_) | (first | (refine WL.step (OkP.bool_t (by omega) (ok_gtr rfl rfl)) rfl rfl rfl ?_) | (refine WL.step (OkP.bool_f (by omega) (ok_gtr rfl rfl)) rfl rfl rfl ?_) | (refine WL.step (ok_gtr rfl rfl) rfl rfl rfl ?_))))
      all_goals (first | (refine Br.keep ?_) | (first | (refine WL.step (ok_pick_t rfl rfl) rfl rfl rfl ?_) | (refine WL.step (ok_pick_f rfl rfl) rfl rfl rfl ?_)))
      all_goals (first | (refine Br.keep ?_) | (refine WL.nil ?_))
      all_goals (first | (refine Br.keep ?_) | (repeat' (with_reducible first | refine thenP_n ?_ | refine blockP_n ?_)))
      all_goals (first | (refine Br.keep ?_) | (refine WC.sub [(0, _), (5, _), (6, _), (41, _), (42, _), (43, _), (74, _)] ⟨rfl, rfl, rfl, rfl, rfl, rfl, rfl, trivial⟩ ?_))
      all_goals (first | (refine Br.keep ?_) | (first | refine WC.condB_t 7 rfl ?_ | refine WC.condB_f 8 rfl ?_ | (refine WC.condB 7 8 rfl (fun hb => ?_) (fun hb => ?_) <;> (first | replace hb := of_decide_eq_true hb | replace hb := of_decide_eq_false hb | replace hb := of_decide_eq_false (nt hb) | replace hb := of_decide_eq_true (nf hb) | skip))))
      all_goals (first
        | (fail_if_success (refine Br.mk (i := 7) ?_))
        | (refine Br.mk (i := 7) ?_
           all_goals (refine WC.seq ?_)
           all_goals (refine WC.region ?_)
           all_goals (refine WL.step (ok_assign rfl) rfl rfl rfl ?_)
           all_goals (refine WL.nil ?_)
           all_goals (repeat' (with_reducible first | refine thenP_n ?_ | refine blockP_n ?_))
           all_goals (refine WC.sub [(4, _)] ⟨rfl, trivial⟩ ?_)
           all_goals (refine WC.ret ?_)
           all_goals (repeat' (with_reducible first | refine thenP_r ?_ | refine blockP_r ?_))
           all_goals (refine retP_1 _ ⟨rfl, trivial⟩ ?_)
           all_goals (exact ⟨rfl, hx2⟩)
           skip))
      all_goals (first
        | (fail_if_success (refine Br.mk (i := 8) ?_))
        | (refine Br.mk (i := 8) ?_
           all_goals (refine WC.skip ?_)
           skip))
      all_goals (first | (refine Br.keep ?_) | (repeat' (with_reducible first | refine thenP_n ?_ | refine blockP_n ?_)))
      all_goals (first | (refine Br.keep ?_) | (refine WC.region ?_))
      all_goals (first | (refine Br.keep ?_) | (first | (refine WL.step (ok_addI rfl rfl (by omega)) rfl rfl rfl ?_) | (refine WL.step (ok_add rfl rfl) rfl rfl rfl ?_)))
      all_goals (first | (refine Br.keep ?_) | (refine WL.step (ok_move rfl) rfl rfl rfl ?_))
      all_goals (first | (refine Br.keep ?_) | (refine WL.nil ?_))
      all_goals (first | (refine Br.keep ?_) | (repeat' (with_reducible first | refine thenP_n ?_ | refine blockP_n ?_)))
      all_goals (first | (refine Br.keep ?_) | (exact ⟨None, ⟨rfl, rfl, rfl, rfl, rfl, rfl, trivial⟩, (by exact ⟨⟩), (by simp; omega)⟩))
      all_goals (try (refine Br.mk (i := 1000) ?_))
      all_goals (repeat' (with_reducible first | refine thenP_n ?_ | refine blockP_n ?_))
      all_goals (refine WC.sub [(0, _), (5, _), (6, _)] ⟨rfl, rfl, rfl, trivial⟩ ?_)
      all_goals (refine WC.seq ?_)
      all_goals (refine WC.region ?_)
      all_goals (refine WL.step (ok_move rfl) rfl rfl rfl ?_)
      all_goals (fail "no contract for call of (*remuda/portal.Set).Fetch at 15.1")
      all_goals (refine WL.step (ok_move rfl) rfl rfl rfl ?_)
      all_goals (refine WL.step (ok_extract rfl rfl) rfl rfl rfl ?_)
      all_goals (refine WL.step (ok_extract rfl rfl) rfl rfl rfl ?_)
      all_goals (refine WL.step (ok_assign rfl) rfl rfl rfl ?_)
      all_goals (refine WL.step (ok_assign rfl) rfl rfl rfl ?_)
      all_goals (refine WL.nil ?_)
      all_goals (repeat' (with_reducible first | refine thenP_n ?_ | refine blockP_n ?_))
      all_goals (refine WC.sub [(0, _), (6, _), (11, _), (12, _)] ⟨rfl, rfl, rfl, rfl, trivial⟩ ?_)
      all_goals (refine WC.seq ?_)
      all_goals (refine WC.region ?_)
      all_goals (refine WL.step (ok_move rfl) rfl rfl rfl ?_)
      all_goals (refine WL.step (ok_move rfl) rfl rfl rfl ?_)
      all_goals (refine WL.stepR (ok_append (sz := 1) (bytes := 24) rfl Try.underlying37 (show Try.prog.info? 36 = some Try.t36 by kernel_rfl) rfl rfl rfl rfl (by decide) rfl rfl (by assumption) (by first | assumption | exact rd_blk (by assumption) rfl) (by simp [Value.oneCell']) (by simp only [maxLen]; omega) (by omega)) rfl rfl rfl ?_
                 rintro v1 h1 ⟨ho1, hx1, hl1⟩)
      all_goals (refine WL.step (ok_move rfl) rfl rfl rfl ?_)
      all_goals (fail "no contract for call of remuda/remudalaw28.rows at 16.4")
      all_goals (refine WL.step (ok_move rfl) rfl rfl rfl ?_)
      all_goals (try ((fail_if_success (refine WL.part 86 (b := true) rfl (fun _ => ?_) (fun _ => ?_))); (fail_if_success (refine WL.part 86 (b := false) rfl (fun _ => ?_) (fun _ => ?_))); (refine WL.part 86 rfl (fun hb => ?_) (fun hb => ?_) <;> (first | replace hb := of_decide_eq_true hb | replace hb := of_decide_eq_false hb | replace hb := of_decide_eq_false (nt hb) | replace hb := of_decide_eq_true (nf hb) | skip))))
      all_goals (first | (refine WL.pass rfl rfl rfl ?_) | (refine WL.step (ok_move rfl) rfl rfl rfl ?_))
      all_goals (first | (refine WL.pass rfl rfl rfl ?_) | (refine WL.step (ok_not rfl) rfl rfl rfl ?_))
      all_goals (first | (refine WL.step (ok_pick_t rfl rfl) rfl rfl rfl ?_) | (refine WL.step (ok_pick_f rfl rfl) rfl rfl rfl ?_))
      all_goals (refine WL.step (ok_move rfl) rfl rfl rfl ?_)
      all_goals (try ((fail_if_success (refine WL.part 90 (b := true) rfl (fun _ => ?_) (fun _ => ?_))); (fail_if_success (refine WL.part 90 (b := false) rfl (fun _ => ?_) (fun _ => ?_))); (refine WL.part 90 rfl (fun hb => ?_) (fun hb => ?_) <;> (first | replace hb := of_decide_eq_true hb | replace hb := of_decide_eq_false hb | replace hb := of_decide_eq_false (nt hb) | replace hb := of_decide_eq_true (nf hb) | skip))))
      all_goals (first | (refine WL.pass rfl rfl rfl ?_) | (fail "no contract for call of remuda/remudalaw28.awake at 16.10"))
      all_goals (first | (refine WL.step (ok_pick_t rfl rfl) rfl rfl rfl ?_) | (refine WL.step (ok_pick_f rfl rfl) rfl rfl rfl ?_))
      all_goals (refine WL.step (ok_assign rfl) rfl rfl rfl ?_)
      all_goals (refine WL.nil ?_)
      all_goals (repeat' (with_reducible first | refine thenP_n ?_ | refine blockP_n ?_))
      all_goals (refine WC.sub [(4, _)] ⟨rfl, trivial⟩ ?_)
      all_goals (refine WC.ret ?_)
      all_goals (repeat' (with_reducible first | refine thenP_r ?_ | refine blockP_r ?_))
      all_goals (refine retP_1 _ ⟨rfl, trivial⟩ ?_)
      all_goals (exact ⟨rfl, hx2⟩)
/-- What a Fetch has told and left. -/
def FR (h : Heap) (b m p : Nat) (d : PD) (u : Value) (h1 : Heap) (Q : Nat → Prop) : Prop :=
  ∃ wo n vr' ov, u = .tuple ⟨[wo, .bool (!ov)]⟩ ∧ n ≤ d.rs.length ∧ Q n ∧ Rws h1 wo (d.rs.take n) ∧ P1 h1 b m p [112] { d with vr := vr', rs := d.rs.drop n, over := ov } ∧ (ov = true ↔ d.rs.drop n = []) ∧
    (∀ k, RwsF wo (d.rs.take n) k → RwsF d.vr d.rs k) ∧ (∀ k, RwsF vr' (d.rs.drop n) k → RwsF d.vr d.rs k) ∧ Ext (fun k => k = p) h h1
theorem dec_drop (L : List Rw) (n : Nat) : (decide (((L.length - n : Nat) : Int) = 0) = true) ↔ L.drop n = [] := by
  rw [decide_eq_true_iff, List.drop_eq_nil_iff]
  omega
theorem rws_nil (h : Heap) : Rws h (.slice none 0 0) [] := ⟨Rd.nil _ _, ⟨by simp, _, _, rfl, by decide⟩, by simp⟩
theorem fr_over {h0 h : Heap} {b m p : Nat} {R : List Rw} {vg : Value} {done : List Rw} {d : PD} {Q : Nat → Prop} (i : FI h0 h b m p R vg done d) (hv : d.over = true) (hq : Q 0) : FR h b m p d (.tuple ⟨[.slice none 0 0, .bool false]⟩) h Q := by
  have e0 := i.over hv
  have r := i.port
  obtain ⟨text, vo, oids, vp, ps, vr, rs, ran, over⟩ := d
  simp only at hv e0
  subst hv
  subst e0
  exact ⟨_, 0, vr, true, rfl, Nat.zero_le _, hq, rws_nil h, r, by simp, by rintro k (⟨e, _⟩ | ⟨_, e, _⟩) <;> simp at e, fun k hk => hk, .refl _ _⟩
theorem fetch_fi {h0 h : Heap} {b m p : Nat} {R : List Rw} {vg : Value} {done : List Rw} {d : PD} (i : FI h0 h b m p R vg done d) (most : Int) (hmo : 0 < most) :
    CallsH Try.prog 35 ⟨[.pointer (some ⟨b, 0, none⟩), St [112], In most]⟩ h fun u h1 => FR h b m p d u h1 (fun n => (n : Int) ≤ most) := by
  cases hv : d.over with
  | true => exact (fetch_over i.port most i.ran hv).mono fun u h1 ⟨e1, e2⟩ => by rw [e1, e2]; exact fr_over i hv (by show ((0 : Nat) : Int) ≤ most; omega)
  | false =>
    obtain ⟨n, hn⟩ : ∃ n : Nat, min (d.rs.length : Int) most = n := ⟨(min (d.rs.length : Int) most).toNat, by omega⟩
    exact (fetch_some i.port most hmo hn i.ran hv).mono fun u h1 ⟨wo, vr', e, R1, P', t, w, x⟩ => ⟨wo, n, vr', _, e, by omega, by show (n : Int) ≤ most; omega, R1, P', dec_drop _ _, t, w, x⟩
theorem fetch_f0 {h0 h : Heap} {b m p : Nat} {R : List Rw} {vg : Value} {done : List Rw} {d : PD} (i : FI h0 h b m p R vg done d) :
    CallsH Try.prog 35 ⟨[.pointer (some ⟨b, 0, none⟩), St [112], In 0]⟩ h fun u h1 => FR h b m p d u h1 (fun n => n = d.rs.length) := by
  cases hv : d.over with
  | true => exact (fetch_over i.port 0 i.ran hv).mono fun u h1 ⟨e1, e2⟩ => by rw [e1, e2]; exact fr_over i hv (by show 0 = d.rs.length; rw [i.over hv]; rfl)
  | false => exact (fetch_all i.port 0 (by decide) i.ran hv).mono fun u h1 ⟨wo, vr', e, R1, P', t, w, x⟩ => ⟨wo, _, vr', _, e, Nat.le_refl _, rfl, R1, P', dec_drop _ _, t, w, x⟩
theorem more_eq {ov : Bool} {L : List Rw} {a r n : Nat} (hov : ov = true ↔ L.drop n = []) (hn : n ≤ L.length) (htl : (L.take n).length = n) (hlen : a + L.length = r) : (!ov) = decide (((a + (L.take n).length : Nat) : Int) < (r : Int)) := by
  rw [List.drop_eq_nil_iff] at hov
  cases ov
  · have : ¬ L.length ≤ n := fun e => by have := hov.2 e; cases this
    simp only [Bool.not_false]
    exact (decide_eq_true (by omega)).symm
  · have := hov.1 rfl
    simp only [Bool.not_true]
    exact (decide_eq_false (by omega)).symm
set_option maxHeartbeats 2000000 in
set_option maxRecDepth 100000 in
theorem fetches_law {h : Heap} {v w : Value} (R : List Rw) (l : List UInt8) (hR : Rws h v R) (hl : Rd h w 1 l.length (bys l)) (hb1 : R.length ≤ 40) (hb2 : l.length ≤ 60) :
    CallsH Try.prog 5 ⟨[v, w]⟩ h fun u h' => u = .bool true ∧ Ext No h h' := by
  have hR0 := hR
  obtain ⟨_, ⟨_, A, c, rfl, _⟩, _⟩ := id hR
  obtain ⟨B, e, rfl, _⟩ := id hl
  refine calls [(0, _), (1, _)] Try.func5 rfl Try.ntmps5 rfl ⟨rfl, rfl, trivial⟩ ?_
  all_goals (refine WC.seq ?_)
  all_goals (refine WC.region ?_)
  all_goals (refine WL.step (ok_assign rfl) rfl rfl rfl ?_)
  all_goals (refine WL.nil ?_)
  all_goals (repeat' (with_reducible first | refine thenP_n ?_ | refine blockP_n ?_))
  all_goals (refine WC.seq ?_)
  all_goals (refine WC.seq ?_)
  all_goals (refine WC.region ?_)
  all_goals (refine WL.step (ok_move rfl) rfl rfl rfl ?_)
  all_goals (refine WL.step (ok_lenL rfl Try.underlying37 rfl) rfl rfl rfl ?_)
  all_goals (first | (refine WL.step (OkP.bool_t (by omega) (ok_gtr rfl rfl)) rfl rfl rfl ?_) | (refine WL.step (OkP.bool_f (by omega) (ok_gtr rfl rfl)) rfl rfl rfl ?_) | (refine WL.step (ok_gtr rfl rfl) rfl rfl rfl ?_))
  all_goals (refine WL.step (ok_move rfl) rfl rfl rfl ?_)
  all_goals (try ((fail_if_success (refine WL.part 16 (b := true) rfl (fun _ => ?_) (fun _ => ?_))); (fail_if_success (refine WL.part 16 (b := false) rfl (fun _ => ?_) (fun _ => ?_))); (refine WL.part 16 rfl (fun hb => ?_) (fun hb => ?_) <;> (first | replace hb := of_decide_eq_true hb | replace hb := of_decide_eq_false hb | replace hb := of_decide_eq_false (nt hb) | replace hb := of_decide_eq_true (nf hb) | skip))))
  all_goals (first | (refine WL.pass rfl rfl rfl ?_) | (refine WL.step (ok_move rfl) rfl rfl rfl ?_))
  all_goals (first | (refine WL.pass rfl rfl rfl ?_) | (refine WL.step (ok_lenL rfl Try.underlying51 rfl) rfl rfl rfl ?_))
  all_goals (first | (refine WL.pass rfl rfl rfl ?_) | (first | (refine WL.step (OkP.bool_t (by omega) (ok_gtr rfl rfl)) rfl rfl rfl ?_) | (refine WL.step (OkP.bool_f (by omega) (ok_gtr rfl rfl)) rfl rfl rfl ?_) | (refine WL.step (ok_gtr rfl rfl) rfl rfl rfl ?_)))
  all_goals (first | (refine WL.step (ok_pick_t rfl rfl) rfl rfl rfl ?_) | (refine WL.step (ok_pick_f rfl rfl) rfl rfl rfl ?_))
  all_goals (refine WL.nil ?_)
  all_goals (repeat' (with_reducible first | refine thenP_n ?_ | refine blockP_n ?_))
  all_goals (refine WC.sub [(0, _), (1, _), (20, _)] ⟨rfl, rfl, rfl, trivial⟩ ?_)
  all_goals (first | refine WC.condB_t 1 rfl ?_ | refine WC.condB_f 2 rfl ?_ | (refine WC.condB 1 2 rfl (fun hb => ?_) (fun hb => ?_) <;> (first | replace hb := of_decide_eq_true hb | replace hb := of_decide_eq_false hb | replace hb := of_decide_eq_false (nt hb) | replace hb := of_decide_eq_true (nf hb) | skip)))
  all_goals (first
    | (fail_if_success (refine Br.mk (i := 1) ?_))
    | (refine Br.mk (i := 1) ?_
       all_goals (refine WC.seq ?_)
       all_goals (refine WC.region ?_)
       all_goals (fail "no contract for call of remuda/remudalaw28.awake at 2.0")
       all_goals (refine WL.step (ok_assign rfl) rfl rfl rfl ?_)
       all_goals (refine WL.nil ?_)
       all_goals (repeat' (with_reducible first | refine thenP_n ?_ | refine blockP_n ?_))
       all_goals (refine WC.sub [(4, _)] ⟨rfl, trivial⟩ ?_)
       all_goals (refine WC.ret ?_)
       all_goals (repeat' (with_reducible first | refine thenP_r ?_ | refine blockP_r ?_))
       all_goals (refine retP_1 _ ⟨rfl, trivial⟩ ?_)
       all_goals (exact ⟨rfl, i6.ext.trans hx7⟩)
       skip))
  all_goals (first
    | (fail_if_success (refine Br.mk (i := 2) ?_))
    | (refine Br.mk (i := 2) ?_
       all_goals (refine WC.skip ?_)
       skip))
  all_goals (repeat' (with_reducible first | refine thenP_n ?_ | refine blockP_n ?_))
  all_goals (refine WC.seq ?_)
  all_goals (refine WC.region ?_)
  all_goals (refine WL.call (vs := []) rfl (fun a w => Try.call32 a w) rfl (new_port) rfl rfl rfl ?_
             rintro _ h1 ⟨b, m, rfl, hs1, hm1, hgb, hgm, hx1⟩)
  all_goals (have s1 := hx1.size)
  all_goals (refine WL.step (ok_assign rfl) rfl rfl rfl ?_)
  all_goals (refine WL.nil ?_)
  all_goals (repeat' (with_reducible first | refine thenP_n ?_ | refine blockP_n ?_))
  all_goals (refine WC.seq ?_)
  all_goals (refine WC.seq ?_)
  all_goals (refine WC.region ?_)
  all_goals (refine WL.step (ok_move rfl) rfl rfl rfl ?_)
  all_goals (refine WL.step (ok_eqlPn Try.underlying52 rfl rfl) rfl rfl rfl ?_)
  all_goals (refine WL.step (ok_move rfl) rfl rfl rfl ?_)
  all_goals (try ((fail_if_success (refine WL.part 25 (b := true) rfl (fun _ => ?_) (fun _ => ?_))); (fail_if_success (refine WL.part 25 (b := false) rfl (fun _ => ?_) (fun _ => ?_))); (refine WL.part 25 rfl (fun hb => ?_) (fun hb => ?_) <;> (first | replace hb := of_decide_eq_true hb | replace hb := of_decide_eq_false hb | replace hb := of_decide_eq_false (nt hb) | replace hb := of_decide_eq_true (nf hb) | skip))))
  all_goals (first | (refine WL.pass rfl rfl rfl ?_) | (refine WL.step (ok_move rfl) rfl rfl rfl ?_))
  all_goals (first | (refine WL.pass rfl rfl rfl ?_) | (refine WL.step (ok_buildF (vs := []) (cs := [_, _, _, _, _, _]) (fun | [] => [(St []), (.slice none 0 0), (.slice none 0 0), (.slice none 0 0), (.bool false), (.bool false)] | _ => []) rfl rfl (by kernel_rfl)) rfl rfl rfl ?_))
  all_goals (first
               | (refine WL.pass rfl rfl rfl ?_)
               | (refine WL.call (vs := [_, _, _]) rfl (fun a w => Try.call33 a w) rfl (put_first [112] PD0 hs1 hm1 (pd0_ok _)) rfl rfl rfl ?_
                  rintro _ h2 ⟨rfl, p, d2, r2, e2, hgp, hf2, hx2⟩))
  all_goals (have X2 := hx1.trans' hx2 (fun k hk e => by omega)
             simp only [PD.pl, PD0, Prod.mk.injEq] at e2)
  all_goals (first | (refine WL.pass rfl rfl rfl ?_) | (first | (refine WL.step (OkP.nbool_t (by omega) (ok_neq rfl rfl)) rfl rfl rfl ?_) | (refine WL.step (OkP.nbool_f (by omega) (ok_neq rfl rfl)) rfl rfl rfl ?_) | (refine WL.step (ok_neq rfl rfl) rfl rfl rfl ?_)))
  all_goals (first | (refine WL.step (ok_pick_t rfl rfl) rfl rfl rfl ?_) | (refine WL.step (ok_pick_f rfl rfl) rfl rfl rfl ?_))
  all_goals (refine WL.step (ok_move rfl) rfl rfl rfl ?_)
  all_goals (try ((fail_if_success (refine WL.part 31 (b := true) rfl (fun _ => ?_) (fun _ => ?_))); (fail_if_success (refine WL.part 31 (b := false) rfl (fun _ => ?_) (fun _ => ?_))); (refine WL.part 31 rfl (fun hb => ?_) (fun hb => ?_) <;> (first | replace hb := of_decide_eq_true hb | replace hb := of_decide_eq_false hb | replace hb := of_decide_eq_false (nt hb) | replace hb := of_decide_eq_true (nf hb) | skip))))
  all_goals (first | (refine WL.pass rfl rfl rfl ?_) | (refine WL.step (ok_move rfl) rfl rfl rfl ?_))
  all_goals (first | (refine WL.pass rfl rfl rfl ?_) | (refine WL.step (ok_move rfl) rfl rfl rfl ?_))
  all_goals (first
               | (refine WL.pass rfl rfl rfl ?_)
               | (refine WL.call (vs := [_, _, _]) rfl (fun a w => Try.call34 a w) rfl (ran_yes r2 R e2.2.2.2.2.1 (hR.ext0 X2)) rfl rfl rfl ?_
                  rintro _ h3 ⟨rfl, v3, L3, r3, p3, hf3, hx3⟩))
  all_goals (have X3 := X2.trans' hx3 (fun k hk e => by omega))
  all_goals (first | (refine WL.pass rfl rfl rfl ?_) | (refine WL.step (ok_not rfl) rfl rfl rfl ?_))
  all_goals (first | (refine WL.step (ok_pick_t rfl rfl) rfl rfl rfl ?_) | (refine WL.step (ok_pick_f rfl rfl) rfl rfl rfl ?_))
  all_goals (refine WL.step (ok_move rfl) rfl rfl rfl ?_)
  all_goals (try ((fail_if_success (refine WL.part 37 (b := true) rfl (fun _ => ?_) (fun _ => ?_))); (fail_if_success (refine WL.part 37 (b := false) rfl (fun _ => ?_) (fun _ => ?_))); (refine WL.part 37 rfl (fun hb => ?_) (fun hb => ?_) <;> (first | replace hb := of_decide_eq_true hb | replace hb := of_decide_eq_false hb | replace hb := of_decide_eq_false (nt hb) | replace hb := of_decide_eq_true (nf hb) | skip))))
  all_goals (first | (refine WL.pass rfl rfl rfl ?_) | (refine WL.step (ok_move rfl) rfl rfl rfl ?_))
  all_goals (first
               | (refine WL.pass rfl rfl rfl ?_)
               | (refine WL.call (vs := [_, _, _]) rfl (fun a w => Try.call34 a w) rfl (ran_no r3 rfl) rfl rfl rfl ?_
                  rintro _ hz ⟨rfl, _⟩
                  subst hz))
  all_goals (have i0 : FI h h3 b m p R (.slice none 0 0) [] _ := ⟨r3, rfl, fun e => by (rw [show d2.over = false from e2.2.2.2.2.2] at e; cases e), Own.nil _ _ _, by simp, by simpa using p3, X3, by omega, fun k e => (by cases e), (by simp), fun k _ e => (by cases e)⟩)
  all_goals (first | (refine WL.step (ok_pick_t rfl rfl) rfl rfl rfl ?_) | (refine WL.step (ok_pick_f rfl rfl) rfl rfl rfl ?_))
  all_goals (refine WL.nil ?_)
  all_goals (repeat' (with_reducible first | refine thenP_n ?_ | refine blockP_n ?_))
  all_goals (refine WC.sub [(0, _), (1, _), (5, _), (40, _)] ⟨rfl, rfl, rfl, rfl, trivial⟩ ?_)
  all_goals (first | refine WC.condB_t 3 rfl ?_ | refine WC.condB_f 4 rfl ?_ | (refine WC.condB 3 4 rfl (fun hb => ?_) (fun hb => ?_) <;> (first | replace hb := of_decide_eq_true hb | replace hb := of_decide_eq_false hb | replace hb := of_decide_eq_false (nt hb) | replace hb := of_decide_eq_true (nf hb) | skip)))
  all_goals (first
    | (fail_if_success (refine Br.mk (i := 3) ?_))
    | (refine Br.mk (i := 3) ?_
       all_goals (refine WC.seq ?_)
       all_goals (refine WC.region ?_)
       all_goals (refine WL.step (ok_assign rfl) rfl rfl rfl ?_)
       all_goals (refine WL.nil ?_)
       all_goals (repeat' (with_reducible first | refine thenP_n ?_ | refine blockP_n ?_))
       all_goals (refine WC.sub [(4, _)] ⟨rfl, trivial⟩ ?_)
       all_goals (refine WC.ret ?_)
       all_goals (repeat' (with_reducible first | refine thenP_r ?_ | refine blockP_r ?_))
       all_goals (refine retP_1 _ ⟨rfl, trivial⟩ ?_)
       all_goals (exact ⟨rfl, i6.ext.trans hx7⟩)
       skip))
  all_goals (first
    | (fail_if_success (refine Br.mk (i := 4) ?_))
    | (refine Br.mk (i := 4) ?_
       all_goals (refine WC.skip ?_)
       skip))
  all_goals (repeat' (with_reducible first | refine thenP_n ?_ | refine blockP_n ?_))
  all_goals (refine WC.seq ?_)
  all_goals (refine WC.region ?_)
  all_goals (refine WL.step (ok_assign rfl) rfl rfl rfl ?_)
  all_goals (refine WL.nil ?_)
  all_goals (repeat' (with_reducible first | refine thenP_n ?_ | refine blockP_n ?_))
  all_goals (refine WC.seq ?_)
  all_goals (refine WC.seq ?_)
  all_goals (refine WC.region ?_)
  all_goals (refine WL.step (ok_move rfl) rfl rfl rfl ?_)
  all_goals (refine WL.step (ok_lenL rfl Try.underlying51 rfl) rfl rfl rfl ?_)
  all_goals (refine WL.step (ok_move rfl) rfl rfl rfl ?_)
  all_goals (refine WL.nil ?_)
  all_goals (repeat' (with_reducible first | refine thenP_n ?_ | refine blockP_n ?_))
  all_goals (refine WC.block ?_)
  -- loop 0: slots that turn [6, 43], that stay [0, 5, 41, 42]
  all_goals (refine WC.loopG (X := Nat × Value) (fun x => ([(43, In (x.1 : Int)), (6, x.2)] : Fr)) [(0, _), (5, _), (41, _), (42, _)] (fun x h' => x.1 ≤ l.length ∧ ∃ done d, FI h h' b m p R x.2 done d) (fun x => l.length - x.1) ((0, .slice none 0 0)) ⟨rfl, rfl, rfl, rfl, rfl, rfl, trivial⟩ (by exact ⟨Nat.zero_le _, _, _, i0⟩) ?_)
  all_goals (rintro ⟨k, vg⟩ h4 ⟨hk, done, d, i4⟩
             simp only at hk i4
             have hlen4 := i4.len
             obtain ⟨Ag, cg, rfl, _⟩ := i4.own.slice)
  all_goals (refine WC.sub [(6, _), (43, _), (0, _), (5, _), (41, _), (42, _)] ⟨rfl, rfl, rfl, rfl, rfl, rfl, trivial⟩ ?_)
  all_goals (dsimp only)
  all_goals (refine WC.seq ?_)
  all_goals (refine WC.region ?_)
  all_goals (first | (refine WL.step (OkP.bool_t (by omega) (ok_lss rfl rfl)) rfl rfl rfl ?_) | (refine WL.step (OkP.bool_f (by omega) (ok_lss rfl rfl)) rfl rfl rfl ?_) | (refine WL.step (ok_lss rfl rfl) rfl rfl rfl ?_))
  all_goals (refine WL.nil ?_)
  all_goals (repeat' (with_reducible first | refine thenP_n ?_ | refine blockP_n ?_))
  all_goals (refine WC.seq ?_)
  all_goals (first | refine WC.condB_t 5 rfl ?_ | refine WC.condB_f 6 rfl ?_ | (refine WC.condB 5 6 rfl (fun hb => ?_) (fun hb => ?_) <;> (first | replace hb := of_decide_eq_true hb | replace hb := of_decide_eq_false hb | replace hb := of_decide_eq_false (nt hb) | replace hb := of_decide_eq_true (nf hb) | skip)))
  all_goals (first
    | (fail_if_success (refine Br.mk (i := 5) ?_))
    | (refine Br.mk (i := 5) ?_
       all_goals (refine WC.skip ?_)
       skip))
  all_goals (first
    | (fail_if_success (refine Br.mk (i := 6) ?_))
    | (refine Br.mk (i := 6) ?_
       all_goals (refine WC.exit ?_)
       all_goals (repeat' (with_reducible first | refine thenP_x ?_ | refine blockP_miss rfl ?_ | refine blockP_hit ?_ | refine blockP_n ?_ | refine thenP_n ?_))
       all_goals (refine Br.out (i := 1000) ?_)
       skip))
  all_goals (first | (refine Br.keep ?_) | (repeat' (with_reducible first | refine thenP_n ?_ | refine blockP_n ?_)))
  all_goals (first | (refine Br.keep ?_) | (refine WC.seq ?_))
  all_goals (first | (refine Br.keep ?_) | (refine WC.block ?_))
  all_goals (first | (refine Br.keep ?_) | (refine WC.seq ?_))
  all_goals (first
               | (refine Br.keep ?_)
               | (obtain ⟨bL, oL, hA, _, hat⟩ := Rd.at_ (hl.ext0 i4.ext) (by omega)
                  obtain ⟨y, hy⟩ : ∃ y, l[k]? = some y := ⟨_, List.getElem?_eq_getElem (by omega)⟩
                  have hc := hat.get (p := oL + k * 1) (v := By y) k (by rw [List.getElem?_map, hy]; exact rfl) (by omega)
                  have e5 : ((y.toNat : Int).tmod 5) = ((y.toNat % 5 : Nat) : Int) := rfl))
  all_goals (first | (refine Br.keep ?_) | (refine WC.region ?_))
  all_goals (first | (refine Br.keep ?_) | (refine WL.step (ok_idxAddrA Try.underlying51 (fun w => Try.sizeOf5 w) rfl rfl rfl (by omega) (by first | rfl | assumption)) rfl rfl rfl ?_))
  all_goals (first | (refine Br.keep ?_) | (refine WL.step (ok_load (fun w => Try.isAgg5 w) rfl (by first | assumption | exact cell_blk (by assumption) rfl)) rfl rfl rfl ?_))
  all_goals (first | (refine Br.keep ?_) | (refine WL.step (ok_assign rfl) rfl rfl rfl ?_))
  all_goals (first | (refine Br.keep ?_) | (refine WL.nil ?_))
  all_goals (first | (refine Br.keep ?_) | (repeat' (with_reducible first | refine thenP_n ?_ | refine blockP_n ?_)))
  all_goals (first | (refine Br.keep ?_) | (refine WC.seq ?_))
  all_goals (first | (refine Br.keep ?_) | (refine WC.region ?_))
  all_goals (first | (refine Br.keep ?_) | (refine WL.step (ok_move rfl) rfl rfl rfl ?_))
  all_goals (first | (refine Br.keep ?_) | (refine WL.step (ok_move rfl) rfl rfl rfl ?_))
  all_goals (first | (refine Br.keep ?_) | (refine WL.step (ok_rem rfl rfl (by decide)) rfl rfl rfl ?_))
  all_goals (first | (refine Br.keep ?_) | (rw [e5]))
  all_goals (first | (refine Br.keep ?_) | (first | (refine WL.step (ok_convI Try.underlying5 Try.underlying3 rfl (by omega)) rfl rfl rfl ?_) | (refine WL.step (ok_conv Try.underlying5 Try.underlying3 rfl) rfl rfl rfl ?_)))
  all_goals (first | (refine Br.keep ?_) | (first | (refine WL.step (ok_addI rfl rfl (by omega)) rfl rfl rfl ?_) | (refine WL.step (ok_add rfl rfl) rfl rfl rfl ?_)))
  all_goals (first
               | (refine Br.keep ?_)
               | (refine WL.call (vs := [_, _, _]) rfl (fun a w => Try.call35 a w) rfl (fetch_fi i4 (1 + ((y.toNat % 5 : Nat) : Int)) (by omega)) rfl rfl rfl ?_
                  rintro _ h5 ⟨wo, n, vr', ov, rfl, hn, hq, R5, P5, hov, t5, u5, x5⟩))
  all_goals (first
               | (refine Br.keep ?_)
               | (have htl : (d.rs.take n).length = n := by (rw [List.length_take]; omega)
                  have hdl : (d.rs.drop n).length = d.rs.length - n := List.length_drop
                  obtain ⟨Aw, cw, rfl⟩ : ∃ A c, wo = .slice A (d.rs.take n).length c := (by obtain ⟨_, ⟨_, A, c, e, _⟩, _⟩ := R5; exact ⟨A, c, e⟩)
                  have em : (!ov) = decide (((done.length + (d.rs.take n).length : Nat) : Int) < (R.length : Int)) := more_eq hov hn htl hlen4
                  rw [em]))
  all_goals (first | (refine Br.keep ?_) | (refine WL.step (ok_move rfl) rfl rfl rfl ?_))
  all_goals (first | (refine Br.keep ?_) | (refine WL.step (ok_extract rfl rfl) rfl rfl rfl ?_))
  all_goals (first | (refine Br.keep ?_) | (refine WL.step (ok_extract rfl rfl) rfl rfl rfl ?_))
  all_goals (first | (refine Br.keep ?_) | (refine WL.step (ok_assign rfl) rfl rfl rfl ?_))
  all_goals (first | (refine Br.keep ?_) | (refine WL.step (ok_assign rfl) rfl rfl rfl ?_))
  all_goals (first | (refine Br.keep ?_) | (refine WL.nil ?_))
  all_goals (first | (refine Br.keep ?_) | (repeat' (with_reducible first | refine thenP_n ?_ | refine blockP_n ?_)))
  all_goals (first | (refine Br.keep ?_) | (refine WC.sub [(0, _), (5, _), (6, _), (8, _), (9, _), (10, _), (41, _), (42, _), (43, _)] ⟨rfl, rfl, rfl, rfl, rfl, rfl, rfl, rfl, rfl, trivial⟩ ?_))
  all_goals (first | (refine Br.keep ?_) | (refine WC.seq ?_))
  all_goals (first | (refine Br.keep ?_) | (refine WC.region ?_))
  all_goals (first | (refine Br.keep ?_) | (refine WL.step (ok_move rfl) rfl rfl rfl ?_))
  all_goals (first | (refine Br.keep ?_) | (refine WL.step (ok_move rfl) rfl rfl rfl ?_))
  all_goals (first
               | (refine Br.keep ?_)
               | (refine WL.stepR (ok_append (sz := 1) (bytes := 24) rfl Try.underlying37 (show Try.prog.info? 36 = some Try.t36 by kernel_rfl) rfl rfl rfl rfl (by decide) rfl rfl (i4.own.ext x5 (fun k hk e => (i4.fg k hk).2.1 e)) R5.1 (one_rws R5.2.2) (by simp only [maxLen]; omega) (by omega)) rfl rfl rfl ?_
                  rintro v6 h6 ⟨ho6, hx6, hl6⟩))
  all_goals (first
               | (refine Br.keep ?_)
               | (have i6 := i4.next R5 P5 hov.1 t5 u5 x5 ho6 hx6 hl6
                  obtain ⟨A6, c6, rfl, _⟩ := ho6.slice))
  all_goals (first | (refine Br.keep ?_) | (refine WL.step (ok_assign rfl) rfl rfl rfl ?_))
  all_goals (first | (refine Br.keep ?_) | (refine WL.nil ?_))
  all_goals (first | (refine Br.keep ?_) | (repeat' (with_reducible first | refine thenP_n ?_ | refine blockP_n ?_)))
  all_goals (first | (refine Br.keep ?_) | (refine WC.seq ?_))
  all_goals (first | (refine Br.keep ?_) | (refine WC.region ?_))
  all_goals (first | (refine Br.keep ?_) | (refine WL.step (ok_move rfl) rfl rfl rfl ?_))
  all_goals (first | (refine Br.keep ?_) | (refine WL.step (ok_move rfl) rfl rfl rfl ?_))
  all_goals (first | (refine Br.keep ?_) | (refine WL.step (ok_lenL rfl Try.underlying37 rfl) rfl rfl rfl ?_))
  all_goals (first | (refine Br.keep ?_) | (refine WL.step (ok_move rfl) rfl rfl rfl ?_))
  all_goals (first | (refine Br.keep ?_) | (refine WL.step (ok_lenL rfl Try.underlying37 rfl) rfl rfl rfl ?_))
  all_goals (first | (refine Br.keep ?_) | (first | (refine WL.step (OkP.bool_t (by omega) (ok_lss rfl rfl)) rfl rfl rfl ?_) | (refine WL.step (OkP.bool_f (by omega) (ok_lss rfl rfl)) rfl rfl rfl ?_) | (refine WL.step (ok_lss rfl rfl) rfl rfl rfl ?_)))
  all_goals (first | (refine Br.keep ?_) | (first | (refine WL.step (OkP.nbool_f (by rfl) (ok_neqB Try.underlying4 rfl rfl)) rfl rfl rfl ?_) | (refine WL.step (OkP.nbool_t (by decide) (ok_neqB Try.underlying4 rfl rfl)) rfl rfl rfl ?_) | (refine WL.step (ok_neqB Try.underlying4 rfl rfl) rfl rfl rfl ?_)))
  all_goals (first | (refine Br.keep ?_) | (refine WL.step (ok_move rfl) rfl rfl rfl ?_))
  all_goals (first | (refine Br.keep ?_) | (try ((fail_if_success (refine WL.part 66 (b := true) rfl (fun _ => ?_) (fun _ => ?_))); (fail_if_success (refine WL.part 66 (b := false) rfl (fun _ => ?_) (fun _ => ?_))); (refine WL.part 66 rfl (fun hb => ?_) (fun hb => ?_) <;> (first | replace hb := of_decide_eq_true hb | replace hb := of_decide_eq_false hb | replace hb := of_decide_eq_false (nt hb) | replace hb := of_decide_eq_true (nf hb) | skip)))))
  all_goals (first | (refine Br.keep ?_) | (first | (refine WL.pass rfl rfl rfl ?_) | (refine WL.step (ok_move rfl) rfl rfl rfl ?_)))
  all_goals (first | (refine Br.keep ?_) | (first | (refine WL.pass rfl rfl rfl ?_) | (refine WL.step (ok_lenL rfl Try.underlying37 rfl) rfl rfl rfl ?_)))
  all_goals (first | (refine Br.keep ?_) | (first | (refine WL.pass rfl rfl rfl ?_) | (refine WL.step (ok_move rfl) rfl rfl rfl ?_)))
  all_goals (first | (refine Br.keep ?_) | (first | (refine WL.pass rfl rfl rfl ?_) | (refine WL.step (ok_rem rfl rfl (by decide)) rfl rfl rfl ?_)))
  all_goals (first | (refine Br.keep ?_) | (rw [e5]))
  all_goals (first | (refine Br.keep ?_) | (first | (refine WL.pass rfl rfl rfl ?_) | (first | (refine WL.step (ok_convI Try.underlying5 Try.underlying3 rfl (by omega)) rfl rfl rfl ?_) | (refine WL.step (ok_conv Try.underlying5 Try.underlying3 rfl) rfl rfl rfl ?_))))
  all_goals (first | (refine Br.keep ?_) | (first | (refine WL.pass rfl rfl rfl ?_) | (first | (refine WL.step (ok_addI rfl rfl (by omega)) rfl rfl rfl ?_) | (refine WL.step (ok_add rfl rfl) rfl rfl rfl ?_))))
  all_goals (first | (refine Br.keep ?_) | (first | (refine WL.pass rfl rfl rfl ?_) | (first | (refine WL.step (OkP.bool_t (by omega) (ok_gtr rfl rfl)) rfl rfl rfl ?_) | (refine WL.step (OkP.bool_f (by omega) (ok_gtr rfl rfl)) rfl rfl rfl ?_) | (refine WL.step (ok_gtr rfl rfl) rfl rfl rfl ?_))))
  all_goals (first | (refine Br.keep ?_) | (first | (refine WL.step (ok_pick_t rfl rfl) rfl rfl rfl ?_) | (refine WL.step (ok_pick_f rfl rfl) rfl rfl rfl ?_)))
  all_goals (first | (refine Br.keep ?_) | (refine WL.nil ?_))
  all_goals (first | (refine Br.keep ?_) | (repeat' (with_reducible first | refine thenP_n ?_ | refine blockP_n ?_)))
  all_goals (first | (refine Br.keep ?_) | (refine WC.sub [(0, _), (5, _), (6, _), (41, _), (42, _), (43, _), (74, _)] ⟨rfl, rfl, rfl, rfl, rfl, rfl, rfl, trivial⟩ ?_))
  all_goals (first | (refine Br.keep ?_) | (first | refine WC.condB_t 7 rfl ?_ | refine WC.condB_f 8 rfl ?_ | (refine WC.condB 7 8 rfl (fun hb => ?_) (fun hb => ?_) <;> (first | replace hb := of_decide_eq_true hb | replace hb := of_decide_eq_false hb | replace hb := of_decide_eq_false (nt hb) | replace hb := of_decide_eq_true (nf hb) | skip))))
  all_goals (first
    | (fail_if_success (refine Br.mk (i := 7) ?_))
    | (refine Br.mk (i := 7) ?_
       all_goals (refine WC.seq ?_)
       all_goals (refine WC.region ?_)
       all_goals (refine WL.step (ok_assign rfl) rfl rfl rfl ?_)
       all_goals (refine WL.nil ?_)
       all_goals (repeat' (with_reducible first | refine thenP_n ?_ | refine blockP_n ?_))
       all_goals (refine WC.sub [(4, _)] ⟨rfl, trivial⟩ ?_)
       all_goals (refine WC.ret ?_)
       all_goals (repeat' (with_reducible first | refine thenP_r ?_ | refine blockP_r ?_))
       all_goals (refine retP_1 _ ⟨rfl, trivial⟩ ?_)
       all_goals (exact ⟨rfl, i6.ext.trans hx7⟩)
       skip))
  all_goals (first
    | (fail_if_success (refine Br.mk (i := 8) ?_))
    | (refine Br.mk (i := 8) ?_
       all_goals (refine WC.skip ?_)
       skip))
  all_goals (first | (refine Br.keep ?_) | (repeat' (with_reducible first | refine thenP_n ?_ | refine blockP_n ?_)))
  all_goals (first | (refine Br.keep ?_) | (refine WC.region ?_))
  all_goals (first | (refine Br.keep ?_) | (first | (refine WL.step (ok_addI rfl rfl (by omega)) rfl rfl rfl ?_) | (refine WL.step (ok_add rfl rfl) rfl rfl rfl ?_)))
  all_goals (first | (refine Br.keep ?_) | (refine WL.step (ok_move rfl) rfl rfl rfl ?_))
  all_goals (first | (refine Br.keep ?_) | (refine WL.nil ?_))
  all_goals (first | (refine Br.keep ?_) | (repeat' (with_reducible first | refine thenP_n ?_ | refine blockP_n ?_)))
  all_goals (first | (refine Br.keep ?_) | (exact ⟨(k + 1, _), ⟨rfl, rfl, rfl, rfl, rfl, rfl, trivial⟩, (by exact ⟨by simp; omega, _, _, i6⟩), (by simp; omega)⟩))
  all_goals (try (refine Br.mk (i := 1000) ?_))
  all_goals (repeat' (with_reducible first | refine thenP_n ?_ | refine blockP_n ?_))
  all_goals (refine WC.sub [(0, _), (5, _), (6, _)] ⟨rfl, rfl, rfl, trivial⟩ ?_)
  all_goals (refine WC.seq ?_)
  all_goals (refine WC.region ?_)
  all_goals (refine WL.step (ok_move rfl) rfl rfl rfl ?_)
  all_goals (refine WL.call (vs := [_, _, _]) rfl (fun a w => Try.call35 a w) rfl (fetch_f0 i4) rfl rfl rfl ?_
             rintro _ h5 ⟨wo, n, vr', ov, rfl, hn, hq, R5, P5, hov, t5, u5, x5⟩)
  all_goals (obtain rfl : ov = true := hov.2 (by rw [hq]; simp)
             obtain ⟨Aw, cw, rfl⟩ : ∃ A c, wo = .slice A (d.rs.take n).length c := (by obtain ⟨_, ⟨_, A, c, e, _⟩, _⟩ := R5; exact ⟨A, c, e⟩)
             have htl : (d.rs.take n).length = n := by (rw [List.length_take]; omega))
  all_goals (refine WL.step (ok_move rfl) rfl rfl rfl ?_)
  all_goals (refine WL.step (ok_extract rfl rfl) rfl rfl rfl ?_)
  all_goals (refine WL.step (ok_extract rfl rfl) rfl rfl rfl ?_)
  all_goals (refine WL.step (ok_assign rfl) rfl rfl rfl ?_)
  all_goals (refine WL.step (ok_assign rfl) rfl rfl rfl ?_)
  all_goals (refine WL.nil ?_)
  all_goals (repeat' (with_reducible first | refine thenP_n ?_ | refine blockP_n ?_))
  all_goals (refine WC.sub [(0, _), (6, _), (11, _), (12, _)] ⟨rfl, rfl, rfl, rfl, trivial⟩ ?_)
  all_goals (refine WC.seq ?_)
  all_goals (refine WC.region ?_)
  all_goals (refine WL.step (ok_move rfl) rfl rfl rfl ?_)
  all_goals (refine WL.step (ok_move rfl) rfl rfl rfl ?_)
  all_goals (refine WL.stepR (ok_append (sz := 1) (bytes := 24) rfl Try.underlying37 (show Try.prog.info? 36 = some Try.t36 by kernel_rfl) rfl rfl rfl rfl (by decide) rfl rfl (i4.own.ext x5 (fun k hk e => (i4.fg k hk).2.1 e)) R5.1 (one_rws R5.2.2) (by simp only [maxLen]; omega) (by omega)) rfl rfl rfl ?_
             rintro v6 h6 ⟨ho6, hx6, hl6⟩)
  all_goals (have i6 := i4.next R5 P5 hov.1 t5 u5 x5 ho6 hx6 hl6
             have hlen6 := i6.len
             have hd0 : d.rs.drop n = [] := hov.1 rfl
             have hpl6 : (done ++ d.rs.take n).map Rw.pl = R.map Rw.pl := by (have := i6.pl; dsimp only at this; rw [hd0, List.append_nil] at this; exact this))
  all_goals (refine WL.step (ok_move rfl) rfl rfl rfl ?_)
  all_goals (refine WL.call (vs := [_, _]) rfl (fun a w => Try.call36 a w) rfl ((rows_ref28 (done ++ d.rs.take n) R ⟨i6.own.rd, ⟨by simp only [List.length_append, reachBytes]; omega, i6.own.cap⟩, i6.rows⟩ (hR0.ext0 i6.ext)).as (congrArg Value.bool (decide_eq_true hpl6))) rfl rfl rfl ?_
             rintro _ hz ⟨rfl, _⟩
             subst hz)
  all_goals (refine WL.step (ok_move rfl) rfl rfl rfl ?_)
  all_goals (try ((fail_if_success (refine WL.part 86 (b := true) rfl (fun _ => ?_) (fun _ => ?_))); (fail_if_success (refine WL.part 86 (b := false) rfl (fun _ => ?_) (fun _ => ?_))); (refine WL.part 86 rfl (fun hb => ?_) (fun hb => ?_) <;> (first | replace hb := of_decide_eq_true hb | replace hb := of_decide_eq_false hb | replace hb := of_decide_eq_false (nt hb) | replace hb := of_decide_eq_true (nf hb) | skip))))
  all_goals (first | (refine WL.pass rfl rfl rfl ?_) | (refine WL.step (ok_move rfl) rfl rfl rfl ?_))
  all_goals (first | (refine WL.pass rfl rfl rfl ?_) | (refine WL.step (ok_not rfl) rfl rfl rfl ?_))
  all_goals (first | (refine WL.step (ok_pick_t rfl rfl) rfl rfl rfl ?_) | (refine WL.step (ok_pick_f rfl rfl) rfl rfl rfl ?_))
  all_goals (refine WL.step (ok_move rfl) rfl rfl rfl ?_)
  all_goals (try ((fail_if_success (refine WL.part 90 (b := true) rfl (fun _ => ?_) (fun _ => ?_))); (fail_if_success (refine WL.part 90 (b := false) rfl (fun _ => ?_) (fun _ => ?_))); (refine WL.part 90 rfl (fun hb => ?_) (fun hb => ?_) <;> (first | replace hb := of_decide_eq_true hb | replace hb := of_decide_eq_false hb | replace hb := of_decide_eq_false (nt hb) | replace hb := of_decide_eq_true (nf hb) | skip))))
  all_goals (first
               | (refine WL.pass rfl rfl rfl ?_)
               | (refine WL.call (vs := []) rfl (fun a w => Try.call31 a w) rfl (awake28) rfl rfl rfl ?_
                  rintro _ h7 ⟨rfl, hx7⟩))
  all_goals (first | (refine WL.step (ok_pick_t rfl rfl) rfl rfl rfl ?_) | (refine WL.step (ok_pick_f rfl rfl) rfl rfl rfl ?_))
  all_goals (refine WL.step (ok_assign rfl) rfl rfl rfl ?_)
  all_goals (refine WL.nil ?_)
  all_goals (repeat' (with_reducible first | refine thenP_n ?_ | refine blockP_n ?_))
  all_goals (refine WC.sub [(4, _)] ⟨rfl, trivial⟩ ?_)
  all_goals (refine WC.ret ?_)
  all_goals (repeat' (with_reducible first | refine thenP_r ?_ | refine blockP_r ?_))
  all_goals (refine retP_1 _ ⟨rfl, trivial⟩ ?_)
  all_goals (exact ⟨rfl, i6.ext.trans hx7⟩)
theorem fetches_all {h : Heap} {v w : Value} (R : List Rw) (l : List UInt8) (hR : Rws h v R) (hl : Rd h w 1 l.length (bys l)) (hm : l.length ≤ reachBytes) :
    CallsH Try.prog 5 ⟨[v, w]⟩ h fun u h' => u = .bool true ∧ Ext No h h' := by
  by_cases hb : R.length ≤ 40 ∧ l.length ≤ 60
  · exact fetches_law R l hR hl hb.1 hb.2
  · exact fetches_many R l hR hl hm (by omega)

namespace LPortalFetches
open Go.ChangeShapes Go.WideShapes Go.ChangeAt Go.RowKit
open Go.ChangeMaps (open_string shut_string)
theorem own : ownKnob Try.prog.godebug = none := by kernel_rfl
theorem laidOut : laidOutB Try.prog = true := by kernel_rfl
set_option maxRecDepth 100000 in
theorem lifted (os : Os) (started : os.Started) (H : Type) (enc : TypeId × Value → H) :
    ReturnsInHanded {} Try.checked os 5 .any (Rows.portalFetchesSpec.pre6 enc Try.prog Try.f5 Rows.portalFetchesRow.domain false) (Rows.portalFetchesSpec.post enc Try.prog Try.f5 false true false false) := by
  refine returnsInHanded_of_change_sized (C := Try.checked) own started (by kernel_rfl) Try.func5
    (ChangeSpec.witness6 (enc := enc) (C := Try.checked) false ⟨#[], #[.slice none 0 0, .slice none 0 0], []⟩ 8 (by kernel_rfl) (by kernel_rfl) (by kernel_rfl) (by kernel_rfl)) ?_
  intro W base args ds gs before hval0 hW hcnd hsz0 _
  have hval : ∀ (j : Nat) t v, Try.f5.params[j]? = some t → args[j]? = some v → Value.okWide Try.prog W .any base t v := hval0
  have hsz := hsz0
  rw [Try.params5] at hsz
  clear hsz0
  have hW' := hW
  obtain ⟨p, q, hA0, hV, rfl, hfz, hnd⟩ := hW
  have hA : DataW.TrodAll enc Try.prog W 0 (fun _ => true) true Try.f5.params.toList args.toList ds p := hA0
  rw [Try.params5] at hA hval
  obtain ⟨v0, vs0, d0, ds0, p0, q0, hargs, rfl, rfl, h0, r0⟩ := trodAll_cons hA
  obtain ⟨v1, vs1, d1, ds1, p1, q1, rfl, rfl, rfl, h1, r1⟩ := trodAll_cons r0
  obtain ⟨rfl, rfl, rfl⟩ := trodAll_nil r1
  obtain rfl : args = #[v0, v1] := by cases args; simp_all
  obtain ⟨rfl, rfl⟩ := trodVars_none hV
  have hz0 : ∀ n ∈ d0.weights Try.prog 37, n ≤ reachBytes := fun n hn => by simpa using List.all_eq_true.1 hsz n (DataW.weights_mem_each (j := 0) rfl rfl n hn)
  have k0 := h0
  have lt0 : ∀ x ∈ p0, x.block < W.heap.size := by obtain ⟨m, hm⟩ := k0; exact DataW.trod_lt m _ _ _ hm
  obtain ⟨A0, n0, c0, rfl⟩ := okWide_slice Try.underlying37 (hval 0 37 v0 rfl rfl)
  obtain ⟨fu0, hf0⟩ := h0
  obtain ⟨⟨v0, l0⟩, e0, w0⟩ := opens_rows W _ _ _ _ _ _ _ _ hf0 hz0
  obtain rfl : .slice A0 n0 c0 = v0 := by simpa [Value.cells] using e0
  have hz1 : ∀ n ∈ d1.weights Try.prog 51, n ≤ reachBytes := fun n hn => by simpa using List.all_eq_true.1 hsz n (DataW.weights_mem_each (j := 1) rfl rfl n hn)
  have k1 := h1
  have lt1 : ∀ x ∈ p1, x.block < W.heap.size := by obtain ⟨m, hm⟩ := k1; exact DataW.trod_lt m _ _ _ hm
  obtain ⟨A1, n1, c1, rfl⟩ := okWide_slice Try.underlying51 (hval 1 51 v1 rfl rfl)
  obtain ⟨fu1, hf1⟩ := h1
  obtain ⟨⟨v1, l1⟩, e1, w1⟩ := opens_bytes (w := W) Try.underlying51 (by kernel_rfl) (by kernel_rfl) Try.underlying5 _ _ _ _ _ _ _ _ hf1 hz1
  obtain rfl : .slice A1 n1 c1 = v1 := by simpa [Value.cells] using e1
  clear hA0 hval0
  refine (law_calls (fetches_all l0 l1 w0 w1.1 w1.2)).mono fun e W' ⟨he, bel⟩ => ?_
  subst he
  exact ⟨_, rfl, _, _, _, [], _, [], hW', trodAll_mk1 (shut_bool Try.underlying4 _), (trodAll_cons_mk (Below.trod laidOut (by kernel_rfl) (of_decide_eq_true (by kernel_rfl)) k0 bel lt0) (trodAll_cons_mk (Below.trod laidOut (by kernel_rfl) (of_decide_eq_true (by kernel_rfl)) k1 bel lt1) trodAll_mk0)), rfl, bel.frame _, fun h => by cases h⟩
theorem over : Rows.portalFetchesRow.holds Try.pinned (OpenSpec.ofChange Rows.portalFetchesSpec) :=
  OpenClaim.holds_of_wide 5 Try.f5 rfl rfl rfl rfl rfl rfl rfl ⟨rfl, rfl, rfl, rfl, rfl⟩ rfl rfl rfl rfl rfl (by kernel_rfl) Try.func5 (by kernel_rfl)
    (of_decide_eq_true (by kernel_rfl)) (by unfold Func.isWrapper; first | (rw [if_pos (by decide +kernel)]; kernel_rfl) | (rw [if_neg (by decide +kernel)]; exact ⟨rfl, rfl⟩))
    (fun os started H enc _ => lifted os started H enc)
end LPortalFetches
theorem portalFetches_proved : Rows.PortalFetchesSaid := LPortalFetches.over
#print axioms portalFetches_proved
end Go.Proofs.Ytgfbilmlgibbfaa

