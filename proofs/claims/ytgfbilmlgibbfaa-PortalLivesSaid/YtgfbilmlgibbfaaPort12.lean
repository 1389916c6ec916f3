/-
  PORTAL (layer 28): each call of both sets, one behind the other.
-/
import Derived.Test.YtgfbilmlgibbfaaPort11
namespace Go.Proofs.Ytgfbilmlgibbfaa
open Go Go.RK

theorem calls_imp {P : Program} {k : FuncId} {a : Array Value} {h : Heap} {R R' : Value → Heap → Prop} (c : CallsH P k a h R) (hR : ∀ u h', R u h' → R' u h') : CallsH P k a h R' := fun w hw =>
  (c w hw).mono fun _ _ ⟨hs, u, he, hu⟩ => ⟨hs, u, he, hR _ _ hu⟩
set_option maxRecDepth 100000 in
theorem fetch_offE {es : List (List UInt8 × Value)} {h : Heap} {b m p : Nat} {name : List UInt8} {d : PD} (r : Pe h b m es p name d) (most : Int) (hd : d.ran = false) :
    CallsH Try.prog 35 ⟨[.pointer (some ⟨b, 0, none⟩), St name, In most]⟩ h fun u h' => u = .tuple ⟨[.slice none 0 0, .bool false]⟩ ∧ h' = h := by
  have hof := of_e r
  obtain ⟨hb, hm, hlk, hp, hok, _⟩ := r
  obtain ⟨text, vo, oids, vp, ps, vr, rs, ran, over⟩ := d
  simp only at hd
  subst hd
  dsimp only [PD.cells] at hp
  refine calls [(0, _), (1, _), (2, _)] Try.func35 rfl Try.ntmps35 rfl ⟨rfl, rfl, rfl, trivial⟩ ?_
  all_goals (refine WC.seq ?_)
  all_goals (refine WC.region ?_)
  all_goals (refine WL.step (ok_assign rfl) rfl rfl rfl ?_)
  all_goals (refine WL.step (ok_assign rfl) rfl rfl rfl ?_)
  all_goals (refine WL.nil ?_)
  all_goals (repeat' (with_reducible first | refine thenP_n ?_ | refine blockP_n ?_))
  all_goals (refine WC.seq ?_)
  all_goals (refine WC.region ?_)
  all_goals (refine WL.step (ok_move rfl) rfl rfl rfl ?_)
  all_goals (refine WL.step (ok_move rfl) rfl rfl rfl ?_)
  all_goals (refine WL.call (vs := [_, _]) rfl (fun a w => Try.call82 a w) rfl (hof) rfl rfl rfl ?_
             rintro _ hz ⟨rfl, _⟩
             subst hz)
  all_goals (refine WL.step (ok_move rfl) rfl rfl rfl ?_)
  all_goals (refine WL.step (ok_extract rfl rfl) rfl rfl rfl ?_)
  all_goals (refine WL.step (ok_extract rfl rfl) rfl rfl rfl ?_)
  all_goals (refine WL.step (ok_assign rfl) rfl rfl rfl ?_)
  all_goals (refine WL.step (ok_assign rfl) rfl rfl rfl ?_)
  all_goals (refine WL.nil ?_)
  all_goals (repeat' (with_reducible first | refine thenP_n ?_ | refine blockP_n ?_))
  all_goals (refine WC.sub [(2, _), (8, _), (9, _)] ⟨rfl, rfl, rfl, trivial⟩ ?_)
  all_goals (refine WC.seq ?_)
  all_goals (refine WC.seq ?_)
  all_goals (refine WC.region ?_)
  all_goals (refine WL.step (ok_move rfl) rfl rfl rfl ?_)
  all_goals (refine WL.step (ok_not rfl) rfl rfl rfl ?_)
  all_goals (refine WL.step (ok_move rfl) rfl rfl rfl ?_)
  all_goals (try ((fail_if_success (refine WL.part 20 (b := true) rfl (fun _ => ?_) (fun _ => ?_))); (fail_if_success (refine WL.part 20 (b := false) rfl (fun _ => ?_) (fun _ => ?_))); (refine WL.part 20 rfl (fun hb => ?_) (fun hb => ?_) <;> (first | replace hb := of_decide_eq_true hb | replace hb := of_decide_eq_false hb | replace hb := of_decide_eq_false (nt hb) | replace hb := of_decide_eq_true (nf hb) | skip))))
  all_goals (first | (refine WL.pass rfl rfl rfl ?_) | (refine WL.step (ok_move rfl) rfl rfl rfl ?_))
  all_goals (first | (refine WL.pass rfl rfl rfl ?_) | (refine WL.step (ok_nilCheck rfl) rfl rfl rfl ?_))
  all_goals (first | (refine WL.pass rfl rfl rfl ?_) | (refine WL.step (ok_fieldAddr rfl Try.underlying58 rfl (fun w => Try.sizeOf4 w)) rfl rfl rfl ?_))
  all_goals (first | (refine WL.pass rfl rfl rfl ?_) | (refine WL.step (ok_load (fun w => Try.isAgg4 w) rfl (by first | assumption | exact cell_blk (by assumption) rfl)) rfl rfl rfl ?_))
  all_goals (first | (refine WL.pass rfl rfl rfl ?_) | (refine WL.step (ok_not rfl) rfl rfl rfl ?_))
  all_goals (first | (refine WL.step (ok_pick_t rfl rfl) rfl rfl rfl ?_) | (refine WL.step (ok_pick_f rfl rfl) rfl rfl rfl ?_))
  all_goals (refine WL.step (ok_move rfl) rfl rfl rfl ?_)
  all_goals (try ((fail_if_success (refine WL.part 27 (b := true) rfl (fun _ => ?_) (fun _ => ?_))); (fail_if_success (refine WL.part 27 (b := false) rfl (fun _ => ?_) (fun _ => ?_))); (refine WL.part 27 rfl (fun hb => ?_) (fun hb => ?_) <;> (first | replace hb := of_decide_eq_true hb | replace hb := of_decide_eq_false hb | replace hb := of_decide_eq_false (nt hb) | replace hb := of_decide_eq_true (nf hb) | skip))))
  all_goals (first | (refine WL.pass rfl rfl rfl ?_) | (refine WL.step (ok_move rfl) rfl rfl rfl ?_))
  all_goals (first | (refine WL.pass rfl rfl rfl ?_) | (refine WL.step (ok_nilCheck rfl) rfl rfl rfl ?_))
  all_goals (first | (refine WL.pass rfl rfl rfl ?_) | (refine WL.step (ok_fieldAddr rfl Try.underlying58 rfl (fun w => Try.sizeOf4 w)) rfl rfl rfl ?_))
  all_goals (first | (refine WL.pass rfl rfl rfl ?_) | (refine WL.step (ok_load (fun w => Try.isAgg4 w) rfl (by first | assumption | exact cell_blk (by assumption) rfl)) rfl rfl rfl ?_))
  all_goals (first | (refine WL.step (ok_pick_t rfl rfl) rfl rfl rfl ?_) | (refine WL.step (ok_pick_f rfl rfl) rfl rfl rfl ?_))
  all_goals (refine WL.nil ?_)
  all_goals (repeat' (with_reducible first | refine thenP_n ?_ | refine blockP_n ?_))
  all_goals (refine WC.sub [(2, _), (8, _), (32, _)] ⟨rfl, rfl, rfl, trivial⟩ ?_)
  all_goals (first | refine WC.condB_t 1 rfl ?_ | refine WC.condB_f 2 rfl ?_ | (refine WC.condB 1 2 rfl (fun hb => ?_) (fun hb => ?_) <;> (first | replace hb := of_decide_eq_true hb | replace hb := of_decide_eq_false hb | replace hb := of_decide_eq_false (nt hb) | replace hb := of_decide_eq_true (nf hb) | skip)))
  all_goals (first
    | (fail_if_success (refine Br.mk (i := 1) ?_))
    | (refine Br.mk (i := 1) ?_
       all_goals (refine WC.seq ?_)
       all_goals (refine WC.region ?_)
       all_goals (refine WL.step (ok_assign rfl) rfl rfl rfl ?_)
       all_goals (refine WL.step (ok_assign rfl) rfl rfl rfl ?_)
       all_goals (refine WL.nil ?_)
       all_goals (repeat' (with_reducible first | refine thenP_n ?_ | refine blockP_n ?_))
       all_goals (refine WC.ret ?_)
       all_goals (repeat' (with_reducible first | refine thenP_r ?_ | refine blockP_r ?_))
       all_goals (refine retP_2 _ _ ⟨rfl, rfl, trivial⟩ ?_)
       all_goals (exact ⟨rfl, rfl⟩)
       skip))
  all_goals (first
    | (fail_if_success (refine Br.mk (i := 2) ?_))
    | (refine Br.mk (i := 2) ?_
       all_goals (refine WC.skip ?_)
       skip))
  all_goals (repeat' (with_reducible first | refine thenP_n ?_ | refine blockP_n ?_))
  all_goals (refine WC.seq ?_)
  all_goals (refine WC.region ?_)
  all_goals (refine WL.step (ok_move rfl) rfl rfl rfl ?_)
  all_goals (refine WL.step (ok_nilCheck rfl) rfl rfl rfl ?_)
  all_goals (refine WL.step (ok_fieldAddr rfl Try.underlying58 rfl (fun w => Try.sizeOf37 w)) rfl rfl rfl ?_)
  all_goals (refine WL.step (ok_load (fun w => Try.isAgg37 w) rfl (by first | assumption | exact cell_blk (by assumption) rfl)) rfl rfl rfl ?_)
  all_goals (refine WL.step (ok_lenL rfl Try.underlying37 rfl) rfl rfl rfl ?_)
  all_goals (refine WL.step (ok_assign rfl) rfl rfl rfl ?_)
  all_goals (refine WL.nil ?_)
  all_goals (repeat' (with_reducible first | refine thenP_n ?_ | refine blockP_n ?_))
  all_goals (refine WC.sub [(2, _), (8, _), (10, _)] ⟨rfl, rfl, rfl, trivial⟩ ?_)
  all_goals (refine WC.seq ?_)
  all_goals (refine WC.seq ?_)
  all_goals (refine WC.region ?_)
  all_goals (refine WL.step (ok_move rfl) rfl rfl rfl ?_)
  all_goals (first | (refine WL.step (OkP.bool_t (by omega) (ok_gtr rfl rfl)) rfl rfl rfl ?_) | (refine WL.step (OkP.bool_f (by omega) (ok_gtr rfl rfl)) rfl rfl rfl ?_) | (refine WL.step (ok_gtr rfl rfl) rfl rfl rfl ?_))
  all_goals (refine WL.nil ?_)
  all_goals (repeat' (with_reducible first | refine thenP_n ?_ | refine blockP_n ?_))
  all_goals (first | refine WC.condB_t 3 rfl ?_ | refine WC.condB_f 4 rfl ?_ | (refine WC.condB 3 4 rfl (fun hb => ?_) (fun hb => ?_) <;> (first | replace hb := of_decide_eq_true hb | replace hb := of_decide_eq_false hb | replace hb := of_decide_eq_false (nt hb) | replace hb := of_decide_eq_true (nf hb) | skip)))
  all_goals (first
    | (fail_if_success (refine Br.mk (i := 3) ?_))
    | (refine Br.mk (i := 3) ?_
       all_goals (refine WC.region ?_)
       all_goals (refine WL.step (ok_move rfl) rfl rfl rfl ?_)
       all_goals (refine WL.step (ok_move rfl) rfl rfl rfl ?_)
       all_goals (refine WL.step (ok_min2 rfl rfl) rfl rfl rfl ?_)
       all_goals (refine WL.step (ok_assign rfl) rfl rfl rfl ?_)
       all_goals (refine WL.nil ?_)
       skip))
  all_goals (first
    | (fail_if_success (refine Br.mk (i := 4) ?_))
    | (refine Br.mk (i := 4) ?_
       all_goals (refine WC.skip ?_)
       skip))
  all_goals (repeat' (with_reducible first | refine thenP_n ?_ | refine blockP_n ?_))
  all_goals (refine WC.seq ?_)
  all_goals (refine WC.region ?_)
  all_goals (refine WL.step (ok_move rfl) rfl rfl rfl ?_)
  all_goals (refine WL.step (ok_nilCheck rfl) rfl rfl rfl ?_)
  all_goals (refine WL.step (ok_fieldAddr rfl Try.underlying58 rfl (fun w => Try.sizeOf37 w)) rfl rfl rfl ?_)
  all_goals (refine WL.step (ok_load (fun w => Try.isAgg37 w) rfl (by first | assumption | exact cell_blk (by assumption) rfl)) rfl rfl rfl ?_)
  all_goals (refine WL.step (ok_move rfl) rfl rfl rfl ?_)
  all_goals (refine WL.step (ok_move rfl) rfl rfl rfl ?_)
  all_goals (first | (refine WL.step (ok_slice_hmN Try.underlying37 (fun w => Try.sizeOf36 w) rfl rfl rfl (by omega)) rfl rfl rfl ?_) | (refine WL.step (ok_slice_hm Try.underlying37 (fun w => Try.sizeOf36 w) rfl rfl rfl (by omega)) rfl rfl rfl ?_))
  all_goals (refine WL.step (ok_assign rfl) rfl rfl rfl ?_)
  all_goals (refine WL.nil ?_)
  all_goals (repeat' (with_reducible first | refine thenP_n ?_ | refine blockP_n ?_))
  all_goals (refine WC.sub [(8, _), (10, _), (11, _)] ⟨rfl, rfl, rfl, trivial⟩ ?_)
  all_goals (refine WC.seq ?_)
  all_goals (refine WC.region ?_)
  all_goals (refine WL.step (ok_move rfl) rfl rfl rfl ?_)
  all_goals (refine WL.step (ok_move rfl) rfl rfl rfl ?_)
  all_goals (refine WL.step (ok_nilCheck rfl) rfl rfl rfl ?_)
  all_goals (refine WL.step (ok_fieldAddr rfl Try.underlying58 rfl (fun w => Try.sizeOf37 w)) rfl rfl rfl ?_)
  all_goals (refine WL.step (ok_load (fun w => Try.isAgg37 w) rfl (by first | assumption | exact cell_blk (by assumption) rfl)) rfl rfl rfl ?_)
  all_goals (refine WL.step (ok_move rfl) rfl rfl rfl ?_)
  all_goals (first | (refine WL.step (ok_slice_lN Try.underlying37 (fun w => Try.sizeOf36 w) rfl rfl (by omega)) rfl rfl rfl ?_) | (refine WL.step (ok_slice_lS Try.underlying37 (fun w => Try.sizeOf36 w) rfl rfl (by omega)) rfl rfl rfl ?_) | (refine WL.step (ok_slice_l Try.underlying37 (fun w => Try.sizeOf36 w) rfl rfl (by omega)) rfl rfl rfl ?_))
  all_goals (refine WL.step (ok_nilCheck rfl) rfl rfl rfl ?_)
  all_goals (refine WL.step (ok_fieldAddr rfl Try.underlying58 rfl (fun w => Try.sizeOf37 w)) rfl rfl rfl ?_)
  all_goals (refine WL.stepR0 (okE_store (fun w => Try.sizeOf37 w) rfl rfl (by assumption) (Nat.le_of_ble_eq_true rfl) rfl rfl) rfl rfl ?_
             rintro _ h1 ⟨hb1, hx1⟩)
  all_goals (refine WL.nil ?_)
  all_goals (repeat' (with_reducible first | refine thenP_n ?_ | refine blockP_n ?_))
  all_goals (refine WC.sub [(8, _), (11, _)] ⟨rfl, rfl, trivial⟩ ?_)
  all_goals (refine WC.seq ?_)
  all_goals (refine WC.region ?_)
  all_goals (refine WL.step (ok_move rfl) rfl rfl rfl ?_)
  all_goals (refine WL.step (ok_move rfl) rfl rfl rfl ?_)
  all_goals (refine WL.step (ok_nilCheck rfl) rfl rfl rfl ?_)
  all_goals (refine WL.step (ok_fieldAddr rfl Try.underlying58 rfl (fun w => Try.sizeOf37 w)) rfl rfl rfl ?_)
  all_goals (refine WL.step (ok_load (fun w => Try.isAgg37 w) rfl (by first | assumption | exact cell_blk (by assumption) rfl)) rfl rfl rfl ?_)
  all_goals (refine WL.step (ok_lenL rfl Try.underlying37 rfl) rfl rfl rfl ?_)
  all_goals (first | (refine WL.step (OkP.bool_t (by omega) (ok_eql rfl rfl)) rfl rfl rfl ?_) | (refine WL.step (OkP.bool_f (by omega) (ok_eql rfl rfl)) rfl rfl rfl ?_) | (refine WL.step (ok_eql rfl rfl) rfl rfl rfl ?_))
  all_goals (refine WL.step (ok_nilCheck rfl) rfl rfl rfl ?_)
  all_goals (refine WL.step (ok_fieldAddr rfl Try.underlying58 rfl (fun w => Try.sizeOf4 w)) rfl rfl rfl ?_)
  all_goals (refine WL.stepR0 (okE_store (fun w => Try.sizeOf4 w) rfl rfl (by assumption) (Nat.le_of_ble_eq_true rfl) rfl rfl) rfl rfl ?_
             rintro _ h1 ⟨hb1, hx1⟩)
  all_goals (refine WL.nil ?_)
  all_goals (repeat' (with_reducible first | refine thenP_n ?_ | refine blockP_n ?_))
  all_goals (refine WC.sub [(8, _), (11, _)] ⟨rfl, rfl, trivial⟩ ?_)
  all_goals (refine WC.seq ?_)
  all_goals (refine WC.drawE fol (by kernel_rfl) ?_)
  all_goals (refine WQ.stepE (ok_move rfl) rfl rfl rfl ?_)
  all_goals (refine WQ.stepE (ok_move rfl) rfl rfl rfl ?_)
  all_goals (refine WQ.stepE (ok_nilCheck rfl) rfl rfl rfl ?_)
  all_goals (refine WQ.stepE (ok_fieldAddr rfl Try.underlying58 rfl (fun w => Try.sizeOf4 w)) rfl rfl rfl ?_)
  all_goals (refine WQ.stepE (ok_load (fun w => Try.isAgg4 w) rfl (by first | assumption | exact cell_blk (by assumption) rfl)) rfl rfl rfl ?_)
  all_goals (refine WQ.stepE (ok_not rfl) rfl rfl rfl ?_)
  all_goals (refine WQ.stepE (ok_assign rfl) rfl rfl rfl ?_)
  all_goals (refine WQ.stepE (ok_assign rfl) rfl rfl rfl ?_)
  all_goals (refine WQ.nil ?_)
  all_goals (repeat' (with_reducible first | refine thenP_n ?_ | refine blockP_n ?_))
  all_goals (refine WC.sub [(6, _), (7, _)] ⟨rfl, rfl, trivial⟩ ?_)
  all_goals (refine WC.ret ?_)
  all_goals (repeat' (with_reducible first | refine thenP_r ?_ | refine blockP_r ?_))
  all_goals (refine retP_2 _ _ ⟨rfl, rfl, trivial⟩ ?_)
  all_goals (exact ⟨rfl, rfl⟩)
/-- What a call may turn. -/
def M28 (m b2 : Nat) (v : Value) (L : List (List UInt8 × It28)) (k : Nat) : Prop := k = m ∨ k = b2 ∨ v.ownBlock = some k ∨ ∃ q ∈ L, k = q.2.p
section
variable {h0 h : Heap} {b m b2 : Nat} {v : Value} {L : List (List UInt8 × It28)}
theorem D28.not (d : D28 h0 h b m b2 v L) {g : Nat} {cs : List Value} (hg : h[g]? = some (.cells ⟨cs⟩ 115 (0, 0))) : ¬ M28 m b2 v L g := by
  have htt : ∀ {g' : Nat} {cs' : List Value} {T' : TypeId}, h[g']? = some (.cells ⟨cs'⟩ T' (0, 0)) → 115 ≠ T' → g ≠ g' := by
    rintro g' cs' T' hg' ht rfl
    rw [hg] at hg'
    simp only [Option.some.injEq, Obj.cells.injEq] at hg'
    exact ht hg'.2.1
  rintro (e | e | e | ⟨q, hq, e⟩)
  · obtain ⟨_, hm, _⟩ := d.map
    obtain ⟨_, _, e2, _⟩ := hm
    rw [← e, hg] at e2
    cases e2
  · exact htt d.x.blk (by decide) e
  · exact own_type d.x.own hg (by decide) e
  · exact htt (d.it q hq).1 (by decide) e
theorem D28.not58 (d : D28 h0 h b m b2 v L) {g : Nat} (h1 : h.size ≤ g) : ¬ M28 m b2 v L g := by
  rintro (e | e | e | ⟨q, hq, e⟩)
  · obtain ⟨_, hm, _⟩ := d.map
    have := hm.lt
    omega
  · have := lt_of_some d.x.blk; omega
  · have := d.x.own.lt e; omega
  · have := lt_of_some (d.it q hq).1; omega
theorem D28.pe (d : D28 h0 h b m b2 v L) {n : List UInt8} {it : It28} (hg : getL L n = some it) : ∃ E, E.Perm L ∧ Pe h b m (encE ptE E) it.p n it.d := by
  obtain ⟨E, hm, hE, hlk⟩ := d.look n
  rw [hg] at hlk
  have hin := getL_mem hg
  have hi := d.it _ hin
  exact ⟨E, hE, ⟨d.set, hm, hlk, hi.1, hi.2.1, fun k hk => (d.df _ hin k hk).2.2.2.2 _ hin⟩⟩
theorem setL_le28 {L : List (List UInt8 × It28)} (h : Rise L) (n : List UInt8) (i : It28) : (setL L n i).length ≤ L.length + 1 := by
  rw [setL_len h]
  split <;> omega
theorem put_both (d : D28 h0 h b m b2 v L) (n : List UInt8) (P : PD) (hP : P.ok h) (hPf : ∀ k, P.F k → k < h0.size) (hl : L.length ≤ 1000) :
    CallsH Try.prog 33 ⟨[.pointer (some ⟨b, 0, none⟩), St n, .agg ⟨P.cells⟩]⟩ h fun u h1 => ∃ r, u = In r ∧ Ext (M28 m b2 v L) h h1 ∧
      CallsH Try.prog 65 ⟨[.pointer (some ⟨b2, 0, none⟩), St n, .agg ⟨P.cells⟩]⟩ h1 fun u h2 => u = In r ∧ Ext (M28 m b2 v L) h1 h2 ∧ ∃ v' L', D28 h0 h2 b m b2 v' L' ∧ L'.length ≤ L.length + 1 := by
  obtain ⟨E, hm, hE, hlk⟩ := d.look n
  obtain ⟨s1, s2, s3, s4, s5, s6, s7⟩ := d.sep
  have hbl : h0.size ≤ h.size := d.ext.size
  have hm0 := d.lo.2.1
  by_cases hok : n = [] ∨ getL L n = none
  · have hn : n = [] ∨ alook (encE ptE E) n = none := hok.imp id fun e => by rw [hlk, e]; rfl
    refine calls_imp (put_e n P d.set hm hP hn) fun u h1 ⟨hu, p, d', hm1, hp1, ok1, pl1, hgp, hf1, x1⟩ => ⟨0, hu, x1.mono fun k _ e => .inl e, ?_⟩
    have x1s : Xs h0.size h1 b2 v L := d.x.ext x1 s2 (fun k hk e => s4 (e ▸ hk)) (fun k hk e => by omega)
    refine calls_imp (put28 x1s d.rise hl hok ⟨p, d', P⟩ (hP.ext x1 fun k hk e => by have := hPf k hk; omega) hPf) fun u h2 ⟨hu, v', r2, x2, hv⟩ => ⟨hu, x2.mono fun k _ e => .inr (.inl e), v', _, d.put hE hm1 hp1 ok1 pl1 hgp hf1 x1 r2 x2 hv, setL_le28 d.rise _ _⟩
  · have h1 : n ≠ [] := fun e => hok (.inl e)
    obtain ⟨it, hg⟩ : ∃ it, getL L n = some it := by
      rcases e : getL L n with _ | it
      · exact absurd (.inr e) hok
      · exact ⟨it, rfl⟩
    rw [hg] at hlk
    refine calls_imp (put_tw n P d.set hm hlk h1) fun u h1' ⟨hu, x1⟩ => ⟨8, hu, x1.mono fun _ _ e => e.elim, ?_⟩
    have d1 := d.stay x1 (fun _ _ => nos)
    exact calls_imp (put28_tw d1.x d1.rise hg hl h1 P) fun u h2 ⟨hu, x2⟩ => ⟨hu, x2.mono fun _ _ e => e.elim, v, L, d1.stay x2 (fun _ _ => nos), by omega⟩
set_option maxRecDepth 100000 in
theorem ran_both (d : D28 h0 h b m b2 v L) (n : List UInt8) {w : Value} (R : List Rw) (hR : Rws h w R) (hRF : ∀ k, RwsF w R k → k < h0.size) (hl : L.length ≤ 1000) :
    CallsH Try.prog 34 ⟨[.pointer (some ⟨b, 0, none⟩), St n, w]⟩ h fun u h1 => ∃ r, u = .bool r ∧ Ext (M28 m b2 v L) h h1 ∧
      CallsH Try.prog 66 ⟨[.pointer (some ⟨b2, 0, none⟩), St n, w]⟩ h1 fun u h2 => u = .bool r ∧ Ext (M28 m b2 v L) h1 h2 ∧ ∃ v' L', D28 h0 h2 b m b2 v' L' ∧ L'.length ≤ L.length + 1 := by
  obtain ⟨s1, s2, s3, s4, s5, s6, s7⟩ := d.sep
  rcases hg : getL L n with _ | it
  · obtain ⟨E, hm, hE, hlk⟩ := d.look n
    rw [hg] at hlk
    have key : CallsH Try.prog 34 ⟨[.pointer (some ⟨b, 0, none⟩), St n, w]⟩ h fun u h' => u = .bool false ∧ h' = h := by
      refine calls [(0, _), (1, _), (2, _)] Try.func34 rfl Try.ntmps34 rfl ⟨rfl, rfl, rfl, trivial⟩ ?_
      all_goals (refine WC.seq ?_)
      all_goals (refine WC.region ?_)
      all_goals (refine WL.step (ok_assign rfl) rfl rfl rfl ?_)
      all_goals (refine WL.nil ?_)
      all_goals (repeat' (with_reducible first | refine thenP_n ?_ | refine blockP_n ?_))
      all_goals (refine WC.seq ?_)
      all_goals (refine WC.region ?_)
      all_goals (refine WL.step (ok_move rfl) rfl rfl rfl ?_)
      all_goals (refine WL.step (ok_move rfl) rfl rfl rfl ?_)
      all_goals (refine WL.call (vs := [_, _]) rfl (fun a w => Try.call82 a w) rfl (of_none n d.set hm hlk) rfl rfl rfl ?_
                 rintro _ hz ⟨rfl, _⟩
                 subst hz)
      all_goals (refine WL.step (ok_move rfl) rfl rfl rfl ?_)
      all_goals (refine WL.step (ok_extract rfl rfl) rfl rfl rfl ?_)
      all_goals (refine WL.step (ok_extract rfl rfl) rfl rfl rfl ?_)
      all_goals (refine WL.step (ok_assign rfl) rfl rfl rfl ?_)
      all_goals (refine WL.step (ok_assign rfl) rfl rfl rfl ?_)
      all_goals (refine WL.nil ?_)
      all_goals (repeat' (with_reducible first | refine thenP_n ?_ | refine blockP_n ?_))
      all_goals (refine WC.sub [(2, _), (7, _), (8, _)] ⟨rfl, rfl, rfl, trivial⟩ ?_)
      all_goals (refine WC.seq ?_)
      all_goals (refine WC.seq ?_)
      all_goals (refine WC.region ?_)
      all_goals (refine WL.step (ok_move rfl) rfl rfl rfl ?_)
      all_goals (refine WL.step (ok_not rfl) rfl rfl rfl ?_)
      all_goals (refine WL.step (ok_move rfl) rfl rfl rfl ?_)
      all_goals (try ((fail_if_success (refine WL.part 17 (b := true) rfl (fun _ => ?_) (fun _ => ?_))); (fail_if_success (refine WL.part 17 (b := false) rfl (fun _ => ?_) (fun _ => ?_))); (refine WL.part 17 rfl (fun hb => ?_) (fun hb => ?_) <;> (first | replace hb := of_decide_eq_true hb | replace hb := of_decide_eq_false hb | replace hb := of_decide_eq_false (nt hb) | replace hb := of_decide_eq_true (nf hb) | skip))))
      all_goals (first | (refine WL.pass rfl rfl rfl ?_) | (refine WL.step (ok_move rfl) rfl rfl rfl ?_))
      all_goals (first | (refine WL.pass rfl rfl rfl ?_) | (refine WL.step (ok_nilCheck rfl) rfl rfl rfl ?_))
      all_goals (first | (refine WL.pass rfl rfl rfl ?_) | (refine WL.step (ok_fieldAddr rfl Try.underlying58 rfl (fun w => Try.sizeOf4 w)) rfl rfl rfl ?_))
      all_goals (first | (refine WL.pass rfl rfl rfl ?_) | (refine WL.step (ok_load (fun w => Try.isAgg4 w) rfl (by first | assumption | exact cell_blk (by assumption) rfl)) rfl rfl rfl ?_))
      all_goals (first | (refine WL.step (ok_pick_t rfl rfl) rfl rfl rfl ?_) | (refine WL.step (ok_pick_f rfl rfl) rfl rfl rfl ?_))
      all_goals (refine WL.nil ?_)
      all_goals (repeat' (with_reducible first | refine thenP_n ?_ | refine blockP_n ?_))
      all_goals (refine WC.sub [(2, _), (7, _), (22, _)] ⟨rfl, rfl, rfl, trivial⟩ ?_)
      all_goals (first | refine WC.condB_t 1 rfl ?_ | refine WC.condB_f 2 rfl ?_ | (refine WC.condB 1 2 rfl (fun hb => ?_) (fun hb => ?_) <;> (first | replace hb := of_decide_eq_true hb | replace hb := of_decide_eq_false hb | replace hb := of_decide_eq_false (nt hb) | replace hb := of_decide_eq_true (nf hb) | skip)))
      all_goals (first
        | (fail_if_success (refine Br.mk (i := 1) ?_))
        | (refine Br.mk (i := 1) ?_
           all_goals (refine WC.seq ?_)
           all_goals (refine WC.region ?_)
           all_goals (refine WL.step (ok_assign rfl) rfl rfl rfl ?_)
           all_goals (refine WL.nil ?_)
           all_goals (repeat' (with_reducible first | refine thenP_n ?_ | refine blockP_n ?_))
           all_goals (refine WC.ret ?_)
           all_goals (repeat' (with_reducible first | refine thenP_r ?_ | refine blockP_r ?_))
           all_goals (refine retP_1 _ ⟨rfl, trivial⟩ ?_)
           all_goals (exact ⟨rfl, rfl⟩)
           skip))
      all_goals (first
        | (fail_if_success (refine Br.mk (i := 2) ?_))
        | (refine Br.mk (i := 2) ?_
           all_goals (refine WC.skip ?_)
           skip))
      all_goals (repeat' (with_reducible first | refine thenP_n ?_ | refine blockP_n ?_))
      all_goals (refine WC.seq ?_)
      all_goals (refine WC.region ?_)
      all_goals (refine WL.step (ok_move rfl) rfl rfl rfl ?_)
      all_goals (refine WL.step (ok_move rfl) rfl rfl rfl ?_)
      all_goals (refine WL.step (ok_move rfl) rfl rfl rfl ?_)
      all_goals (fail "no contract for call of remuda/portal.table at 4.3")
      all_goals (refine WL.step (ok_nilCheck rfl) rfl rfl rfl ?_)
      all_goals (refine WL.step (ok_fieldAddr rfl Try.underlying58 rfl (fun w => Try.sizeOf4 w)) rfl rfl rfl ?_)
      all_goals (refine WL.stepR0 (okE_store (fun w => Try.sizeOf4 w) rfl rfl (by assumption) (Nat.le_of_ble_eq_true rfl) rfl rfl) rfl rfl ?_
                 rintro _ h1 ⟨hb1, hx1⟩)
      all_goals (refine WL.step (ok_nilCheck rfl) rfl rfl rfl ?_)
      all_goals (refine WL.step (ok_fieldAddr rfl Try.underlying58 rfl (fun w => Try.sizeOf37 w)) rfl rfl rfl ?_)
      all_goals (refine WL.stepR0 (okE_store (fun w => Try.sizeOf37 w) rfl rfl (by assumption) (Nat.le_of_ble_eq_true rfl) rfl rfl) rfl rfl ?_
                 rintro _ h1 ⟨hb1, hx1⟩)
      all_goals (refine WL.nil ?_)
      all_goals (repeat' (with_reducible first | refine thenP_n ?_ | refine blockP_n ?_))
      all_goals (refine WC.sub [] trivial ?_)
      all_goals (refine WC.seq ?_)
      all_goals (refine WC.region ?_)
      all_goals (refine WL.step (ok_assign rfl) rfl rfl rfl ?_)
      all_goals (refine WL.nil ?_)
      all_goals (repeat' (with_reducible first | refine thenP_n ?_ | refine blockP_n ?_))
      all_goals (refine WC.ret ?_)
      all_goals (repeat' (with_reducible first | refine thenP_r ?_ | refine blockP_r ?_))
      all_goals (refine retP_1 _ ⟨rfl, trivial⟩ ?_)
      all_goals (exact ⟨rfl, rfl⟩)
    refine calls_imp key fun u h1 ⟨hu, hh⟩ => ⟨false, hu, by rw [hh]; exact .refl _ _, ?_⟩
    rw [hh]
    exact calls_imp (ran28_no d.x hg hl) fun u h2 ⟨hu, hh2⟩ => ⟨hu, by rw [hh2]; exact .refl _ _, v, L, by rw [hh2]; exact d, by omega⟩
  · obtain ⟨E, hE, hpe⟩ := d.pe hg
    have hin := getL_mem hg
    have hi := d.it _ hin
    have hpl := hi.2.2
    have hran : it.d.ran = it.e.ran := by
      simp only [PD.pl, Prod.mk.injEq] at hpl
      exact hpl.2.2.2.2.1
    rcases hr : it.e.ran with _ | _
    · rw [hr] at hran
      refine calls_imp (ran_e hpe R hran hR) fun u h1 ⟨hu, v', L', hp1, hLp, hLf, x1⟩ => ⟨true, hu, x1.mono fun k _ e => .inr (.inr (.inr ⟨_, hin, e⟩)), ?_⟩
      have hip := s7 _ hin
      have hlo := d.lo.2.2 _ hin
      simp only at hip hlo
      have x1s : Xs h0.size h1 b2 v L := d.x.ext x1 (fun e => hip.2.2.1 e.symm) (fun k hk e => hip.2.2.2 (e ▸ hk)) (fun k hk e => by omega)
      refine calls_imp (ran28 x1s d.rise hg hl hr R (hR.ext x1 fun k hk e => by have := hRF k hk; omega) hRF { it.d with vr := v', rs := L', ran := true }) fun u h2 ⟨hu, r2, x2⟩ => ⟨hu, x2.mono fun k _ e => .inr (.inr (.inl e)), v, _, d.upd hg hp1.blk hp1.ok ?_ (fun k hk => ?_) x1 r2 x2, setL_le28 d.rise _ _⟩
      · simp only [PD.pl, Prod.mk.injEq] at hpl ⊢
        exact ⟨hpl.1, hpl.2.1, hpl.2.2.1, hLp, trivial, hpl.2.2.2.2.2⟩
      · rcases hk with hk | hk | hk
        · exact .inl (.inl hk)
        · exact .inl (.inr (.inl hk))
        · exact .inr (hLf k hk)
    · rw [hr] at hran
      refine calls_imp (ran_eno hpe hran) fun u h1 ⟨hu, hh⟩ => ⟨false, hu, by rw [hh]; exact .refl _ _, ?_⟩
      rw [hh]
      exact calls_imp (ran28_was d.x d.rise hg hl hr) fun u h2 ⟨hu, hh2⟩ => ⟨hu, by rw [hh2]; exact .refl _ _, v, L, by rw [hh2]; exact d, by omega⟩
theorem del_both (d : D28 h0 h b m b2 v L) (n : List UInt8) (hl : L.length ≤ 1000) :
    CallsH Try.prog 62 ⟨[.pointer (some ⟨b, 0, none⟩), St n]⟩ h fun u h1 => ∃ r, u = .bool r ∧ Ext (M28 m b2 v L) h h1 ∧
      CallsH Try.prog 68 ⟨[.pointer (some ⟨b2, 0, none⟩), St n]⟩ h1 fun u h2 => u = .bool r ∧ Ext (M28 m b2 v L) h1 h2 ∧ ∃ v' L', D28 h0 h2 b m b2 v' L' ∧ L'.length ≤ L.length + 1 := by
  obtain ⟨s1, s2, s3, s4, s5, s6, s7⟩ := d.sep
  have hm0 := d.lo.2.1
  rcases hg : getL L n with _ | it
  · obtain ⟨E, hm, hE, hlk⟩ := d.look n
    rw [hg] at hlk
    refine calls_imp (del_no n d.set hm hlk) fun u h1 ⟨hu, hh⟩ => ⟨false, hu, by rw [hh]; exact .refl _ _, ?_⟩
    rw [hh]
    exact calls_imp (del28_no d.x hg hl) fun u h2 ⟨hu, hh2⟩ => ⟨hu, by rw [hh2]; exact .refl _ _, v, L, by rw [hh2]; exact d, by omega⟩
  · obtain ⟨E, hE, hpe⟩ := d.pe hg
    refine calls_imp (del_e hpe) fun u h1 ⟨hu, hm1, x1⟩ => ⟨true, hu, x1.mono fun k _ e => .inl e, ?_⟩
    have x1s : Xs h0.size h1 b2 v L := d.x.ext x1 s2 (fun k hk e => s4 (e ▸ hk)) (fun k hk e => by omega)
    exact calls_imp (del28 x1s d.rise hg hl) fun u h2 ⟨hu, v', r2, x2, hv⟩ => ⟨hu, x2.mono fun k _ e => .inr (.inl e), v', _, d.del hE hm1 x1 r2 x2 hv, by have := delL_le L n; omega⟩
theorem get_both (d : D28 h0 h b m b2 v L) (n : List UInt8) (hl : L.length ≤ 1000) :
    CallsH Try.prog 60 ⟨[.pointer (some ⟨b, 0, none⟩), St n]⟩ h fun u h1 => ∃ (r : Bool) (a e : PD), u = .tuple ⟨[.agg ⟨a.cells⟩, .bool r]⟩ ∧ a.ok h1 ∧ e.ok h1 ∧ a.pl = e.pl ∧ Ext No h h1 ∧
      ∀ h2, Ext No h1 h2 → CallsH Try.prog 69 ⟨[.pointer (some ⟨b2, 0, none⟩), St n]⟩ h2 fun u h3 => u = .tuple ⟨[.agg ⟨e.cells⟩, .bool r]⟩ ∧ Ext No h2 h3 := by
  rcases hg : getL L n with _ | it
  · obtain ⟨E, hm, hE, hlk⟩ := d.look n
    rw [hg] at hlk
    refine calls_imp (get_no n d.set hm hlk) fun u h1 ⟨hu, x1⟩ => ⟨false, PD0, PD0, hu, pd0_ok _, pd0_ok _, rfl, x1, fun h2 x2 => ?_⟩
    exact get28_no ((d.x.ext0 x1).ext0 x2) hg hl
  · obtain ⟨E, hE, hpe⟩ := d.pe hg
    have hin := getL_mem hg
    have hi := d.it _ hin
    refine calls_imp (get_e hpe) fun u h1 ⟨⟨a, hu, ok1, pl1⟩, x1⟩ => ⟨true, a, it.e, hu, ok1, ((d.x.ext0 x1).ok _ hin), by rw [pl1]; exact hi.2.2, x1, fun h2 x2 => ?_⟩
    exact get28 ((d.x.ext0 x1).ext0 x2) d.rise hg hl
theorem rws_nil (h : Heap) : Rws h (.slice none 0 0) [] := ⟨Rd.nil _ _, ⟨by simp, _, _, rfl, by decide⟩, by simp⟩
set_option maxRecDepth 100000 in
theorem fetch_both (d : D28 h0 h b m b2 v L) (n : List UInt8) (most : Int) (hl : L.length ≤ 1000) :
    CallsH Try.prog 35 ⟨[.pointer (some ⟨b, 0, none⟩), St n, In most]⟩ h fun u h1 => ∃ (r : Bool) (va : Value) (R1 R2 : List Rw), u = .tuple ⟨[va, .bool r]⟩ ∧ R1.map Rw.pl = R2.map Rw.pl ∧ Ext (M28 m b2 v L) h h1 ∧
      CallsH Try.prog 67 ⟨[.pointer (some ⟨b2, 0, none⟩), St n, In most]⟩ h1 fun u h2 => ∃ vb, u = .tuple ⟨[vb, .bool r]⟩ ∧ Rws h2 va R1 ∧ Rws h2 vb R2 ∧ Ext (M28 m b2 v L) h1 h2 ∧ ∃ v' L', D28 h0 h2 b m b2 v' L' ∧ L'.length ≤ L.length + 1 := by
  obtain ⟨s1, s2, s3, s4, s5, s6, s7⟩ := d.sep
  rcases hg : getL L n with _ | it
  · obtain ⟨E, hm, hE, hlk⟩ := d.look n
    rw [hg] at hlk
    have key : CallsH Try.prog 35 ⟨[.pointer (some ⟨b, 0, none⟩), St n, In most]⟩ h fun u h' => u = .tuple ⟨[.slice none 0 0, .bool false]⟩ ∧ h' = h := by
      refine calls [(0, _), (1, _), (2, _)] Try.func35 rfl Try.ntmps35 rfl ⟨rfl, rfl, rfl, trivial⟩ ?_
      all_goals (refine WC.seq ?_)
      all_goals (refine WC.region ?_)
      all_goals (refine WL.step (ok_assign rfl) rfl rfl rfl ?_)
      all_goals (refine WL.step (ok_assign rfl) rfl rfl rfl ?_)
      all_goals (refine WL.nil ?_)
      all_goals (repeat' (with_reducible first | refine thenP_n ?_ | refine blockP_n ?_))
      all_goals (refine WC.seq ?_)
      all_goals (refine WC.region ?_)
      all_goals (refine WL.step (ok_move rfl) rfl rfl rfl ?_)
      all_goals (refine WL.step (ok_move rfl) rfl rfl rfl ?_)
      all_goals (refine WL.call (vs := [_, _]) rfl (fun a w => Try.call82 a w) rfl (of_none n d.set hm hlk) rfl rfl rfl ?_
                 rintro _ hz ⟨rfl, _⟩
                 subst hz)
      all_goals (refine WL.step (ok_move rfl) rfl rfl rfl ?_)
      all_goals (refine WL.step (ok_extract rfl rfl) rfl rfl rfl ?_)
      all_goals (refine WL.step (ok_extract rfl rfl) rfl rfl rfl ?_)
      all_goals (refine WL.step (ok_assign rfl) rfl rfl rfl ?_)
      all_goals (refine WL.step (ok_assign rfl) rfl rfl rfl ?_)
      all_goals (refine WL.nil ?_)
      all_goals (repeat' (with_reducible first | refine thenP_n ?_ | refine blockP_n ?_))
      all_goals (refine WC.sub [(2, _), (8, _), (9, _)] ⟨rfl, rfl, rfl, trivial⟩ ?_)
      all_goals (refine WC.seq ?_)
      all_goals (refine WC.seq ?_)
      all_goals (refine WC.region ?_)
      all_goals (refine WL.step (ok_move rfl) rfl rfl rfl ?_)
      all_goals (refine WL.step (ok_not rfl) rfl rfl rfl ?_)
      all_goals (refine WL.step (ok_move rfl) rfl rfl rfl ?_)
      all_goals (try ((fail_if_success (refine WL.part 20 (b := true) rfl (fun _ => ?_) (fun _ => ?_))); (fail_if_success (refine WL.part 20 (b := false) rfl (fun _ => ?_) (fun _ => ?_))); (refine WL.part 20 rfl (fun hb => ?_) (fun hb => ?_) <;> (first | replace hb := of_decide_eq_true hb | replace hb := of_decide_eq_false hb | replace hb := of_decide_eq_false (nt hb) | replace hb := of_decide_eq_true (nf hb) | skip))))
      all_goals (first | (refine WL.pass rfl rfl rfl ?_) | (refine WL.step (ok_move rfl) rfl rfl rfl ?_))
      all_goals (first | (refine WL.pass rfl rfl rfl ?_) | (refine WL.step (ok_nilCheck rfl) rfl rfl rfl ?_))
      all_goals (first | (refine WL.pass rfl rfl rfl ?_) | (refine WL.step (ok_fieldAddr rfl Try.underlying58 rfl (fun w => Try.sizeOf4 w)) rfl rfl rfl ?_))
      all_goals (first | (refine WL.pass rfl rfl rfl ?_) | (refine WL.step (ok_load (fun w => Try.isAgg4 w) rfl (by first | assumption | exact cell_blk (by assumption) rfl)) rfl rfl rfl ?_))
      all_goals (first | (refine WL.pass rfl rfl rfl ?_) | (refine WL.step (ok_not rfl) rfl rfl rfl ?_))
      all_goals (first | (refine WL.step (ok_pick_t rfl rfl) rfl rfl rfl ?_) | (refine WL.step (ok_pick_f rfl rfl) rfl rfl rfl ?_))
      all_goals (refine WL.step (ok_move rfl) rfl rfl rfl ?_)
      all_goals (try ((fail_if_success (refine WL.part 27 (b := true) rfl (fun _ => ?_) (fun _ => ?_))); (fail_if_success (refine WL.part 27 (b := false) rfl (fun _ => ?_) (fun _ => ?_))); (refine WL.part 27 rfl (fun hb => ?_) (fun hb => ?_) <;> (first | replace hb := of_decide_eq_true hb | replace hb := of_decide_eq_false hb | replace hb := of_decide_eq_false (nt hb) | replace hb := of_decide_eq_true (nf hb) | skip))))
      all_goals (first | (refine WL.pass rfl rfl rfl ?_) | (refine WL.step (ok_move rfl) rfl rfl rfl ?_))
      all_goals (first | (refine WL.pass rfl rfl rfl ?_) | (refine WL.step (ok_nilCheck rfl) rfl rfl rfl ?_))
      all_goals (first | (refine WL.pass rfl rfl rfl ?_) | (refine WL.step (ok_fieldAddr rfl Try.underlying58 rfl (fun w => Try.sizeOf4 w)) rfl rfl rfl ?_))
      all_goals (first | (refine WL.pass rfl rfl rfl ?_) | (refine WL.step (ok_load (fun w => Try.isAgg4 w) rfl (by first | assumption | exact cell_blk (by assumption) rfl)) rfl rfl rfl ?_))
      all_goals (first | (refine WL.step (ok_pick_t rfl rfl) rfl rfl rfl ?_) | (refine WL.step (ok_pick_f rfl rfl) rfl rfl rfl ?_))
      all_goals (refine WL.nil ?_)
      all_goals (repeat' (with_reducible first | refine thenP_n ?_ | refine blockP_n ?_))
      all_goals (refine WC.sub [(2, _), (8, _), (32, _)] ⟨rfl, rfl, rfl, trivial⟩ ?_)
      all_goals (first | refine WC.condB_t 1 rfl ?_ | refine WC.condB_f 2 rfl ?_ | (refine WC.condB 1 2 rfl (fun hb => ?_) (fun hb => ?_) <;> (first | replace hb := of_decide_eq_true hb | replace hb := of_decide_eq_false hb | replace hb := of_decide_eq_false (nt hb) | replace hb := of_decide_eq_true (nf hb) | skip)))
      all_goals (first
        | (fail_if_success (refine Br.mk (i := 1) ?_))
        | (refine Br.mk (i := 1) ?_
           all_goals (refine WC.seq ?_)
           all_goals (refine WC.region ?_)
           all_goals (refine WL.step (ok_assign rfl) rfl rfl rfl ?_)
           all_goals (refine WL.step (ok_assign rfl) rfl rfl rfl ?_)
           all_goals (refine WL.nil ?_)
           all_goals (repeat' (with_reducible first | refine thenP_n ?_ | refine blockP_n ?_))
           all_goals (refine WC.ret ?_)
           all_goals (repeat' (with_reducible first | refine thenP_r ?_ | refine blockP_r ?_))
           all_goals (refine retP_2 _ _ ⟨rfl, rfl, trivial⟩ ?_)
           all_goals (exact ⟨rfl, rfl⟩)
           skip))
      all_goals (first
        | (fail_if_success (refine Br.mk (i := 2) ?_))
        | (refine Br.mk (i := 2) ?_
           all_goals (refine WC.skip ?_)
           skip))
      all_goals (repeat' (with_reducible first | refine thenP_n ?_ | refine blockP_n ?_))
      all_goals (refine WC.seq ?_)
      all_goals (refine WC.region ?_)
      all_goals (refine WL.step (ok_move rfl) rfl rfl rfl ?_)
      all_goals (refine WL.step (ok_nilCheck rfl) rfl rfl rfl ?_)
      all_goals (refine WL.step (ok_fieldAddr rfl Try.underlying58 rfl (fun w => Try.sizeOf37 w)) rfl rfl rfl ?_)
      all_goals (refine WL.step (ok_load (fun w => Try.isAgg37 w) rfl (by first | assumption | exact cell_blk (by assumption) rfl)) rfl rfl rfl ?_)
      all_goals (refine WL.step (ok_lenL rfl Try.underlying37 rfl) rfl rfl rfl ?_)
      all_goals (refine WL.step (ok_assign rfl) rfl rfl rfl ?_)
      all_goals (refine WL.nil ?_)
      all_goals (repeat' (with_reducible first | refine thenP_n ?_ | refine blockP_n ?_))
      all_goals (refine WC.sub [(2, _), (8, _), (10, _)] ⟨rfl, rfl, rfl, trivial⟩ ?_)
      all_goals (refine WC.seq ?_)
      all_goals (refine WC.seq ?_)
      all_goals (refine WC.region ?_)
      all_goals (refine WL.step (ok_move rfl) rfl rfl rfl ?_)
      all_goals (first | (refine WL.step (OkP.bool_t (by omega) (ok_gtr rfl rfl)) rfl rfl rfl ?_) | (refine WL.step (OkP.bool_f (by omega) (ok_gtr rfl rfl)) rfl rfl rfl ?_) | (refine WL.step (ok_gtr rfl rfl) rfl rfl rfl ?_))
      all_goals (refine WL.nil ?_)
      all_goals (repeat' (with_reducible first | refine thenP_n ?_ | refine blockP_n ?_))
      all_goals (first | refine WC.condB_t 3 rfl ?_ | refine WC.condB_f 4 rfl ?_ | (refine WC.condB 3 4 rfl (fun hb => ?_) (fun hb => ?_) <;> (first | replace hb := of_decide_eq_true hb | replace hb := of_decide_eq_false hb | replace hb := of_decide_eq_false (nt hb) | replace hb := of_decide_eq_true (nf hb) | skip)))
      all_goals (first
        | (fail_if_success (refine Br.mk (i := 3) ?_))
        | (refine Br.mk (i := 3) ?_
           all_goals (refine WC.region ?_)
           all_goals (refine WL.step (ok_move rfl) rfl rfl rfl ?_)
           all_goals (refine WL.step (ok_move rfl) rfl rfl rfl ?_)
           all_goals (refine WL.step (ok_min2 rfl rfl) rfl rfl rfl ?_)
           all_goals (refine WL.step (ok_assign rfl) rfl rfl rfl ?_)
           all_goals (refine WL.nil ?_)
           skip))
      all_goals (first
        | (fail_if_success (refine Br.mk (i := 4) ?_))
        | (refine Br.mk (i := 4) ?_
           all_goals (refine WC.skip ?_)
           skip))
      all_goals (repeat' (with_reducible first | refine thenP_n ?_ | refine blockP_n ?_))
      all_goals (refine WC.seq ?_)
      all_goals (refine WC.region ?_)
      all_goals (refine WL.step (ok_move rfl) rfl rfl rfl ?_)
      all_goals (refine WL.step (ok_nilCheck rfl) rfl rfl rfl ?_)
      all_goals (refine WL.step (ok_fieldAddr rfl Try.underlying58 rfl (fun w => Try.sizeOf37 w)) rfl rfl rfl ?_)
      all_goals (refine WL.step (ok_load (fun w => Try.isAgg37 w) rfl (by first | assumption | exact cell_blk (by assumption) rfl)) rfl rfl rfl ?_)
      all_goals (refine WL.step (ok_move rfl) rfl rfl rfl ?_)
      all_goals (refine WL.step (ok_move rfl) rfl rfl rfl ?_)
      all_goals (first | (refine WL.step (ok_slice_hmN Try.underlying37 (fun w => Try.sizeOf36 w) rfl rfl rfl (by omega)) rfl rfl rfl ?_) | (refine WL.step (ok_slice_hm Try.underlying37 (fun w => Try.sizeOf36 w) rfl rfl rfl (by omega)) rfl rfl rfl ?_))
      all_goals (refine WL.step (ok_assign rfl) rfl rfl rfl ?_)
      all_goals (refine WL.nil ?_)
      all_goals (repeat' (with_reducible first | refine thenP_n ?_ | refine blockP_n ?_))
      all_goals (refine WC.sub [(8, _), (10, _), (11, _)] ⟨rfl, rfl, rfl, trivial⟩ ?_)
      all_goals (refine WC.seq ?_)
      all_goals (refine WC.region ?_)
      all_goals (refine WL.step (ok_move rfl) rfl rfl rfl ?_)
      all_goals (refine WL.step (ok_move rfl) rfl rfl rfl ?_)
      all_goals (refine WL.step (ok_nilCheck rfl) rfl rfl rfl ?_)
      all_goals (refine WL.step (ok_fieldAddr rfl Try.underlying58 rfl (fun w => Try.sizeOf37 w)) rfl rfl rfl ?_)
      all_goals (refine WL.step (ok_load (fun w => Try.isAgg37 w) rfl (by first | assumption | exact cell_blk (by assumption) rfl)) rfl rfl rfl ?_)
      all_goals (refine WL.step (ok_move rfl) rfl rfl rfl ?_)
      all_goals (first | (refine WL.step (ok_slice_lN Try.underlying37 (fun w => Try.sizeOf36 w) rfl rfl (by omega)) rfl rfl rfl ?_) | (refine WL.step (ok_slice_lS Try.underlying37 (fun w => Try.sizeOf36 w) rfl rfl (by omega)) rfl rfl rfl ?_) | (refine WL.step (ok_slice_l Try.underlying37 (fun w => Try.sizeOf36 w) rfl rfl (by omega)) rfl rfl rfl ?_))
      all_goals (refine WL.step (ok_nilCheck rfl) rfl rfl rfl ?_)
      all_goals (refine WL.step (ok_fieldAddr rfl Try.underlying58 rfl (fun w => Try.sizeOf37 w)) rfl rfl rfl ?_)
      all_goals (refine WL.stepR0 (okE_store (fun w => Try.sizeOf37 w) rfl rfl (by assumption) (Nat.le_of_ble_eq_true rfl) rfl rfl) rfl rfl ?_
                 rintro _ h1 ⟨hb1, hx1⟩)
      all_goals (refine WL.nil ?_)
      all_goals (repeat' (with_reducible first | refine thenP_n ?_ | refine blockP_n ?_))
      all_goals (refine WC.sub [(8, _), (11, _)] ⟨rfl, rfl, trivial⟩ ?_)
      all_goals (refine WC.seq ?_)
      all_goals (refine WC.region ?_)
      all_goals (refine WL.step (ok_move rfl) rfl rfl rfl ?_)
      all_goals (refine WL.step (ok_move rfl) rfl rfl rfl ?_)
      all_goals (refine WL.step (ok_nilCheck rfl) rfl rfl rfl ?_)
      all_goals (refine WL.step (ok_fieldAddr rfl Try.underlying58 rfl (fun w => Try.sizeOf37 w)) rfl rfl rfl ?_)
      all_goals (refine WL.step (ok_load (fun w => Try.isAgg37 w) rfl (by first | assumption | exact cell_blk (by assumption) rfl)) rfl rfl rfl ?_)
      all_goals (refine WL.step (ok_lenL rfl Try.underlying37 rfl) rfl rfl rfl ?_)
      all_goals (first | (refine WL.step (OkP.bool_t (by omega) (ok_eql rfl rfl)) rfl rfl rfl ?_) | (refine WL.step (OkP.bool_f (by omega) (ok_eql rfl rfl)) rfl rfl rfl ?_) | (refine WL.step (ok_eql rfl rfl) rfl rfl rfl ?_))
      all_goals (refine WL.step (ok_nilCheck rfl) rfl rfl rfl ?_)
      all_goals (refine WL.step (ok_fieldAddr rfl Try.underlying58 rfl (fun w => Try.sizeOf4 w)) rfl rfl rfl ?_)
      all_goals (refine WL.stepR0 (okE_store (fun w => Try.sizeOf4 w) rfl rfl (by assumption) (Nat.le_of_ble_eq_true rfl) rfl rfl) rfl rfl ?_
                 rintro _ h1 ⟨hb1, hx1⟩)
      all_goals (refine WL.nil ?_)
      all_goals (repeat' (with_reducible first | refine thenP_n ?_ | refine blockP_n ?_))
      all_goals (refine WC.sub [(8, _), (11, _)] ⟨rfl, rfl, trivial⟩ ?_)
      all_goals (refine WC.seq ?_)
      all_goals (refine WC.drawE fol (by kernel_rfl) ?_)
      all_goals (refine WQ.stepE (ok_move rfl) rfl rfl rfl ?_)
      all_goals (refine WQ.stepE (ok_move rfl) rfl rfl rfl ?_)
      all_goals (refine WQ.stepE (ok_nilCheck rfl) rfl rfl rfl ?_)
      all_goals (refine WQ.stepE (ok_fieldAddr rfl Try.underlying58 rfl (fun w => Try.sizeOf4 w)) rfl rfl rfl ?_)
      all_goals (refine WQ.stepE (ok_load (fun w => Try.isAgg4 w) rfl (by first | assumption | exact cell_blk (by assumption) rfl)) rfl rfl rfl ?_)
      all_goals (refine WQ.stepE (ok_not rfl) rfl rfl rfl ?_)
      all_goals (refine WQ.stepE (ok_assign rfl) rfl rfl rfl ?_)
      all_goals (refine WQ.stepE (ok_assign rfl) rfl rfl rfl ?_)
      all_goals (refine WQ.nil ?_)
      all_goals (repeat' (with_reducible first | refine thenP_n ?_ | refine blockP_n ?_))
      all_goals (refine WC.sub [(6, _), (7, _)] ⟨rfl, rfl, trivial⟩ ?_)
      all_goals (refine WC.ret ?_)
      all_goals (repeat' (with_reducible first | refine thenP_r ?_ | refine blockP_r ?_))
      all_goals (refine retP_2 _ _ ⟨rfl, rfl, trivial⟩ ?_)
      all_goals (exact ⟨rfl, rfl⟩)
    refine calls_imp key fun u h1 ⟨hu, hh⟩ => ⟨false, _, [], [], hu, rfl, by rw [hh]; exact .refl _ _, ?_⟩
    rw [hh]
    exact calls_imp (fetch28_no d.x hg hl most) fun u h2 ⟨hu, hh2⟩ => ⟨_, hu, rws_nil _, rws_nil _, by rw [hh2]; exact .refl _ _, v, L, by rw [hh2]; exact d, by omega⟩
  · obtain ⟨E, hE, hpe⟩ := d.pe hg
    have hin := getL_mem hg
    have hi := d.it _ hin
    have hpl := hi.2.2
    have hran : it.d.ran = it.e.ran ∧ it.d.over = it.e.over ∧ it.d.rs.map Rw.pl = it.e.rs.map Rw.pl := by
      simp only [PD.pl, Prod.mk.injEq] at hpl
      exact ⟨hpl.2.2.2.2.1, hpl.2.2.2.2.2, hpl.2.2.2.1⟩
    obtain ⟨hran, hover, hrows⟩ := hran
    have hlen : it.d.rs.length = it.e.rs.length := by simpa using congrArg List.length hrows
    by_cases hon : it.e.ran = true ∧ it.e.over = false
    · obtain ⟨hr, ho⟩ := hon
      rw [hr] at hran
      rw [ho] at hover
      have hip := s7 _ hin
      have hlo := d.lo.2.2 _ hin
      have hdf := d.df _ hin
      simp only at hip hlo hdf
      have hbool : ∀ k : Nat, (!decide ((k : Int) = 0)) = decide (0 < (k : Int)) := fun k => by
        by_cases e : (k : Int) = 0
        · rw [decide_eq_true e, decide_eq_false (by omega)]; rfl
        · rw [decide_eq_false e, decide_eq_true (by omega)]; rfl
      have fin : ∀ (nn : Nat) (u : Value) (h1 : Heap), nn ≤ it.e.rs.length → ((1 ≤ most ∧ (if (it.e.rs.length : Int) < most then (it.e.rs.length : Int) else most) = (nn : Int)) ∨ (¬ 1 ≤ most ∧ nn = it.e.rs.length)) →
          (∃ vo vr', u = .tuple ⟨[vo, .bool (!decide (((it.d.rs.length - nn : Nat) : Int) = 0))]⟩ ∧ Rws h1 vo (it.d.rs.take nn) ∧ Pe h1 b m (encE ptE E) it.p n { it.d with vr := vr', rs := it.d.rs.drop nn, over := decide (((it.d.rs.length - nn : Nat) : Int) = 0) } ∧ (∀ k, RwsF vo (it.d.rs.take nn) k → RwsF it.d.vr it.d.rs k) ∧ (∀ k, RwsF vr' (it.d.rs.drop nn) k → RwsF it.d.vr it.d.rs k) ∧ Ext (fun k => k = it.p) h h1) →
          ∃ (r : Bool) (va : Value) (R1 R2 : List Rw), u = .tuple ⟨[va, .bool r]⟩ ∧ R1.map Rw.pl = R2.map Rw.pl ∧ Ext (M28 m b2 v L) h h1 ∧
            CallsH Try.prog 67 ⟨[.pointer (some ⟨b2, 0, none⟩), St n, In most]⟩ h1 fun u h2 => ∃ vb, u = .tuple ⟨[vb, .bool r]⟩ ∧ Rws h2 va R1 ∧ Rws h2 vb R2 ∧ Ext (M28 m b2 v L) h1 h2 ∧ ∃ v' L', D28 h0 h2 b m b2 v' L' ∧ L'.length ≤ L.length + 1 := by
        rintro nn u h1 hle hnn ⟨vo, vr', hu, hRo, hp1, hfo, hfr, x1⟩
        refine ⟨_, vo, it.d.rs.take nn, it.e.rs.take nn, hu, by rw [List.map_take, List.map_take, hrows], x1.mono fun k _ e => .inr (.inr (.inr ⟨_, hin, e⟩)), ?_⟩
        have x1s : Xs h0.size h1 b2 v L := d.x.ext x1 (fun e => hip.2.2.1 e.symm) (fun k hk e => hip.2.2.2 (e ▸ hk)) (fun k hk e => by omega)
        refine calls_imp (fetch28 x1s d.rise hg hl hr ho most nn hnn hle { it.d with vr := vr', rs := it.d.rs.drop nn, over := decide (((it.d.rs.length - nn : Nat) : Int) = 0) }) fun u h2 ⟨vb, vr2, hu, hRb, r2, x2⟩ => ⟨vb, by rw [hbool, hlen]; exact hu, hRo.ext x2 (fun k hk e => (hdf k (.inr (.inr (hfo k hk)))).2.2.2.1 e), hRb, x2.mono fun k _ e => .inr (.inr (.inl e)), v, _, d.upd hg hp1.blk hp1.ok ?_ (fun k hk => ?_) x1 r2 x2, setL_le28 d.rise _ _⟩
        · simp only [PD.pl, Prod.mk.injEq] at hpl ⊢
          exact ⟨hpl.1, hpl.2.1, hpl.2.2.1, by rw [List.map_drop, List.map_drop, hrows], hpl.2.2.2.2.1, by rw [hlen]⟩
        · rcases hk with hk | hk | hk
          · exact .inl (.inl hk)
          · exact .inl (.inr (.inl hk))
          · exact .inl (.inr (.inr (hfr k hk)))
      by_cases hmo : 1 ≤ most
      · obtain ⟨nn, hnn⟩ : ∃ nn : Nat, min (it.d.rs.length : Int) most = (nn : Int) := ⟨(min (it.d.rs.length : Int) most).toNat, by omega⟩
        exact calls_imp (fetch_someE (n := nn) hpe most (by omega) hnn hran hover) fun u h1 hR => fin nn u h1 (by omega) (.inl ⟨hmo, by split <;> omega⟩) hR
      · exact calls_imp (fetch_allE hpe most (by omega) hran hover) fun u h1 hR => fin it.d.rs.length u h1 (by omega) (.inr ⟨hmo, hlen⟩) hR
    · have hcs : it.e.ran = false ∨ (it.e.ran = true ∧ it.e.over = true) := by
        rcases hr : it.e.ran with _ | _
        · exact .inl rfl
        · refine .inr ⟨rfl, ?_⟩
          rcases ho : it.e.over with _ | _
          · exact absurd ⟨hr, ho⟩ hon
          · rfl
      have key : CallsH Try.prog 35 ⟨[.pointer (some ⟨b, 0, none⟩), St n, In most]⟩ h fun u h' => u = .tuple ⟨[.slice none 0 0, .bool false]⟩ ∧ h' = h := by
        rcases hcs with hr | ⟨hr, ho⟩
        · exact fetch_offE hpe most (by rw [hran, hr])
        · exact fetch_overE hpe most (by rw [hran, hr]) (by rw [hover, ho])
      refine calls_imp key fun u h1 ⟨hu, hh⟩ => ⟨false, _, [], [], hu, rfl, by rw [hh]; exact .refl _ _, ?_⟩
      rw [hh]
      exact calls_imp (fetch28_off d.x d.rise hg hl hcs most) fun u h2 ⟨hu, hh2⟩ => ⟨_, hu, rws_nil _, rws_nil _, by rw [hh2]; exact .refl _ _, v, L, by rw [hh2]; exact d, by omega⟩
end
end Go.Proofs.Ytgfbilmlgibbfaa

