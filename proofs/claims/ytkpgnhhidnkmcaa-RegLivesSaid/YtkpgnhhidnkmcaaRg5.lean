/-
  REGISTRY (layer 14): the law's calls, as they come in; any call at the code's registry.
-/
import Derived.Test.YtkpgnhhidnkmcaaR14
namespace Go.Proofs.Ytkpgnhhidnkmcaa
open Go Go.RK

abbrev Do14 := Int × Int × Stm
def d14C (d : Do14) : List Value := [In d.1, In d.2.1, St d.2.2.1, d.2.2.2.1]
theorem d14C_len (d : Do14) : (d14C d).length = 4 := rfl
theorem opens_do14 (w : World) : Opens Try.prog w 59 d14C (fun d => stOk w.heap d.2.2) := by
  have h1 := opensF_cons (P := Try.prog) (w := w) (o := 2) (sz := 2) (f := ⟨ "Stmt", 57, 2, false, "", "", 16⟩) rfl (opens_stm w) (by kernel_rfl) (fun _ => rfl) opensF_nil
  have h2 := opensF_cons (P := Try.prog) (w := w) (o := 1) (f := ⟨ "ID", 3, 1, false, "", "", 8⟩) rfl (opens_int Try.underlying3) (by kernel_rfl) (fun _ => rfl) h1
  have h3 := opensF_cons (P := Try.prog) (w := w) (o := 0) (f := ⟨ "Op", 3, 0, false, "", "", 0⟩) rfl (opens_int Try.underlying3) (by kernel_rfl) (fun _ => rfl) h2
  exact (opens_struct Try.underlying59 (by kernel_rfl) h3).map (fun p => ((p.1, p.2.1, p.2.2.1) : Do14)) (fun _ => rfl) (fun p q => q.2.2.1)
theorem opens_dos14 (w : World) : Opens Try.prog w 47 (fun p : Value × List Do14 => [p.1]) (fun p => Rd w.heap p.1 4 p.2.length (p.2.flatMap d14C) ∧ p.2.length ≤ maxLen ∧ ∀ d ∈ p.2, stOk w.heap d.2.2) :=
  (opens_slice Try.underlying47 (by kernel_rfl) (by decide) d14C_len (opens_do14 w)).map id (fun _ => rfl) fun p q => ⟨q.1, q.2.1, q.2.2.2.1⟩
set_option maxRecDepth 100000 in
theorem few14 {h : Heap} {v : Value} (l : List Do14) (hr : Rd h v 4 l.length (l.flatMap d14C)) (hl : l.length ≤ maxLen) (ok : ∀ d ∈ l, stOk h d.2.2) :
    CallsH Try.prog 21 ⟨[v]⟩ h fun u h' => (∃ b, u = .bool b ∧ (b = true → l.length ≤ 60 ∧ ∀ d ∈ l, d.2.2.1.length ≤ 300 ∧ d.2.2.2.2.length ≤ 20)) ∧ Ext No h h' := by
  obtain ⟨A, c, rfl, _⟩ := id hr
  unfold maxLen at hl
  refine calls [(0, _)] Try.func21 rfl Try.ntmps21 rfl ⟨rfl, trivial⟩ ?_
  all_goals (refine WC.seq ?_)
  all_goals (refine WC.region ?_)
  all_goals (refine WL.step (ok_assign rfl) rfl rfl rfl ?_)
  all_goals (refine WL.nil ?_)
  all_goals (repeat' (with_reducible first | refine thenP_n ?_ | refine blockP_n ?_))
  all_goals (refine WC.seq ?_)
  all_goals (refine WC.seq ?_)
  all_goals (refine WC.region ?_)
  all_goals (refine WL.step (ok_move rfl) rfl rfl rfl ?_)
  all_goals (refine WL.step (ok_lenL rfl Try.underlying47 rfl) rfl rfl rfl ?_)
  all_goals (refine WL.step (ok_move rfl) rfl rfl rfl ?_)
  all_goals (refine WL.nil ?_)
  all_goals (repeat' (with_reducible first | refine thenP_n ?_ | refine blockP_n ?_))
  all_goals (refine WC.block ?_)
  -- loop 0: slots that turn [7], that stay [5, 6]
  all_goals (refine WC.loopG (X := Nat) (fun x => ([(7, In (x : Int))] : Fr)) [(5, _), (6, _)] (fun k h' => Ext No h h' ∧ k ≤ l.length ∧ k ≤ 60 ∧ ∀ d ∈ l.take k, d.2.2.1.length ≤ 300 ∧ d.2.2.2.2.length ≤ 20) (fun k => l.length - k) (0) ⟨rfl, rfl, rfl, trivial⟩ (by exact ⟨.refl _ _, Nat.zero_le _, Nat.zero_le _, by simp⟩) ?_)
  all_goals (rintro k h1 ⟨hx1, hk, hk60, hn⟩)
  all_goals (refine WC.sub [(7, _), (5, _), (6, _)] ⟨rfl, rfl, rfl, trivial⟩ ?_)
  all_goals (refine WC.seq ?_)
  all_goals (refine WC.region ?_)
  all_goals (first | (refine WL.step (OkP.bool_t (by omega) (ok_lss rfl rfl)) rfl rfl rfl ?_) | (refine WL.step (OkP.bool_f (by omega) (ok_lss rfl rfl)) rfl rfl rfl ?_) | (refine WL.step (ok_lss rfl rfl) rfl rfl rfl ?_))
  all_goals (refine WL.nil ?_)
  all_goals (repeat' (with_reducible first | refine thenP_n ?_ | refine blockP_n ?_))
  all_goals (refine WC.seq ?_)
  all_goals (first | refine WC.condB_t 1 rfl ?_ | refine WC.condB_f 2 rfl ?_ | (refine WC.condB 1 2 rfl (fun hb => ?_) (fun hb => ?_) <;> (first | replace hb := of_decide_eq_true hb | replace hb := of_decide_eq_false hb | replace hb := of_decide_eq_false (nt hb) | replace hb := of_decide_eq_true (nf hb) | skip)))
  all_goals (first
    | (fail_if_success (refine Br.mk (i := 1) ?_))
    | (refine Br.mk (i := 1) ?_
       all_goals (refine WC.skip ?_)
       skip))
  all_goals (first
    | (fail_if_success (refine Br.mk (i := 2) ?_))
    | (refine Br.mk (i := 2) ?_
       all_goals (refine WC.exit ?_)
       all_goals (repeat' (with_reducible first | refine thenP_x ?_ | refine blockP_miss rfl ?_ | refine blockP_hit ?_ | refine blockP_n ?_ | refine thenP_n ?_))
       all_goals (refine Br.out (i := 1000) ?_)
       skip))
  all_goals (first | (refine Br.keep ?_) | (repeat' (with_reducible first | refine thenP_n ?_ | refine blockP_n ?_)))
  all_goals (first | (refine Br.keep ?_) | (refine WC.seq ?_))
  all_goals (first | (refine Br.keep ?_) | (refine WC.block ?_))
  all_goals (first | (refine Br.keep ?_) | (refine WC.seq ?_))
  all_goals (first | (refine Br.keep ?_) | (refine WC.region ?_))
  all_goals (first | (refine Br.keep ?_) | (refine WL.step (ok_move rfl) rfl rfl rfl ?_))
  all_goals (first
               | (refine Br.keep ?_)
               | (obtain ⟨bL, oL, hA, hbL, hat⟩ := Rd.at_ hr (by omega)
                  obtain ⟨⟨op, id, t, v, o⟩, hdk⟩ : ∃ d, l[k]? = some d := ⟨_, List.getElem?_eq_getElem (by omega)⟩
                  have hd : At h1 bL (oL + k * 4) [In op, In id, St t, v] := At.elem d14C_len (hat.ext hx1 nos) hdk
                  have okd := ok _ (List.mem_of_getElem? hdk)
                  dsimp only at okd
                  have okr := okd.1
                  obtain ⟨Av, cv, hv, _⟩ := okr
                  dsimp only at hv
                  subst hv))
  all_goals (first | (refine Br.keep ?_) | (refine WL.step (ok_idxAddrA Try.underlying47 (fun w => Try.sizeOf59 w) rfl rfl rfl (by omega) (by first | rfl | assumption)) rfl rfl rfl ?_))
  all_goals (first | (refine Br.keep ?_) | (refine WL.step (ok_loadN (fun w => Try.isAgg59 w) (fun w => Try.sizeOf59 w) rfl rfl (by assumption)) rfl rfl rfl ?_))
  all_goals (first
               | (refine Br.keep ?_)
               | (refine WL.stepR (okE_alloc (fun w => Try.zeroValue59 w)) rfl rfl rfl ?_
                  rintro _ h2 ⟨b2, rfl, hg2, hb2, hx2⟩))
  all_goals (first | (refine Br.keep ?_) | (refine WL.step (ok_assign rfl) rfl rfl rfl ?_))
  all_goals (first
               | (refine Br.keep ?_)
               | (refine WL.stepR0 (okE_storeW (fun w => Try.sizeOf59 w) rfl rfl rfl (by assumption) rfl (by simp [Value.oneCell'])) rfl rfl ?_
                  rintro _ h3 ⟨hb3, hx3⟩))
  all_goals (first | (refine Br.keep ?_) | (have hX3 := (hx1.trans hx2).trans' hx3 (fun q hq e => by have := hx1.size; omega)))
  all_goals (first | (refine Br.keep ?_) | (refine WL.nil ?_))
  all_goals (first | (refine Br.keep ?_) | (repeat' (with_reducible first | refine thenP_n ?_ | refine blockP_n ?_)))
  all_goals (first | (refine Br.keep ?_) | (refine WC.sub [(3, _), (4, _), (5, _), (6, _), (7, _)] ⟨rfl, rfl, rfl, rfl, rfl, trivial⟩ ?_))
  all_goals (first | (refine Br.keep ?_) | (refine WC.seq ?_))
  all_goals (first | (refine Br.keep ?_) | (refine WC.region ?_))
  all_goals (first | (refine Br.keep ?_) | (refine WL.step (ok_move rfl) rfl rfl rfl ?_))
  all_goals (first | (refine Br.keep ?_) | (first | (refine WL.step (OkP.bool_t (by omega) (ok_geq rfl rfl)) rfl rfl rfl ?_) | (refine WL.step (OkP.bool_f (by omega) (ok_geq rfl rfl)) rfl rfl rfl ?_) | (refine WL.step (ok_geq rfl rfl) rfl rfl rfl ?_)))
  all_goals (first | (refine Br.keep ?_) | (refine WL.step (ok_move rfl) rfl rfl rfl ?_))
  all_goals (first | (refine Br.keep ?_) | (try ((fail_if_success (refine WL.part 14 (b := true) rfl (fun _ => ?_) (fun _ => ?_))); (fail_if_success (refine WL.part 14 (b := false) rfl (fun _ => ?_) (fun _ => ?_))); (refine WL.part 14 rfl (fun hb => ?_) (fun hb => ?_) <;> (first | replace hb := of_decide_eq_true hb | replace hb := of_decide_eq_false hb | replace hb := of_decide_eq_false (nt hb) | replace hb := of_decide_eq_true (nf hb) | skip)))))
  all_goals (first | (refine Br.keep ?_) | (first | (refine WL.pass rfl rfl rfl ?_) | (refine WL.step (ok_fieldAddr rfl Try.underlying59 rfl (fun w => Try.sizeOf57 w)) rfl rfl rfl ?_)))
  all_goals (first | (refine Br.keep ?_) | (first | (refine WL.pass rfl rfl rfl ?_) | (refine WL.step (ok_fieldAddr rfl Try.underlying57 rfl (fun w => Try.sizeOf9 w)) rfl rfl rfl ?_)))
  all_goals (first | (refine Br.keep ?_) | (first | (refine WL.pass rfl rfl rfl ?_) | (refine WL.step (ok_load (fun w => Try.isAgg9 w) rfl (by first | assumption | exact cell_blk (by assumption) rfl)) rfl rfl rfl ?_)))
  all_goals (first | (refine Br.keep ?_) | (first | (refine WL.pass rfl rfl rfl ?_) | (refine WL.step (ok_lenS rfl Try.underlying9 rfl) rfl rfl rfl ?_)))
  all_goals (first | (refine Br.keep ?_) | (first | (refine WL.pass rfl rfl rfl ?_) | (first | (refine WL.step (OkP.bool_t (by omega) (ok_gtr rfl rfl)) rfl rfl rfl ?_) | (refine WL.step (OkP.bool_f (by omega) (ok_gtr rfl rfl)) rfl rfl rfl ?_) | (refine WL.step (ok_gtr rfl rfl) rfl rfl rfl ?_))))
  all_goals (first | (refine Br.keep ?_) | (first | (refine WL.step (ok_pick_t rfl rfl) rfl rfl rfl ?_) | (refine WL.step (ok_pick_f rfl rfl) rfl rfl rfl ?_)))
  all_goals (first | (refine Br.keep ?_) | (refine WL.step (ok_move rfl) rfl rfl rfl ?_))
  all_goals (first | (refine Br.keep ?_) | (try ((fail_if_success (refine WL.part 21 (b := true) rfl (fun _ => ?_) (fun _ => ?_))); (fail_if_success (refine WL.part 21 (b := false) rfl (fun _ => ?_) (fun _ => ?_))); (refine WL.part 21 rfl (fun hb => ?_) (fun hb => ?_) <;> (first | replace hb := of_decide_eq_true hb | replace hb := of_decide_eq_false hb | replace hb := of_decide_eq_false (nt hb) | replace hb := of_decide_eq_true (nf hb) | skip)))))
  all_goals (first | (refine Br.keep ?_) | (first | (refine WL.pass rfl rfl rfl ?_) | (refine WL.step (ok_fieldAddr rfl Try.underlying59 rfl (fun w => Try.sizeOf57 w)) rfl rfl rfl ?_)))
  all_goals (first | (refine Br.keep ?_) | (first | (refine WL.pass rfl rfl rfl ?_) | (refine WL.step (ok_fieldAddr rfl Try.underlying57 rfl (fun w => Try.sizeOf55 w)) rfl rfl rfl ?_)))
  all_goals (first | (refine Br.keep ?_) | (first | (refine WL.pass rfl rfl rfl ?_) | (refine WL.step (ok_load (fun w => Try.isAgg55 w) rfl (by first | assumption | exact cell_blk (by assumption) rfl)) rfl rfl rfl ?_)))
  all_goals (first | (refine Br.keep ?_) | (first | (refine WL.pass rfl rfl rfl ?_) | (refine WL.step (ok_lenL rfl Try.underlying55 rfl) rfl rfl rfl ?_)))
  all_goals (first | (refine Br.keep ?_) | (first | (refine WL.pass rfl rfl rfl ?_) | (first | (refine WL.step (OkP.bool_t (by omega) (ok_gtr rfl rfl)) rfl rfl rfl ?_) | (refine WL.step (OkP.bool_f (by omega) (ok_gtr rfl rfl)) rfl rfl rfl ?_) | (refine WL.step (ok_gtr rfl rfl) rfl rfl rfl ?_))))
  all_goals (first | (refine Br.keep ?_) | (first | (refine WL.step (ok_pick_t rfl rfl) rfl rfl rfl ?_) | (refine WL.step (ok_pick_f rfl rfl) rfl rfl rfl ?_)))
  all_goals (first | (refine Br.keep ?_) | (refine WL.nil ?_))
  all_goals (first | (refine Br.keep ?_) | (repeat' (with_reducible first | refine thenP_n ?_ | refine blockP_n ?_)))
  all_goals (first | (refine Br.keep ?_) | (refine WC.sub [(5, _), (6, _), (7, _), (27, _)] ⟨rfl, rfl, rfl, rfl, trivial⟩ ?_))
  all_goals (first | (refine Br.keep ?_) | (first | refine WC.condB_t 3 rfl ?_ | refine WC.condB_f 4 rfl ?_ | (refine WC.condB 3 4 rfl (fun hb => ?_) (fun hb => ?_) <;> (first | replace hb := of_decide_eq_true hb | replace hb := of_decide_eq_false hb | replace hb := of_decide_eq_false (nt hb) | replace hb := of_decide_eq_true (nf hb) | skip))))
  all_goals (first
    | (fail_if_success (refine Br.mk (i := 3) ?_))
    | (refine Br.mk (i := 3) ?_
       all_goals (refine WC.seq ?_)
       all_goals (refine WC.region ?_)
       all_goals (refine WL.step (ok_assign rfl) rfl rfl rfl ?_)
       all_goals (refine WL.nil ?_)
       all_goals (repeat' (with_reducible first | refine thenP_n ?_ | refine blockP_n ?_))
       all_goals (refine WC.sub [(2, _)] ⟨rfl, trivial⟩ ?_)
       all_goals (refine WC.ret ?_)
       all_goals (repeat' (with_reducible first | refine thenP_r ?_ | refine blockP_r ?_))
       all_goals (refine retP_1 _ ⟨rfl, trivial⟩ ?_)
       all_goals (first
                   | exact ⟨⟨true, rfl, fun _ => ⟨by omega, by rw [List.take_of_length_le (by omega)] at hn; exact hn⟩⟩, hx1⟩
                   | exact ⟨⟨false, rfl, fun e => by cases e⟩, hX3⟩)
       skip))
  all_goals (first
    | (fail_if_success (refine Br.mk (i := 4) ?_))
    | (refine Br.mk (i := 4) ?_
       all_goals (refine WC.skip ?_)
       skip))
  all_goals (first | (refine Br.keep ?_) | (repeat' (with_reducible first | refine thenP_n ?_ | refine blockP_n ?_)))
  all_goals (first | (refine Br.keep ?_) | (refine WC.region ?_))
  all_goals (first | (refine Br.keep ?_) | (first | (refine WL.step (ok_addI rfl rfl (by omega)) rfl rfl rfl ?_) | (refine WL.step (ok_add rfl rfl) rfl rfl rfl ?_)))
  all_goals (first | (refine Br.keep ?_) | (refine WL.step (ok_move rfl) rfl rfl rfl ?_))
  all_goals (first | (refine Br.keep ?_) | (refine WL.nil ?_))
  all_goals (first | (refine Br.keep ?_) | (repeat' (with_reducible first | refine thenP_n ?_ | refine blockP_n ?_)))
  all_goals (first | (refine Br.keep ?_) | (exact ⟨k + 1, ⟨rfl, rfl, rfl, trivial⟩, (by exact ⟨hX3, by omega, by omega, fun d hd' => by rw [List.take_add_one, hdk] at hd'; rcases List.mem_append.1 hd' with hd' | hd'; exact hn d hd'; simp at hd'; subst hd'; exact ⟨by dsimp only; omega, by dsimp only; omega⟩⟩), (by omega)⟩))
  all_goals (try (refine Br.mk (i := 1000) ?_))
  all_goals (repeat' (with_reducible first | refine thenP_n ?_ | refine blockP_n ?_))
  all_goals (refine WC.sub [] trivial ?_)
  all_goals (refine WC.seq ?_)
  all_goals (refine WC.region ?_)
  all_goals (refine WL.step (ok_assign rfl) rfl rfl rfl ?_)
  all_goals (refine WL.nil ?_)
  all_goals (repeat' (with_reducible first | refine thenP_n ?_ | refine blockP_n ?_))
  all_goals (refine WC.ret ?_)
  all_goals (repeat' (with_reducible first | refine thenP_r ?_ | refine blockP_r ?_))
  all_goals (refine retP_1 _ ⟨rfl, trivial⟩ ?_)
  all_goals (first
              | exact ⟨⟨true, rfl, fun _ => ⟨by omega, by rw [List.take_of_length_le (by omega)] at hn; exact hn⟩⟩, hx1⟩
              | exact ⟨⟨false, rfl, fun e => by cases e⟩, hX3⟩)
section
variable {B : Nat} {c : Int} {h h' : Heap} {b m1 m2 : Nat} {last : Int} {L : List En}
theorem MR.of3 {L : List En} {q : Nat} : q = b ∨ q = m1 ∨ q = m2 → MR b m1 m2 L q := fun e => by rcases e with e | e | e; exact .inl e; exact .inr (.inl e); exact .inr (.inr (.inl e))
theorem MR.of1 {L : List En} {e : En} (he : e ∈ L) {q : Nat} (hq : q = e.p) : MR b m1 m2 L q := .inr (.inr (.inr ⟨e, he, .inl hq⟩))
theorem MR.ge (r : Rg B c h b m1 m2 last L) {q : Nat} (hq : MR b m1 m2 L q) : B ≤ q := by
  have lo := r.lo
  rcases hq with rfl | rfl | rfl | ⟨e, he, rfl | hq⟩
  · exact lo.1
  · exact lo.2.1
  · exact lo.2.2.1
  · exact (lo.2.2.2 e he).1
  · exact (lo.2.2.2 e he).2 q hq
theorem MR.lt (r : Rg B c h b m1 m2 last L) {q : Nat} (hq : MR b m1 m2 L q) : q < h.size := by
  obtain ⟨l1, l2, l3, l4, l5⟩ := r.lt
  rcases hq with rfl | rfl | rfl | ⟨e, he, rfl | hq⟩
  · exact l1
  · exact l2
  · exact l3
  · exact l4 e he
  · exact l5 e he q hq
theorem split_of {e : En} (he : e ∈ L) : ∃ L1 L2, L = L1 ++ e :: L2 := List.append_of_mem he
theorem cput (r : Rg B c h b m1 m2 last L) (s : Stm) {h0 : Heap} (ok : stOk h0 s) (x0 : Ext No h0 h) (hB : h0.size ≤ B) (hc : c + 1 ≤ 1000000) :
    CallsH Try.prog 23 ⟨[ptE b, .agg ⟨stC s⟩]⟩ h fun _ h' => (∃ last' L', Rg B (c + 1) h' b m1 m2 last' L') ∧ Ext (MR b m1 m2 L) h h' := by
  obtain ⟨t, v, o⟩ := s
  by_cases hf : fairS t o = true
  · by_cases hm : ∃ e ∈ L, e.t = t ∧ e.o = o
    · obtain ⟨e, he, rfl, rfl⟩ := hm
      obtain ⟨L1, L2, rfl⟩ := split_of he
      exact (rg_put_old r (ok.1.ext0 x0) hc).mono fun u h' ⟨_, r', x⟩ => ⟨⟨_, _, r'⟩, x.mono fun q _ e => MR.of1 he e⟩
    · exact (rg_put_new r hf (fun e he z => hm ⟨e, he, z⟩) ok.1 x0 hB hc).mono fun u h' ⟨_, ⟨p, v', r'⟩, x⟩ => ⟨⟨_, _, r'⟩, x.mono fun q _ e => MR.of3 e⟩
  · exact (rg_put_zero r (by simpa using hf) (ok.1.ext0 x0) ok.le).mono fun u h' ⟨_, x⟩ => ⟨⟨_, _, (r.ext0 x).up (by omega) hc⟩, x.mono fun _ _ e => e.elim⟩
theorem cref (r : Rg B c h b m1 m2 last L) (id : Int) (hc : c + 1 ≤ 1000000) :
    CallsH Try.prog 25 ⟨[ptE b, In id]⟩ h fun _ h' => (∃ last' L', Rg B (c + 1) h' b m1 m2 last' L') ∧ Ext (MR b m1 m2 L) h h' := by
  by_cases hm : ∃ e ∈ L, e.id = id
  · obtain ⟨e, he, rfl⟩ := hm
    obtain ⟨L1, L2, rfl⟩ := split_of he
    exact (rg_ref r hc).mono fun u h' ⟨_, r', x⟩ => ⟨⟨_, _, r'⟩, x.mono fun q _ e => MR.of1 he e⟩
  · exact (rg_ref_no r (fun e he z => hm ⟨e, he, z⟩)).mono fun u h' ⟨_, x⟩ => ⟨⟨_, _, x ▸ r.up (by omega) hc⟩, x ▸ .refl _ _⟩
theorem cdrop (r : Rg B c h b m1 m2 last L) (id : Int) (hc : c + 1 ≤ 1000000) :
    CallsH Try.prog 27 ⟨[ptE b, In id]⟩ h fun _ h' => (∃ last' L', Rg B (c + 1) h' b m1 m2 last' L') ∧ Ext (MR b m1 m2 L) h h' := by
  by_cases hm : ∃ e ∈ L, e.id = id
  · obtain ⟨e, he, rfl⟩ := hm
    obtain ⟨L1, L2, rfl⟩ := split_of he
    by_cases h1 : e.rf = 1
    · exact (rg_drop_out r h1).mono fun u h' ⟨_, r', x⟩ => ⟨⟨_, _, r'.up (by omega) hc⟩, x.mono fun q _ z => by rcases z with z | z | z; exact MR.of1 he z; exact .inr (.inl z); exact .inr (.inr (.inl z))⟩
    · exact (rg_drop_dec r (by have := r.rf1 e he; omega) hc).mono fun u h' ⟨_, r', x⟩ => ⟨⟨_, _, r'⟩, x.mono fun q _ e => MR.of1 he e⟩
  · exact (rg_drop_no r (fun e he z => hm ⟨e, he, z⟩)).mono fun u h' ⟨_, x⟩ => ⟨⟨_, _, x ▸ r.up (by omega) hc⟩, x ▸ .refl _ _⟩
end
end Go.Proofs.Ytkpgnhhidnkmcaa

