/-
  TABLE (layer 15): both tables, side by side; the law's calls.
-/
import Derived.Test.YtkpgnhhidnkmcaaTb2
import Derived.Test.YtkpgnhhidnkmcaaRfT
namespace Go.Proofs.Ytkpgnhhidnkmcaa
open Go Go.RK

abbrev Do := List UInt8 × Int × Int
/-- A call, as it lies: its number, a name, an id. -/
def doCells (p : Int × List UInt8 × Int) : List Value := [In p.1, St p.2.1, In p.2.2]
theorem doCells_len (a : Int × List UInt8 × Int) : (doCells a).length = 3 := rfl
theorem opens_do (w : World) : Opens Try.prog w 32 doCells (fun _ => True) := by
  have h1 := opensF_cons (P := Try.prog) (w := w) (o := 2) (f := ⟨ "ID", 3, 2, false, "", "", 24⟩) rfl (opens_int Try.underlying3) (by kernel_rfl) (fun _ => rfl) opensF_nil
  have h2 := opensF_cons (P := Try.prog) (w := w) (o := 1) (f := ⟨ "Name", 9, 1, false, "", "", 8⟩) rfl (opens_string Try.underlying9) (by kernel_rfl) (fun _ => rfl) h1
  have h3 := opensF_cons (P := Try.prog) (w := w) (o := 0) (f := ⟨ "Op", 3, 0, false, "", "", 0⟩) rfl (opens_int Try.underlying3) (by kernel_rfl) (fun _ => rfl) h2
  exact (opens_struct Try.underlying32 (by kernel_rfl) h3).map (fun p => ((p.1, p.2.1, p.2.2.1) : Int × List UInt8 × Int)) (fun _ => rfl) (fun _ _ => trivial)
theorem opens_dos (w : World) : Opens Try.prog w 22 (fun p : Value × List (Int × List UInt8 × Int) => [p.1]) (fun p => Rd w.heap p.1 3 p.2.length (p.2.flatMap doCells) ∧ p.2.length ≤ maxLen) :=
  (opens_slice Try.underlying22 (by kernel_rfl) (by decide) doCells_len (opens_do w)).map id (fun _ => rfl) fun p q => ⟨q.1, q.2.1⟩
set_option maxRecDepth 100000 in
theorem awake15 {h : Heap} : CallsH Try.prog 8 ⟨[]⟩ h fun u h' => u = .bool true ∧ Ext No h h' := by
  refine calls [] Try.func8 rfl Try.ntmps8 rfl trivial ?_
  all_goals (refine WC.seq ?_)
  all_goals (refine WC.region ?_)
  all_goals (refine WL.step (ok_assign rfl) rfl rfl rfl ?_)
  all_goals (refine WL.nil ?_)
  all_goals (repeat' (with_reducible first | refine thenP_n ?_ | refine blockP_n ?_))
  all_goals (refine WC.seq ?_)
  all_goals (refine WC.region ?_)
  all_goals (refine WL.call (vs := [_]) rfl (fun a w => Try.call9 a w) rfl (new_yes 1 (by decide) (by decide)) rfl rfl rfl ?_
             rintro _ h1 ⟨b, m, rfl, t1, hgb, hgm, hx1⟩)
  all_goals (refine WL.step (ok_move rfl) rfl rfl rfl ?_)
  all_goals (refine WL.step (ok_extract rfl rfl) rfl rfl rfl ?_)
  all_goals (refine WL.step (ok_extract rfl rfl) rfl rfl rfl ?_)
  all_goals (refine WL.step (ok_assign rfl) rfl rfl rfl ?_)
  all_goals (refine WL.step (ok_assign rfl) rfl rfl rfl ?_)
  all_goals (refine WL.nil ?_)
  all_goals (repeat' (with_reducible first | refine thenP_n ?_ | refine blockP_n ?_))
  all_goals (refine WC.sub [(1, _), (2, _)] ⟨rfl, rfl, trivial⟩ ?_)
  all_goals (refine WC.seq ?_)
  all_goals (refine WC.seq ?_)
  all_goals (refine WC.region ?_)
  all_goals (refine WL.step (ok_move rfl) rfl rfl rfl ?_)
  all_goals (refine WL.step (ok_eqlPn Try.underlying24 rfl rfl) rfl rfl rfl ?_)
  all_goals (refine WL.step (ok_move rfl) rfl rfl rfl ?_)
  all_goals (try ((fail_if_success (refine WL.part 15 (b := true) rfl (fun _ => ?_) (fun _ => ?_))); (fail_if_success (refine WL.part 15 (b := false) rfl (fun _ => ?_) (fun _ => ?_))); (refine WL.part 15 rfl (fun hb => ?_) (fun hb => ?_) <;> (first | replace hb := of_decide_eq_true hb | replace hb := of_decide_eq_false hb | replace hb := of_decide_eq_false (nt hb) | replace hb := of_decide_eq_true (nf hb) | skip))))
  all_goals (first | (refine WL.pass rfl rfl rfl ?_) | (refine WL.step (ok_move rfl) rfl rfl rfl ?_))
  all_goals (first | (refine WL.pass rfl rfl rfl ?_) | (first | (refine WL.step (OkP.nbool_t (by omega) (ok_neq rfl rfl)) rfl rfl rfl ?_) | (refine WL.step (OkP.nbool_f (by omega) (ok_neq rfl rfl)) rfl rfl rfl ?_) | (refine WL.step (ok_neq rfl rfl) rfl rfl rfl ?_)))
  all_goals (first | (refine WL.step (ok_pick_t rfl rfl) rfl rfl rfl ?_) | (refine WL.step (ok_pick_f rfl rfl) rfl rfl rfl ?_))
  all_goals (refine WL.nil ?_)
  all_goals (repeat' (with_reducible first | refine thenP_n ?_ | refine blockP_n ?_))
  all_goals (refine WC.sub [(1, _), (18, _)] ⟨rfl, rfl, trivial⟩ ?_)
  all_goals (first | refine WC.condB_t 1 rfl ?_ | refine WC.condB_f 2 rfl ?_ | (refine WC.condB 1 2 rfl (fun hb => ?_) (fun hb => ?_) <;> (first | replace hb := of_decide_eq_true hb | replace hb := of_decide_eq_false hb | replace hb := of_decide_eq_false (nt hb) | replace hb := of_decide_eq_true (nf hb) | skip)))
  all_goals (first
    | (fail_if_success (refine Br.mk (i := 1) ?_))
    | (refine Br.mk (i := 1) ?_
       all_goals (refine WC.seq ?_)
       all_goals (refine WC.region ?_)
       all_goals (refine WL.step (ok_assign rfl) rfl rfl rfl ?_)
       all_goals (refine WL.nil ?_)
       all_goals (repeat' (with_reducible first | refine thenP_n ?_ | refine blockP_n ?_))
       all_goals (refine WC.ret ?_)
       all_goals (repeat' (with_reducible first | refine thenP_r ?_ | refine blockP_r ?_))
       all_goals (refine retP_1 _ ⟨rfl, trivial⟩ ?_)
       all_goals (exact ⟨rfl, hx1.trans' (hx2.trans hx3) (fun k hk e => by omega)⟩)
       skip))
  all_goals (first
    | (fail_if_success (refine Br.mk (i := 2) ?_))
    | (refine Br.mk (i := 2) ?_
       all_goals (refine WC.skip ?_)
       skip))
  all_goals (repeat' (with_reducible first | refine thenP_n ?_ | refine blockP_n ?_))
  all_goals (refine WC.seq ?_)
  all_goals (refine WC.region ?_)
  all_goals (refine WL.step (ok_move rfl) rfl rfl rfl ?_)
  all_goals (refine WL.call (vs := [_, _, _]) rfl (fun a w => Try.call11 a w) rfl (set_new_ t1 [97] (In 1) rfl (by decide)) rfl rfl rfl ?_
             rintro _ h2 ⟨rfl, t2, hx2⟩)
  all_goals (refine WL.step (ok_move rfl) rfl rfl rfl ?_)
  all_goals (refine WL.step (ok_extract rfl rfl) rfl rfl rfl ?_)
  all_goals (refine WL.step (ok_extract rfl rfl) rfl rfl rfl ?_)
  all_goals (refine WL.step (ok_assign rfl) rfl rfl rfl ?_)
  all_goals (refine WL.step (ok_assign rfl) rfl rfl rfl ?_)
  all_goals (refine WL.nil ?_)
  all_goals (repeat' (with_reducible first | refine thenP_n ?_ | refine blockP_n ?_))
  all_goals (refine WC.sub [(1, _), (3, _), (4, _)] ⟨rfl, rfl, rfl, trivial⟩ ?_)
  all_goals (refine WC.seq ?_)
  all_goals (refine WC.region ?_)
  all_goals (refine WL.step (ok_move rfl) rfl rfl rfl ?_)
  all_goals (refine WL.call (vs := [_, _, _]) rfl (fun a w => Try.call11 a w) rfl (set_there t2 [97] (In 2) (alook_aput_same _ _ _)) rfl rfl rfl ?_
             rintro _ h3 ⟨rfl, t3, hx3⟩)
  all_goals (refine WL.step (ok_move rfl) rfl rfl rfl ?_)
  all_goals (refine WL.step (ok_extract rfl rfl) rfl rfl rfl ?_)
  all_goals (refine WL.step (ok_extract rfl rfl) rfl rfl rfl ?_)
  all_goals (refine WL.step (ok_assign rfl) rfl rfl rfl ?_)
  all_goals (refine WL.step (ok_assign rfl) rfl rfl rfl ?_)
  all_goals (refine WL.nil ?_)
  all_goals (repeat' (with_reducible first | refine thenP_n ?_ | refine blockP_n ?_))
  all_goals (refine WC.sub [(1, _), (3, _), (4, _), (5, _), (6, _)] ⟨rfl, rfl, rfl, rfl, rfl, trivial⟩ ?_)
  all_goals (refine WC.seq ?_)
  all_goals (refine WC.region ?_)
  all_goals (refine WL.step (ok_move rfl) rfl rfl rfl ?_)
  all_goals (refine WL.call (vs := [_, _, _]) rfl (fun a w => Try.call11 a w) rfl (set_full t3 [98] (In 3) rfl (by decide)) rfl rfl rfl ?_
             rintro _ _ ⟨rfl, rfl⟩)
  all_goals (refine WL.step (ok_move rfl) rfl rfl rfl ?_)
  all_goals (refine WL.step (ok_extract rfl rfl) rfl rfl rfl ?_)
  all_goals (refine WL.step (ok_extract rfl rfl) rfl rfl rfl ?_)
  all_goals (refine WL.step (ok_assign rfl) rfl rfl rfl ?_)
  all_goals (refine WL.step (ok_assign rfl) rfl rfl rfl ?_)
  all_goals (refine WL.nil ?_)
  all_goals (repeat' (with_reducible first | refine thenP_n ?_ | refine blockP_n ?_))
  all_goals (refine WC.sub [(1, _), (3, _), (4, _), (5, _), (6, _), (8, _)] ⟨rfl, rfl, rfl, rfl, rfl, rfl, trivial⟩ ?_)
  all_goals (refine WC.seq ?_)
  all_goals (refine WC.region ?_)
  all_goals (refine WL.step (ok_move rfl) rfl rfl rfl ?_)
  all_goals (first | (refine WL.step (OkP.bool_t (by omega) (ok_eql rfl rfl)) rfl rfl rfl ?_) | (refine WL.step (OkP.bool_f (by omega) (ok_eql rfl rfl)) rfl rfl rfl ?_) | (refine WL.step (ok_eql rfl rfl) rfl rfl rfl ?_))
  all_goals (refine WL.step (ok_move rfl) rfl rfl rfl ?_)
  all_goals (try ((fail_if_success (refine WL.part 36 (b := true) rfl (fun _ => ?_) (fun _ => ?_))); (fail_if_success (refine WL.part 36 (b := false) rfl (fun _ => ?_) (fun _ => ?_))); (refine WL.part 36 rfl (fun hb => ?_) (fun hb => ?_) <;> (first | replace hb := of_decide_eq_true hb | replace hb := of_decide_eq_false hb | replace hb := of_decide_eq_false (nt hb) | replace hb := of_decide_eq_true (nf hb) | skip))))
  all_goals (first | (refine WL.pass rfl rfl rfl ?_) | (refine WL.step (ok_move rfl) rfl rfl rfl ?_))
  all_goals (first | (refine WL.pass rfl rfl rfl ?_) | (first | (refine WL.step (OkP.bool_t (by omega) (ok_eql rfl rfl)) rfl rfl rfl ?_) | (refine WL.step (OkP.bool_f (by omega) (ok_eql rfl rfl)) rfl rfl rfl ?_) | (refine WL.step (ok_eql rfl rfl) rfl rfl rfl ?_)))
  all_goals (first | (refine WL.step (ok_pick_t rfl rfl) rfl rfl rfl ?_) | (refine WL.step (ok_pick_f rfl rfl) rfl rfl rfl ?_))
  all_goals (refine WL.step (ok_move rfl) rfl rfl rfl ?_)
  all_goals (try ((fail_if_success (refine WL.part 40 (b := true) rfl (fun _ => ?_) (fun _ => ?_))); (fail_if_success (refine WL.part 40 (b := false) rfl (fun _ => ?_) (fun _ => ?_))); (refine WL.part 40 rfl (fun hb => ?_) (fun hb => ?_) <;> (first | replace hb := of_decide_eq_true hb | replace hb := of_decide_eq_false hb | replace hb := of_decide_eq_false (nt hb) | replace hb := of_decide_eq_true (nf hb) | skip))))
  all_goals (first | (refine WL.pass rfl rfl rfl ?_) | (refine WL.step (ok_move rfl) rfl rfl rfl ?_))
  all_goals (first | (refine WL.pass rfl rfl rfl ?_) | (first | (refine WL.step (OkP.bool_t (by omega) (ok_eql rfl rfl)) rfl rfl rfl ?_) | (refine WL.step (OkP.bool_f (by omega) (ok_eql rfl rfl)) rfl rfl rfl ?_) | (refine WL.step (ok_eql rfl rfl) rfl rfl rfl ?_)))
  all_goals (first | (refine WL.step (ok_pick_t rfl rfl) rfl rfl rfl ?_) | (refine WL.step (ok_pick_f rfl rfl) rfl rfl rfl ?_))
  all_goals (refine WL.step (ok_move rfl) rfl rfl rfl ?_)
  all_goals (try ((fail_if_success (refine WL.part 44 (b := true) rfl (fun _ => ?_) (fun _ => ?_))); (fail_if_success (refine WL.part 44 (b := false) rfl (fun _ => ?_) (fun _ => ?_))); (refine WL.part 44 rfl (fun hb => ?_) (fun hb => ?_) <;> (first | replace hb := of_decide_eq_true hb | replace hb := of_decide_eq_false hb | replace hb := of_decide_eq_false (nt hb) | replace hb := of_decide_eq_true (nf hb) | skip))))
  all_goals (first | (refine WL.pass rfl rfl rfl ?_) | (refine WL.step (ok_move rfl) rfl rfl rfl ?_))
  all_goals (first | (refine WL.pass rfl rfl rfl ?_) | (first | (refine WL.step (OkP.bool_t (by omega) (ok_eql rfl rfl)) rfl rfl rfl ?_) | (refine WL.step (OkP.bool_f (by omega) (ok_eql rfl rfl)) rfl rfl rfl ?_) | (refine WL.step (ok_eql rfl rfl) rfl rfl rfl ?_)))
  all_goals (first | (refine WL.step (ok_pick_t rfl rfl) rfl rfl rfl ?_) | (refine WL.step (ok_pick_f rfl rfl) rfl rfl rfl ?_))
  all_goals (refine WL.step (ok_move rfl) rfl rfl rfl ?_)
  all_goals (try ((fail_if_success (refine WL.part 48 (b := true) rfl (fun _ => ?_) (fun _ => ?_))); (fail_if_success (refine WL.part 48 (b := false) rfl (fun _ => ?_) (fun _ => ?_))); (refine WL.part 48 rfl (fun hb => ?_) (fun hb => ?_) <;> (first | replace hb := of_decide_eq_true hb | replace hb := of_decide_eq_false hb | replace hb := of_decide_eq_false (nt hb) | replace hb := of_decide_eq_true (nf hb) | skip))))
  all_goals (first | (refine WL.pass rfl rfl rfl ?_) | (refine WL.step (ok_move rfl) rfl rfl rfl ?_))
  all_goals (first | (refine WL.pass rfl rfl rfl ?_) | (first | (refine WL.step (OkP.bool_t (by omega) (ok_eql rfl rfl)) rfl rfl rfl ?_) | (refine WL.step (OkP.bool_f (by omega) (ok_eql rfl rfl)) rfl rfl rfl ?_) | (refine WL.step (ok_eql rfl rfl) rfl rfl rfl ?_)))
  all_goals (first | (refine WL.step (ok_pick_t rfl rfl) rfl rfl rfl ?_) | (refine WL.step (ok_pick_f rfl rfl) rfl rfl rfl ?_))
  all_goals (refine WL.step (ok_move rfl) rfl rfl rfl ?_)
  all_goals (try ((fail_if_success (refine WL.part 52 (b := true) rfl (fun _ => ?_) (fun _ => ?_))); (fail_if_success (refine WL.part 52 (b := false) rfl (fun _ => ?_) (fun _ => ?_))); (refine WL.part 52 rfl (fun hb => ?_) (fun hb => ?_) <;> (first | replace hb := of_decide_eq_true hb | replace hb := of_decide_eq_false hb | replace hb := of_decide_eq_false (nt hb) | replace hb := of_decide_eq_true (nf hb) | skip))))
  all_goals (first | (refine WL.pass rfl rfl rfl ?_) | (refine WL.step (ok_move rfl) rfl rfl rfl ?_))
  all_goals (first
               | (refine WL.pass rfl rfl rfl ?_)
               | (refine WL.call (vs := [_]) rfl (fun a w => Try.call19 a w) rfl ((len_yes t3).as (show _ = In 1 from rfl)) rfl rfl rfl ?_
                  rintro _ hz ⟨rfl, _⟩
                  subst hz))
  all_goals (first | (refine WL.pass rfl rfl rfl ?_) | (first | (refine WL.step (OkP.bool_t (by omega) (ok_eql rfl rfl)) rfl rfl rfl ?_) | (refine WL.step (OkP.bool_f (by omega) (ok_eql rfl rfl)) rfl rfl rfl ?_) | (refine WL.step (ok_eql rfl rfl) rfl rfl rfl ?_)))
  all_goals (first | (refine WL.step (ok_pick_t rfl rfl) rfl rfl rfl ?_) | (refine WL.step (ok_pick_f rfl rfl) rfl rfl rfl ?_))
  all_goals (refine WL.step (ok_assign rfl) rfl rfl rfl ?_)
  all_goals (refine WL.nil ?_)
  all_goals (repeat' (with_reducible first | refine thenP_n ?_ | refine blockP_n ?_))
  all_goals (refine WC.sub [(0, _)] ⟨rfl, trivial⟩ ?_)
  all_goals (refine WC.ret ?_)
  all_goals (repeat' (with_reducible first | refine thenP_r ?_ | refine blockP_r ?_))
  all_goals (refine retP_1 _ ⟨rfl, trivial⟩ ?_)
  all_goals (exact ⟨rfl, hx1.trans' (hx2.trans hx3) (fun k hk e => by omega)⟩)
/-- Both tables. -/
structure T15 (h0 h : Heap) (b m bt : Nat) (v : Value) (most : Int) (L : List NI) : Prop where
  tb : ∃ E, Tb h b m most (encE In E) ∧ E.Perm L
  rf : Rf h bt v most L
  rise : Rise L
  ext : Ext No h0 h
  lo : h0.size ≤ b ∧ h0.size ≤ m ∧ h0.size ≤ bt ∧ ∀ q, v.ownBlock = some q → h0.size ≤ q
  le : (L.length : Int) ≤ most
  most : most ≤ 4096
/-- What a call may turn. -/
def M15 (m bt : Nat) (v : Value) (q : Nat) : Prop := q = m ∨ q = bt ∨ v.ownBlock = some q
section
variable {h0 h h1 : Heap} {b m bt : Nat} {v : Value} {most : Int} {L : List NI}
theorem own_kind {T : TypeId} {sz n q : Nat} {xs : List Value} (ho : Own h v T sz n xs) (hq : v.ownBlock = some q) : ∃ cur, h[q]? = some (.cells cur T (0, 0)) := by
  obtain ⟨_, ⟨e1, _⟩ | ⟨g, cap, cur, e1, hg, _⟩⟩ := ho
  · rw [e1] at hq; cases hq
  · rw [e1] at hq
    have : g = q := by simpa [Value.ownBlock] using hq
    exact ⟨cur, this ▸ hg⟩
theorem T15.not (d : T15 h0 h b m bt v most L) {g : Nat} {cs : Array Value} {T : TypeId} (hg : h[g]? = some (.cells cs T (0, 0))) (h1 : T ≠ 77) (h2 : T ≠ 79) : ¬ M15 m bt v g := by
  rintro (rfl | rfl | e)
  · obtain ⟨E, t, _⟩ := d.tb
    obtain ⟨_, _, e, _⟩ := t.map
    rw [hg] at e; cases e
  · have := d.rf.blk
    rw [hg] at this
    simp only [Option.some.injEq, Obj.cells.injEq] at this
    exact h1 this.2.1
  · obtain ⟨cur, e2⟩ := own_kind d.rf.own e
    rw [hg] at e2
    simp only [Option.some.injEq, Obj.cells.injEq] at e2
    exact h2 e2.2.1
theorem T15.sep (d : T15 h0 h b m bt v most L) : b ≠ m ∧ b ≠ bt ∧ m ≠ bt ∧ v.ownBlock ≠ some b ∧ v.ownBlock ≠ some m ∧ v.ownBlock ≠ some bt := by
  obtain ⟨E, t, _⟩ := d.tb
  have hn := d.not t.cells (by decide) (by decide)
  refine ⟨t.ne, fun e => hn (.inr (.inl e)), fun e => ?_, fun e => hn (.inr (.inr e)), fun e => ?_, d.rf.ne⟩
  · obtain ⟨_, _, e2, _⟩ := t.map
    rw [e, d.rf.blk] at e2; cases e2
  · obtain ⟨cur, e2⟩ := own_kind d.rf.own e
    obtain ⟨_, _, e3, _⟩ := t.map
    rw [e2] at e3; cases e3
theorem T15.stay {S : Nat → Prop} (d : T15 h0 h b m bt v most L) (e : Ext S h h1) (hS : ∀ k, k < h.size → ¬ S k) : T15 h0 h1 b m bt v most L := by
  obtain ⟨E, t, hp⟩ := d.tb
  have hb := lt_of_some t.cells
  have hm := t.map.lt
  have ht := lt_of_some d.rf.blk
  exact ⟨⟨E, t.ext e (hS _ hb) (hS _ hm), hp⟩, d.rf.ext e (hS _ ht) (fun q hq => by obtain ⟨_, e2⟩ := own_kind d.rf.own hq; exact hS _ (lt_of_some e2)), d.rise, d.ext.trans' e (fun k hk hs => absurd hs (hS k (Nat.lt_of_lt_of_le hk d.ext.size))), d.lo, d.le, d.most⟩
theorem T15.len (d : T15 h0 h b m bt v most L) : L.length ≤ 4096 := by have := d.le; have := d.most; omega
theorem setL_leN {L : List NI} (h : Rise L) (n : List UInt8) (i : Int) : (setL L n i).length ≤ L.length + 1 := by
  rw [setL_len h]; split <;> omega
theorem set_both (d : T15 h0 h b m bt v most L) (n : List UInt8) (id : Int) :
    CallsH Try.prog 11 ⟨[.pointer (some ⟨b, 0, none⟩), St n, In id]⟩ h fun u h1 => ∃ x e, u = .tuple ⟨[In x, In e]⟩ ∧ Ext (M15 m bt v) h h1 ∧
      CallsH Try.prog 12 ⟨[.pointer (some ⟨bt, 0, none⟩), St n, In id]⟩ h1 fun u h2 => u = .tuple ⟨[In x, In e]⟩ ∧ Ext (M15 m bt v) h1 h2 ∧ ∃ v' L', T15 h0 h2 b m bt v' most L' := by
  obtain ⟨E, t, hp⟩ := d.tb
  obtain ⟨s1, s2, s3, s4, s5, s6⟩ := d.sep
  have hlen := d.len
  have hlk : alook (encE In E) n = (getL L n).map In := by rw [alook_enc, getL_perm hp d.rise.nd]
  have hEl : (encE In E).length = L.length := by rw [enc_len, hp.length_eq]
  have hh0 := d.ext.size
  -- the code's table has turned
  have key : ∀ h1, Tb h1 b m most (aput (encE In E) n (In id)) → Ext (fun k => k = m) h h1 → ∀ x e, ((∃ u0, getL L n = some u0 ∧ x = u0 ∧ e = 0) ∨ (getL L n = none ∧ (L.length : Int) < most ∧ x = 0 ∧ e = 0)) →
      CallsH Try.prog 12 ⟨[.pointer (some ⟨bt, 0, none⟩), St n, In id]⟩ h1 fun u h2 => u = .tuple ⟨[In x, In e]⟩ ∧ Ext (M15 m bt v) h1 h2 ∧ ∃ v' L', T15 h0 h2 b m bt v' most L' := by
    intro h1 t1 x1 x e hc
    have r1 : Rf h1 bt v most L := d.rf.ext x1 (fun e => s3 e.symm) (fun q hq e => s5 (by rw [hq, e]))
    rw [aput_enc] at t1
    have hpp := put_perm hp d.rise n id
    have hsz := x1.size
    refine (set15 r1 d.rise (by omega) n id).mono fun u h2 hpost => ?_
    rcases hpost with ⟨u0, hg, rfl, r2, x2⟩ | ⟨hg, hle, rfl, rfl⟩ | ⟨hg, hlt, rfl, v', r2, x2, hf⟩
    · rcases hc with ⟨u1, hg1, rfl, rfl⟩ | ⟨hg1, _⟩
      · rw [hg] at hg1
        obtain rfl := Option.some.inj hg1
        refine ⟨rfl, x2.mono fun k _ e => .inr (.inr e), v, _, ⟨⟨_, t1.ext x2 s4 s5, hpp⟩, r2, d.rise.set _ _, (d.ext.trans' x1 (fun k hk e => by have := d.lo.2.1; omega)).trans' x2 (fun k hk e => by have := d.lo.2.2.2 k e; omega), d.lo, ?_, d.most⟩⟩
        rw [setL_len d.rise, hg]
        exact d.le
      · rw [hg] at hg1; cases hg1
    · rcases hc with ⟨u1, hg1, _⟩ | ⟨_, hlt, _⟩
      · rw [hg] at hg1; cases hg1
      · omega
    · rcases hc with ⟨u1, hg1, _⟩ | ⟨_, _, rfl, rfl⟩
      · rw [hg] at hg1; cases hg1
      · refine ⟨rfl, x2.mono fun k _ e => .inr (.inl e), v', _, ⟨⟨_, t1.ext x2 s2 s3, hpp⟩, r2, d.rise.set _ _, (d.ext.trans' x1 (fun k hk e => by have := d.lo.2.1; omega)).trans' x2 (fun k hk e => by have := d.lo.2.2.1; omega), ⟨d.lo.1, d.lo.2.1, d.lo.2.2.1, fun q hq => by have := hf q hq; omega⟩, ?_, d.most⟩⟩
        rw [setL_len d.rise, hg]
        simp
        omega
  rcases hg : getL L n with _ | u0
  · rw [hg] at hlk
    by_cases hlt : (L.length : Int) < most
    · refine (set_new_ t n (In id) hlk (by rw [hEl]; exact hlt)).mono fun u h1 ⟨hu, t1, x1⟩ => ⟨0, 0, hu, x1.mono fun k _ e => .inl e, key h1 t1 x1 0 0 (.inr ⟨hg, hlt, rfl, rfl⟩)⟩
    · refine (set_full t n (In id) hlk (by rw [hEl]; omega)).mono fun u h1 ⟨hu, e⟩ => ⟨0, 6, hu, e ▸ .refl _ _, ?_⟩
      subst e
      refine (set15 d.rf d.rise (by omega) n id).mono fun u h2 hpost => ?_
      rcases hpost with ⟨u0, hg2, _⟩ | ⟨_, _, rfl, rfl⟩ | ⟨_, hlt2, _⟩
      · rw [hg] at hg2; cases hg2
      · exact ⟨rfl, .refl _ _, v, L, d⟩
      · omega
  · rw [hg] at hlk
    refine (set_there t n (In id) hlk).mono fun u h1 ⟨hu, t1, x1⟩ => ⟨u0, 0, hu, x1.mono fun k _ e => .inl e, key h1 t1 x1 u0 0 (.inl ⟨u0, hg, rfl, rfl⟩)⟩
theorem del_both (d : T15 h0 h b m bt v most L) (n : List UInt8) :
    CallsH Try.prog 13 ⟨[.pointer (some ⟨b, 0, none⟩), St n]⟩ h fun u h1 => ∃ x e, u = .tuple ⟨[In x, .bool e]⟩ ∧ Ext (M15 m bt v) h h1 ∧
      CallsH Try.prog 14 ⟨[.pointer (some ⟨bt, 0, none⟩), St n]⟩ h1 fun u h2 => u = .tuple ⟨[In x, .bool e]⟩ ∧ Ext (M15 m bt v) h1 h2 ∧ ∃ v' L', T15 h0 h2 b m bt v' most L' := by
  obtain ⟨E, t, hp⟩ := d.tb
  obtain ⟨s1, s2, s3, s4, s5, s6⟩ := d.sep
  have hlen := d.len
  have hlk : alook (encE In E) n = (getL L n).map In := by rw [alook_enc, getL_perm hp d.rise.nd]
  have hh0 := d.ext.size
  refine (delete_any t n).mono fun u h1 ⟨hu, t1, x1⟩ => ⟨(getL L n).getD 0, (getL L n).isSome, ?_, x1.mono fun k _ e => .inl e, ?_⟩
  · rw [hu, hlk]; cases getL L n <;> rfl
  · have r1 : Rf h1 bt v most L := d.rf.ext x1 (fun e => s3 e.symm) (fun q hq e => s5 (by rw [hq, e]))
    rw [adel_enc] at t1
    have hsz := x1.size
    refine (del15 r1 d.rise (by omega) n).mono fun u h2 ⟨hu, v', r2, x2, hf⟩ => ⟨hu, x2.mono fun k _ e => .inr (.inl e), v', _, ⟨⟨_, t1.ext x2 s2 s3, del_perm hp n⟩, r2, d.rise.del n, (d.ext.trans' x1 (fun k hk e => by have := d.lo.2.1; omega)).trans' x2 (fun k hk e => by have := d.lo.2.2.1; omega), ⟨d.lo.1, d.lo.2.1, d.lo.2.2.1, fun q hq => ?_⟩, ?_, d.most⟩⟩
    · rcases hf q hq with e | e
      · exact d.lo.2.2.2 q e
      · omega
    · have := delL_le L n; have := d.le; omega
theorem get_both (d : T15 h0 h b m bt v most L) (n : List UInt8) :
    CallsH Try.prog 15 ⟨[.pointer (some ⟨b, 0, none⟩), St n]⟩ h (fun u h1 => u = .tuple ⟨[In ((getL L n).getD 0), .bool (getL L n).isSome]⟩ ∧ h1 = h) ∧
      CallsH Try.prog 16 ⟨[.pointer (some ⟨bt, 0, none⟩), St n]⟩ h fun u h2 => u = .tuple ⟨[In ((getL L n).getD 0), .bool (getL L n).isSome]⟩ ∧ h2 = h := by
  obtain ⟨E, t, hp⟩ := d.tb
  have hlen := d.len
  have hlk : alook (encE In E) n = (getL L n).map In := by rw [alook_enc, getL_perm hp d.rise.nd]
  refine ⟨?_, get15 d.rf d.rise (by omega) n⟩
  rcases hg : getL L n with _ | u0
  · rw [hg] at hlk
    exact get_no t n hlk
  · rw [hg] at hlk
    exact get_yes t n hlk
theorem same_both (d : T15 h0 h b m bt v most L) :
    CallsH Try.prog 17 ⟨[.pointer (some ⟨b, 0, none⟩), .pointer (some ⟨bt, 0, none⟩)]⟩ h fun u h' => u = .bool true ∧ Ext No h h' := by
  obtain ⟨E, t, hp⟩ := d.tb
  have hlen := d.len
  exact same15 t hp d.rise (by omega) d.rf.blk d.rf.own.rd
end
end Go.Proofs.Ytkpgnhhidnkmcaa

