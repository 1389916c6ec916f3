/-
  REGISTRY (layer 14): the document's: a list of slots.
-/
import Derived.Test.YtkpgnhhidnkmcaaRg5
import Derived.Test.YtkpgnhhidnkmcaaSrlX
import Derived.Test.YtkpgnhhidnkmcaaK10
namespace Go.Proofs.Ytkpgnhhidnkmcaa
open Go Go.RK

abbrev dC (e : En) : List Value := [In e.id, In e.rf, St e.t, e.v]
theorem dC_len (e : En) : (dC e).length = 4 := rfl
/-- The document's registry at block bt, its row v. (Of an En: no block of a record's.) -/
structure R14 (B : Nat) (h : Heap) (bt : Nat) (v : Value) (last : Int) (D : List En) : Prop where
  blk : h[bt]? = some (.cells ⟨[v, In last]⟩ 54 (0, 0))
  own : Own h v 88 4 D.length (D.flatMap dC)
  oid : ∀ e ∈ D, Own h e.v 3 1 e.o.length (ints e.o)
  lo : B ≤ bt ∧ (∀ q, v.ownBlock = some q → B ≤ q) ∧ ∀ e ∈ D, ∀ q, e.v.ownBlock = some q → B ≤ q
  bd : D.length ≤ 1000000 ∧ ∀ e ∈ D, e.o.length ≤ 65535
def MD (bt : Nat) (v : Value) (D : List En) (q : Nat) : Prop := q = bt ∨ v.ownBlock = some q ∨ ∃ e ∈ D, e.v.ownBlock = some q
theorem own_kind14 {h : Heap} {v : Value} {T : TypeId} {sz n q : Nat} {xs : List Value} (ho : Own h v T sz n xs) (hq : v.ownBlock = some q) : ∃ cur, h[q]? = some (.cells cur T (0, 0)) := by
  obtain ⟨_, ⟨e1, _⟩ | ⟨g, cap, cur, e1, hg, _⟩⟩ := ho
  · rw [e1] at hq; cases hq
  · rw [e1] at hq
    have : g = q := by simpa [Value.ownBlock] using hq
    exact ⟨cur, this ▸ hg⟩
section
variable {B : Nat} {h h' : Heap} {bt : Nat} {v : Value} {last : Int} {D D1 D2 : List En} {d : En}
theorem ne_kind {x y : Nat} {cs cs' : Array Value} {T T' : TypeId} {z z' : Nat × Nat} (ht : T ≠ T') (h1 : h[x]? = some (.cells cs T z)) (h2 : h[y]? = some (.cells cs' T' z')) : x ≠ y := fun e => by
  rw [e, h2] at h1
  simp only [Option.some.injEq, Obj.cells.injEq] at h1
  exact ht h1.2.1.symm
theorem R14.sep (r : R14 B h bt v last D) : (∀ q, v.ownBlock = some q → q ≠ bt) ∧ ∀ e ∈ D, ∀ q, e.v.ownBlock = some q → q ≠ bt ∧ v.ownBlock ≠ some q := by
  refine ⟨fun q hq => ?_, fun e he q hq => ?_⟩
  · obtain ⟨_, e1⟩ := own_kind14 r.own hq
    exact ne_kind (by decide) e1 r.blk
  · obtain ⟨_, e1⟩ := own_kind14 (r.oid e he) hq
    refine ⟨ne_kind (by decide) e1 r.blk, fun z => ?_⟩
    obtain ⟨_, e2⟩ := own_kind14 r.own z
    exact ne_kind (by decide) e1 e2 rfl
theorem R14.lt (r : R14 B h bt v last D) {q : Nat} (hq : MD bt v D q) : q < h.size := by
  rcases hq with rfl | hq | ⟨e, he, hq⟩
  · exact lt_of_some r.blk
  · exact r.own.lt hq
  · exact (r.oid e he).lt hq
theorem R14.ge (r : R14 B h bt v last D) {q : Nat} (hq : MD bt v D q) : B ≤ q := by
  rcases hq with rfl | hq | ⟨e, he, hq⟩
  · exact r.lo.1
  · exact r.lo.2.1 q hq
  · exact r.lo.2.2 e he q hq
theorem R14.ext {S : Nat → Prop} (r : R14 B h bt v last D) (a : Ext S h h') (hS : ∀ q, MD bt v D q → ¬ S q) : R14 B h' bt v last D :=
  ⟨a.obj r.blk (hS _ (.inl rfl)), r.own.ext a (fun q hq => hS q (.inr (.inl hq))), fun e he => (r.oid e he).ext a (fun q hq => hS q (.inr (.inr ⟨e, he, hq⟩))), r.lo, r.bd⟩
theorem R14.ext0 (r : R14 B h bt v last D) (a : Ext No h h') : R14 B h' bt v last D := r.ext a fun _ _ => nos
theorem at_mid : (D1 ++ d :: D2)[D1.length]? = some d := by simp
theorem idx_mid (hd : ∀ x ∈ D1, x.id ≠ d.id) : idxOf ((D1 ++ d :: D2).map (·.id)) d.id = D1.length := by
  refine idxOf_at (by simp) ?_
  simp only [List.map_append, List.map_cons]
  rw [List.take_append_of_le_length (by simp), List.take_of_length_le (by simp)]
  simp only [List.mem_map, not_exists, not_and]
  exact hd
theorem idx_no {id : Int} (hd : ∀ x ∈ D, x.id ≠ id) : idxOf (D.map (·.id)) id = -1 := idxOf_no (by simp only [List.mem_map, not_exists, not_and]; exact hd)
set_option maxRecDepth 100000 in
theorem place14 (r : R14 B h bt v last D) (id : Int) : CallsH Try.prog 47 ⟨[ptE bt, In id]⟩ h fun u h' => u = In (idxOf (D.map (·.id)) id) ∧ h' = h := by
  have hl := r.bd.1
  have hB0 := r.blk
  have ho := r.own
  have hos := ho.slice
  obtain ⟨A, c, rfl, _⟩ := hos
  unfold ptE
  refine calls [(0, _), (1, _)] Try.func47 rfl Try.ntmps47 rfl ⟨rfl, rfl, trivial⟩ ?_
  all_goals (refine WC.seq ?_)
  all_goals (refine WC.region ?_)
  all_goals (refine WL.step (ok_assign rfl) rfl rfl rfl ?_)
  all_goals (refine WL.nil ?_)
  all_goals (repeat' (with_reducible first | refine thenP_n ?_ | refine blockP_n ?_))
  all_goals (refine WC.seq ?_)
  all_goals (refine WC.seq ?_)
  all_goals (refine WC.region ?_)
  all_goals (refine WL.step (ok_assign rfl) rfl rfl rfl ?_)
  all_goals (refine WL.nil ?_)
  all_goals (repeat' (with_reducible first | refine thenP_n ?_ | refine blockP_n ?_))
  all_goals (refine WC.block ?_)
  -- loop 0: slots that turn [5], that stay [0, 1]
  all_goals (refine WC.loopG (X := Nat) (fun x => ([(5, In (x : Int))] : Fr)) [(0, _), (1, _)] (fun k h' => h' = h ∧ k ≤ D.length ∧ ∀ p ∈ D.take k, p.id ≠ id) (fun k => D.length - k) (0) ⟨rfl, rfl, rfl, trivial⟩ (by exact ⟨rfl, Nat.zero_le _, by simp⟩) ?_)
  all_goals (rintro k h9 ⟨hz, hk, hn⟩
             subst h9)
  all_goals (refine WC.sub [(5, _), (0, _), (1, _)] ⟨rfl, rfl, rfl, trivial⟩ ?_)
  all_goals (refine WC.seq ?_)
  all_goals (refine WC.seq ?_)
  all_goals (refine WC.region ?_)
  all_goals (refine WL.step (ok_move rfl) rfl rfl rfl ?_)
  all_goals (refine WL.step (ok_move rfl) rfl rfl rfl ?_)
  all_goals (refine WL.step (ok_nilCheck rfl) rfl rfl rfl ?_)
  all_goals (refine WL.step (ok_fieldAddr rfl Try.underlying54 rfl (fun w => Try.sizeOf52 w)) rfl rfl rfl ?_)
  all_goals (refine WL.step (ok_load (fun w => Try.isAgg52 w) rfl (by first | exact cell_blk hB0 rfl | assumption | exact cell_blk (by assumption) rfl)) rfl rfl rfl ?_)
  all_goals (refine WL.step (ok_lenL rfl Try.underlying52 rfl) rfl rfl rfl ?_)
  all_goals (first | (refine WL.step (OkP.bool_t (by omega) (ok_lss rfl rfl)) rfl rfl rfl ?_) | (refine WL.step (OkP.bool_f (by omega) (ok_lss rfl rfl)) rfl rfl rfl ?_) | (refine WL.step (ok_lss rfl rfl) rfl rfl rfl ?_))
  all_goals (refine WL.nil ?_)
  all_goals (repeat' (with_reducible first | refine thenP_n ?_ | refine blockP_n ?_))
  all_goals (refine WC.sub [(0, _), (1, _), (5, _), (12, _)] ⟨rfl, rfl, rfl, rfl, trivial⟩ ?_)
  all_goals (first | refine WC.condB_t 1 rfl ?_ | refine WC.condB_f 2 rfl ?_ | (refine WC.condB 1 2 rfl (fun hb => ?_) (fun hb => ?_) <;> (first | replace hb := of_decide_eq_true hb | replace hb := of_decide_eq_false hb | replace hb := of_decide_eq_false (nt hb) | replace hb := of_decide_eq_true (nf hb) | skip)))
  all_goals (first
    | (fail_if_success (refine Br.mk (i := 1) ?_))
    | (refine Br.mk (i := 1) ?_
       all_goals (refine WC.skip ?_)
       skip))
  all_goals (first
    | (fail_if_success (refine Br.mk (i := 2) ?_))
    | (refine Br.mk (i := 2) ?_
       all_goals (refine WC.exit ?_)
       all_goals (repeat' (with_reducible first | refine thenP_x ?_ | refine blockP_miss rfl ?_ | refine blockP_hit ?_ | refine blockP_n ?_ | refine thenP_n ?_))
       all_goals (refine Br.out (i := 1000) ?_)
       skip))
  all_goals (first | (refine Br.keep ?_) | (repeat' (with_reducible first | refine thenP_n ?_ | refine blockP_n ?_)))
  all_goals (first | (refine Br.keep ?_) | (refine WC.seq ?_))
  all_goals (first | (refine Br.keep ?_) | (refine WC.block ?_))
  all_goals (first | (refine Br.keep ?_) | (refine WC.seq ?_))
  all_goals (first | (refine Br.keep ?_) | (refine WC.region ?_))
  all_goals (first
               | (refine Br.keep ?_)
               | (obtain ⟨bL, oL, hA, hbL, hat⟩ := Rd.at_ ho.rd (by omega)
                  obtain ⟨y, hy⟩ : ∃ y, D[k]? = some y := ⟨_, List.getElem?_eq_getElem (by omega)⟩
                  have hc : At h bL (oL + k * 4) (dC y) := At.elem dC_len hat hy))
  all_goals (first | (refine Br.keep ?_) | (refine WL.step (ok_move rfl) rfl rfl rfl ?_))
  all_goals (first | (refine Br.keep ?_) | (refine WL.step (ok_nilCheck rfl) rfl rfl rfl ?_))
  all_goals (first | (refine Br.keep ?_) | (refine WL.step (ok_fieldAddr rfl Try.underlying54 rfl (fun w => Try.sizeOf52 w)) rfl rfl rfl ?_))
  all_goals (first | (refine Br.keep ?_) | (refine WL.step (ok_load (fun w => Try.isAgg52 w) rfl (by first | exact cell_blk hB0 rfl | assumption | exact cell_blk (by assumption) rfl)) rfl rfl rfl ?_))
  all_goals (first | (refine Br.keep ?_) | (refine WL.step (ok_move rfl) rfl rfl rfl ?_))
  all_goals (first | (refine Br.keep ?_) | (refine WL.step (ok_idxAddrA Try.underlying52 (fun w => Try.sizeOf88 w) rfl rfl rfl (by omega) (by first | rfl | assumption)) rfl rfl rfl ?_))
  all_goals (first | (refine Br.keep ?_) | (refine WL.step (ok_fieldAddr rfl Try.underlying88 rfl (fun w => Try.sizeOf3 w)) rfl rfl rfl ?_))
  all_goals (first | (refine Br.keep ?_) | (refine WL.step (ok_load (fun w => Try.isAgg3 w) rfl (by first | exact hc.get 0 rfl rfl | assumption | exact cell_blk (by assumption) rfl)) rfl rfl rfl ?_))
  all_goals (first | (refine Br.keep ?_) | (refine WL.step (ok_move rfl) rfl rfl rfl ?_))
  all_goals (first | (refine Br.keep ?_) | (first | (refine WL.step (OkP.bool_t (by omega) (ok_eql rfl rfl)) rfl rfl rfl ?_) | (refine WL.step (OkP.bool_f (by omega) (ok_eql rfl rfl)) rfl rfl rfl ?_) | (refine WL.step (ok_eql rfl rfl) rfl rfl rfl ?_)))
  all_goals (first | (refine Br.keep ?_) | (refine WL.nil ?_))
  all_goals (first | (refine Br.keep ?_) | (repeat' (with_reducible first | refine thenP_n ?_ | refine blockP_n ?_)))
  all_goals (first | (refine Br.keep ?_) | (refine WC.sub [(0, _), (1, _), (5, _), (24, _)] ⟨rfl, rfl, rfl, rfl, trivial⟩ ?_))
  all_goals (first | (refine Br.keep ?_) | (first | refine WC.condB_t 3 rfl ?_ | refine WC.condB_f 4 rfl ?_ | (refine WC.condB 3 4 rfl (fun hb => ?_) (fun hb => ?_) <;> (first | replace hb := of_decide_eq_true hb | replace hb := of_decide_eq_false hb | replace hb := of_decide_eq_false (nt hb) | replace hb := of_decide_eq_true (nf hb) | skip))))
  all_goals (first
    | (fail_if_success (refine Br.mk (i := 3) ?_))
    | (refine Br.mk (i := 3) ?_
       all_goals (refine WC.seq ?_)
       all_goals (refine WC.region ?_)
       all_goals (refine WL.step (ok_move rfl) rfl rfl rfl ?_)
       all_goals (refine WL.step (ok_assign rfl) rfl rfl rfl ?_)
       all_goals (refine WL.nil ?_)
       all_goals (repeat' (with_reducible first | refine thenP_n ?_ | refine blockP_n ?_))
       all_goals (refine WC.sub [(4, _)] ⟨rfl, trivial⟩ ?_)
       all_goals (refine WC.ret ?_)
       all_goals (repeat' (with_reducible first | refine thenP_r ?_ | refine blockP_r ?_))
       all_goals (refine retP_1 _ ⟨rfl, trivial⟩ ?_)
       all_goals (first
                   | (have hyy := hy; exact ⟨by rw [idxOf_at (l := D.map (·.id)) (k := k) (by simp [hy, hb]) (by rw [← List.map_take]; simp only [List.mem_map, not_exists, not_and]; exact hn)], rfl⟩)
                   | exact ⟨by rw [idx_no (by rw [List.take_of_length_le (by omega)] at hn; exact hn)], rfl⟩)
       skip))
  all_goals (first
    | (fail_if_success (refine Br.mk (i := 4) ?_))
    | (refine Br.mk (i := 4) ?_
       all_goals (refine WC.skip ?_)
       skip))
  all_goals (first | (refine Br.keep ?_) | (repeat' (with_reducible first | refine thenP_n ?_ | refine blockP_n ?_)))
  all_goals (first | (refine Br.keep ?_) | (refine WC.region ?_))
  all_goals (first | (refine Br.keep ?_) | (refine WL.step (ok_move rfl) rfl rfl rfl ?_))
  all_goals (first | (refine Br.keep ?_) | (first | (refine WL.step (ok_addI rfl rfl (by omega)) rfl rfl rfl ?_) | (refine WL.step (ok_add rfl rfl) rfl rfl rfl ?_)))
  all_goals (first | (refine Br.keep ?_) | (refine WL.step (ok_assign rfl) rfl rfl rfl ?_))
  all_goals (first | (refine Br.keep ?_) | (refine WL.nil ?_))
  all_goals (first | (refine Br.keep ?_) | (repeat' (with_reducible first | refine thenP_n ?_ | refine blockP_n ?_)))
  all_goals (first | (refine Br.keep ?_) | (exact ⟨k + 1, ⟨rfl, rfl, rfl, trivial⟩, (by exact ⟨rfl, by omega, fun p hp => by rw [List.take_add_one, hy] at hp; rcases List.mem_append.1 hp with hp | hp; exact hn p hp; simp at hp; subst hp; omega⟩), (by omega)⟩))
  all_goals (try (refine Br.mk (i := 1000) ?_))
  all_goals (repeat' (with_reducible first | refine thenP_n ?_ | refine blockP_n ?_))
  all_goals (refine WC.sub [] trivial ?_)
  all_goals (refine WC.seq ?_)
  all_goals (refine WC.region ?_)
  all_goals (refine WL.step (ok_assign rfl) rfl rfl rfl ?_)
  all_goals (refine WL.nil ?_)
  all_goals (repeat' (with_reducible first | refine thenP_n ?_ | refine blockP_n ?_))
  all_goals (refine WC.ret ?_)
  all_goals (repeat' (with_reducible first | refine thenP_r ?_ | refine blockP_r ?_))
  all_goals (refine retP_1 _ ⟨rfl, trivial⟩ ?_)
  all_goals (first
              | (have hyy := hy; exact ⟨by rw [idxOf_at (l := D.map (·.id)) (k := k) (by simp [hy, hb]) (by rw [← List.map_take]; simp only [List.mem_map, not_exists, not_and]; exact hn)], rfl⟩)
              | exact ⟨by rw [idx_no (by rw [List.take_of_length_le (by omega)] at hn; exact hn)], rfl⟩)
set_option maxRecDepth 100000 in
theorem refs14 (r : R14 B h bt v last (D1 ++ d :: D2)) (hd : ∀ x ∈ D1, x.id ≠ d.id) : CallsH Try.prog 35 ⟨[ptE bt, In d.id]⟩ h fun u h' => u = In d.rf ∧ h' = h := by
  have kp := place14 r d.id
  rw [idx_mid hd] at kp
  have hB0 := r.blk
  have ho := r.own
  have hos := ho.slice
  obtain ⟨A, c, rfl, _⟩ := hos
  have hlt : D1.length < (D1 ++ d :: D2).length := by simp
  obtain ⟨bL, oL, hA, hbL, hat⟩ := Rd.at_ ho.rd (by omega)
  have hc : At h bL (oL + D1.length * 4) (dC d) := At.elem dC_len hat at_mid
  unfold ptE at *
  refine calls [(0, _), (1, _)] Try.func35 rfl Try.ntmps35 rfl ⟨rfl, rfl, trivial⟩ ?_
  all_goals (refine WC.seq ?_)
  all_goals (refine WC.region ?_)
  all_goals (refine WL.step (ok_assign rfl) rfl rfl rfl ?_)
  all_goals (refine WL.nil ?_)
  all_goals (repeat' (with_reducible first | refine thenP_n ?_ | refine blockP_n ?_))
  all_goals (refine WC.seq ?_)
  all_goals (refine WC.region ?_)
  all_goals (refine WL.step (ok_move rfl) rfl rfl rfl ?_)
  all_goals (refine WL.step (ok_move rfl) rfl rfl rfl ?_)
  all_goals (refine WL.call (vs := [_, _]) rfl (fun a w => Try.call47 a w) rfl (kp) rfl rfl rfl ?_
             rintro _ hz ⟨rfl, _⟩
             subst hz)
  all_goals (refine WL.step (ok_assign rfl) rfl rfl rfl ?_)
  all_goals (refine WL.nil ?_)
  all_goals (repeat' (with_reducible first | refine thenP_n ?_ | refine blockP_n ?_))
  all_goals (refine WC.sub [(0, _), (5, _)] ⟨rfl, rfl, trivial⟩ ?_)
  all_goals (refine WC.seq ?_)
  all_goals (refine WC.seq ?_)
  all_goals (refine WC.region ?_)
  all_goals (refine WL.step (ok_move rfl) rfl rfl rfl ?_)
  all_goals (first | (refine WL.step (OkP.bool_t (by omega) (ok_lss rfl rfl)) rfl rfl rfl ?_) | (refine WL.step (OkP.bool_f (by omega) (ok_lss rfl rfl)) rfl rfl rfl ?_) | (refine WL.step (ok_lss rfl rfl) rfl rfl rfl ?_))
  all_goals (refine WL.nil ?_)
  all_goals (repeat' (with_reducible first | refine thenP_n ?_ | refine blockP_n ?_))
  all_goals (first | refine WC.condB_t 1 rfl ?_ | refine WC.condB_f 2 rfl ?_ | (refine WC.condB 1 2 rfl (fun hb => ?_) (fun hb => ?_) <;> (first | replace hb := of_decide_eq_true hb | replace hb := of_decide_eq_false hb | replace hb := of_decide_eq_false (nt hb) | replace hb := of_decide_eq_true (nf hb) | skip)))
  all_goals (first
    | (fail_if_success (refine Br.mk (i := 1) ?_))
    | (refine Br.mk (i := 1) ?_
       all_goals (refine WC.seq ?_)
       all_goals (refine WC.region ?_)
       all_goals (refine WL.step (ok_assign rfl) rfl rfl rfl ?_)
       all_goals (refine WL.nil ?_)
       all_goals (repeat' (with_reducible first | refine thenP_n ?_ | refine blockP_n ?_))
       all_goals (refine WC.sub [(4, _)] ⟨rfl, trivial⟩ ?_)
       all_goals (refine WC.ret ?_)
       all_goals (repeat' (with_reducible first | refine thenP_r ?_ | refine blockP_r ?_))
       all_goals (refine retP_1 _ ⟨rfl, trivial⟩ ?_)
       all_goals (exact ⟨rfl, rfl⟩)
       skip))
  all_goals (first
    | (fail_if_success (refine Br.mk (i := 2) ?_))
    | (refine Br.mk (i := 2) ?_
       all_goals (refine WC.skip ?_)
       skip))
  all_goals (repeat' (with_reducible first | refine thenP_n ?_ | refine blockP_n ?_))
  all_goals (refine WC.seq ?_)
  all_goals (refine WC.region ?_)
  all_goals (refine WL.step (ok_move rfl) rfl rfl rfl ?_)
  all_goals (refine WL.step (ok_nilCheck rfl) rfl rfl rfl ?_)
  all_goals (refine WL.step (ok_fieldAddr rfl Try.underlying54 rfl (fun w => Try.sizeOf52 w)) rfl rfl rfl ?_)
  all_goals (refine WL.step (ok_load (fun w => Try.isAgg52 w) rfl (by first | exact cell_blk hB0 rfl | assumption | exact cell_blk (by assumption) rfl)) rfl rfl rfl ?_)
  all_goals (refine WL.step (ok_move rfl) rfl rfl rfl ?_)
  all_goals (refine WL.step (ok_idxAddrA Try.underlying52 (fun w => Try.sizeOf88 w) rfl rfl rfl (by omega) (by first | rfl | assumption)) rfl rfl rfl ?_)
  all_goals (refine WL.step (ok_fieldAddr rfl Try.underlying88 rfl (fun w => Try.sizeOf3 w)) rfl rfl rfl ?_)
  all_goals (refine WL.step (ok_load (fun w => Try.isAgg3 w) rfl (by first | exact hc.get 1 rfl rfl | assumption | exact cell_blk (by assumption) rfl)) rfl rfl rfl ?_)
  all_goals (refine WL.step (ok_assign rfl) rfl rfl rfl ?_)
  all_goals (refine WL.nil ?_)
  all_goals (repeat' (with_reducible first | refine thenP_n ?_ | refine blockP_n ?_))
  all_goals (refine WC.sub [(4, _)] ⟨rfl, trivial⟩ ?_)
  all_goals (refine WC.ret ?_)
  all_goals (repeat' (with_reducible first | refine thenP_r ?_ | refine blockP_r ?_))
  all_goals (refine retP_1 _ ⟨rfl, trivial⟩ ?_)
  all_goals (exact ⟨rfl, rfl⟩)
set_option maxRecDepth 100000 in
theorem refs14_no (r : R14 B h bt v last D) {id : Int} (hd : ∀ x ∈ D, x.id ≠ id) : CallsH Try.prog 35 ⟨[ptE bt, In id]⟩ h fun u h' => u = In 0 ∧ h' = h := by
  have kp := place14 r id
  rw [idx_no hd] at kp
  unfold ptE at *
  refine calls [(0, _), (1, _)] Try.func35 rfl Try.ntmps35 rfl ⟨rfl, rfl, trivial⟩ ?_
  all_goals (refine WC.seq ?_)
  all_goals (refine WC.region ?_)
  all_goals (refine WL.step (ok_assign rfl) rfl rfl rfl ?_)
  all_goals (refine WL.nil ?_)
  all_goals (repeat' (with_reducible first | refine thenP_n ?_ | refine blockP_n ?_))
  all_goals (refine WC.seq ?_)
  all_goals (refine WC.region ?_)
  all_goals (refine WL.step (ok_move rfl) rfl rfl rfl ?_)
  all_goals (refine WL.step (ok_move rfl) rfl rfl rfl ?_)
  all_goals (refine WL.call (vs := [_, _]) rfl (fun a w => Try.call47 a w) rfl (kp) rfl rfl rfl ?_
             rintro _ hz ⟨rfl, _⟩
             subst hz)
  all_goals (refine WL.step (ok_assign rfl) rfl rfl rfl ?_)
  all_goals (refine WL.nil ?_)
  all_goals (repeat' (with_reducible first | refine thenP_n ?_ | refine blockP_n ?_))
  all_goals (refine WC.sub [(0, _), (5, _)] ⟨rfl, rfl, trivial⟩ ?_)
  all_goals (refine WC.seq ?_)
  all_goals (refine WC.seq ?_)
  all_goals (refine WC.region ?_)
  all_goals (refine WL.step (ok_move rfl) rfl rfl rfl ?_)
  all_goals (first | (refine WL.step (OkP.bool_t (by omega) (ok_lss rfl rfl)) rfl rfl rfl ?_) | (refine WL.step (OkP.bool_f (by omega) (ok_lss rfl rfl)) rfl rfl rfl ?_) | (refine WL.step (ok_lss rfl rfl) rfl rfl rfl ?_))
  all_goals (refine WL.nil ?_)
  all_goals (repeat' (with_reducible first | refine thenP_n ?_ | refine blockP_n ?_))
  all_goals (first | refine WC.condB_t 1 rfl ?_ | refine WC.condB_f 2 rfl ?_ | (refine WC.condB 1 2 rfl (fun hb => ?_) (fun hb => ?_) <;> (first | replace hb := of_decide_eq_true hb | replace hb := of_decide_eq_false hb | replace hb := of_decide_eq_false (nt hb) | replace hb := of_decide_eq_true (nf hb) | skip)))
  all_goals (first
    | (fail_if_success (refine Br.mk (i := 1) ?_))
    | (refine Br.mk (i := 1) ?_
       all_goals (refine WC.seq ?_)
       all_goals (refine WC.region ?_)
       all_goals (refine WL.step (ok_assign rfl) rfl rfl rfl ?_)
       all_goals (refine WL.nil ?_)
       all_goals (repeat' (with_reducible first | refine thenP_n ?_ | refine blockP_n ?_))
       all_goals (refine WC.sub [(4, _)] ⟨rfl, trivial⟩ ?_)
       all_goals (refine WC.ret ?_)
       all_goals (repeat' (with_reducible first | refine thenP_r ?_ | refine blockP_r ?_))
       all_goals (refine retP_1 _ ⟨rfl, trivial⟩ ?_)
       all_goals (exact ⟨rfl, rfl⟩)
       skip))
  all_goals (first
    | (fail_if_success (refine Br.mk (i := 2) ?_))
    | (refine Br.mk (i := 2) ?_
       all_goals (refine WC.skip ?_)
       skip))
  all_goals (repeat' (with_reducible first | refine thenP_n ?_ | refine blockP_n ?_))
  all_goals (refine WC.seq ?_)
  all_goals (refine WC.region ?_)
  all_goals (refine WL.step (ok_move rfl) rfl rfl rfl ?_)
  all_goals (refine WL.step (ok_nilCheck rfl) rfl rfl rfl ?_)
  all_goals (refine WL.step (ok_fieldAddr rfl Try.underlying54 rfl (fun w => Try.sizeOf52 w)) rfl rfl rfl ?_)
  all_goals (refine WL.step (ok_load (fun w => Try.isAgg52 w) rfl (by first | assumption | exact cell_blk (by assumption) rfl)) rfl rfl rfl ?_)
  all_goals (refine WL.step (ok_move rfl) rfl rfl rfl ?_)
  all_goals (refine WL.step (ok_idxAddrA Try.underlying52 (fun w => Try.sizeOf88 w) rfl rfl rfl (by omega) (by first | rfl | assumption)) rfl rfl rfl ?_)
  all_goals (refine WL.step (ok_fieldAddr rfl Try.underlying88 rfl (fun w => Try.sizeOf3 w)) rfl rfl rfl ?_)
  all_goals (refine WL.step (ok_load (fun w => Try.isAgg3 w) rfl (by first | assumption | exact cell_blk (by assumption) rfl)) rfl rfl rfl ?_)
  all_goals (refine WL.step (ok_assign rfl) rfl rfl rfl ?_)
  all_goals (refine WL.nil ?_)
  all_goals (repeat' (with_reducible first | refine thenP_n ?_ | refine blockP_n ?_))
  all_goals (refine WC.sub [(4, _)] ⟨rfl, trivial⟩ ?_)
  all_goals (refine WC.ret ?_)
  all_goals (repeat' (with_reducible first | refine thenP_r ?_ | refine blockP_r ?_))
  all_goals (refine retP_1 _ ⟨rfl, trivial⟩ ?_)
  all_goals (exact ⟨rfl, rfl⟩)
set_option maxRecDepth 100000 in
theorem get14 (r : R14 B h bt v last (D1 ++ d :: D2)) (hd : ∀ x ∈ D1, x.id ≠ d.id) : CallsH Try.prog 30 ⟨[ptE bt, In d.id]⟩ h fun u h' => u = .tuple ⟨[.agg ⟨[St d.t, d.v]⟩, .bool true]⟩ ∧ Ext No h h' := by
  have kp := fun h' (hx : Ext No h h') => place14 (r.ext0 hx) d.id
  rw [idx_mid hd] at kp
  have hB0 := r.blk
  have ho := r.own
  have hos := ho.slice
  obtain ⟨A, c, rfl, _⟩ := hos
  have hlt : D1.length < (D1 ++ d :: D2).length := by simp
  obtain ⟨bL, oL, hA, hbL, hat⟩ := Rd.at_ ho.rd (by omega)
  have hc : At h bL (oL + D1.length * 4) (dC d) := At.elem dC_len hat at_mid
  obtain ⟨Av, cv, hv, _⟩ := (r.oid d (by simp)).slice
  unfold dC at hc
  rw [hv] at hc ⊢
  unfold ptE at *
  refine calls [(0, _), (1, _)] Try.func30 rfl Try.ntmps30 rfl ⟨rfl, rfl, trivial⟩ ?_
  all_goals (refine WC.seq ?_)
  all_goals (refine WC.region ?_)
  all_goals (refine WL.stepR (okE_alloc (fun w => Try.zeroValue57 w)) rfl rfl rfl ?_
             rintro _ h1 ⟨b1, rfl, hg1, hb1, hx1⟩)
  all_goals (refine WL.step (ok_assign rfl) rfl rfl rfl ?_)
  all_goals (refine WL.nil ?_)
  all_goals (repeat' (with_reducible first | refine thenP_n ?_ | refine blockP_n ?_))
  all_goals (refine WC.seq ?_)
  all_goals (refine WC.region ?_)
  all_goals (refine WL.step (ok_move rfl) rfl rfl rfl ?_)
  all_goals (refine WL.step (ok_move rfl) rfl rfl rfl ?_)
  all_goals (refine WL.call (vs := [_, _]) rfl (fun a w => Try.call47 a w) rfl (kp _ hx1) rfl rfl rfl ?_
             rintro _ hz ⟨rfl, _⟩
             subst hz)
  all_goals (refine WL.step (ok_assign rfl) rfl rfl rfl ?_)
  all_goals (refine WL.nil ?_)
  all_goals (repeat' (with_reducible first | refine thenP_n ?_ | refine blockP_n ?_))
  all_goals (refine WC.sub [(0, _), (4, _), (6, _)] ⟨rfl, rfl, rfl, trivial⟩ ?_)
  all_goals (refine WC.seq ?_)
  all_goals (refine WC.seq ?_)
  all_goals (refine WC.region ?_)
  all_goals (refine WL.step (ok_move rfl) rfl rfl rfl ?_)
  all_goals (first | (refine WL.step (OkP.bool_t (by omega) (ok_lss rfl rfl)) rfl rfl rfl ?_) | (refine WL.step (OkP.bool_f (by omega) (ok_lss rfl rfl)) rfl rfl rfl ?_) | (refine WL.step (ok_lss rfl rfl) rfl rfl rfl ?_))
  all_goals (refine WL.nil ?_)
  all_goals (repeat' (with_reducible first | refine thenP_n ?_ | refine blockP_n ?_))
  all_goals (first | refine WC.condB_t 1 rfl ?_ | refine WC.condB_f 2 rfl ?_ | (refine WC.condB 1 2 rfl (fun hb => ?_) (fun hb => ?_) <;> (first | replace hb := of_decide_eq_true hb | replace hb := of_decide_eq_false hb | replace hb := of_decide_eq_false (nt hb) | replace hb := of_decide_eq_true (nf hb) | skip)))
  all_goals (first
    | (fail_if_success (refine Br.mk (i := 1) ?_))
    | (refine Br.mk (i := 1) ?_
       all_goals (refine WC.seq ?_)
       all_goals (refine WC.region ?_)
       all_goals (refine WL.step (ok_buildF (vs := []) (cs := [_, _]) (fun | [] => [(St []), (.slice none 0 0)] | _ => []) rfl rfl (by kernel_rfl)) rfl rfl rfl ?_)
       all_goals (refine WL.stepR0 (okE_storeW (fun w => Try.sizeOf57 w) rfl rfl rfl (by assumption) rfl (by simp [Value.oneCell'])) rfl rfl ?_
                  rintro _ h1 ⟨hb1, hx1⟩)
       all_goals (refine WL.step (ok_assign rfl) rfl rfl rfl ?_)
       all_goals (refine WL.nil ?_)
       all_goals (repeat' (with_reducible first | refine thenP_n ?_ | refine blockP_n ?_))
       all_goals (refine WC.sub [(4, _), (5, _)] ⟨rfl, rfl, trivial⟩ ?_)
       all_goals (refine WC.ret ?_)
       all_goals (repeat' (with_reducible first | refine thenP_r ?_ | refine blockP_r ?_))
       all_goals (refine retP_2 _ _ ⟨⟨_, rfl, ld_blk (fun w => Try.isAgg57 w) (fun w => Try.sizeOf57 w) hb3 rfl⟩, rfl, trivial⟩ ?_)
       all_goals (exact ⟨rfl, hx1.trans' hx3 (fun q hq e => by omega)⟩)
       skip))
  all_goals (first
    | (fail_if_success (refine Br.mk (i := 2) ?_))
    | (refine Br.mk (i := 2) ?_
       all_goals (refine WC.skip ?_)
       skip))
  all_goals (repeat' (with_reducible first | refine thenP_n ?_ | refine blockP_n ?_))
  all_goals (refine WC.seq ?_)
  all_goals (refine WC.region ?_)
  all_goals (refine WL.step (ok_move rfl) rfl rfl rfl ?_)
  all_goals (refine WL.step (ok_nilCheck rfl) rfl rfl rfl ?_)
  all_goals (refine WL.step (ok_fieldAddr rfl Try.underlying54 rfl (fun w => Try.sizeOf52 w)) rfl rfl rfl ?_)
  all_goals (refine WL.step (ok_load (fun w => Try.isAgg52 w) rfl (by first | exact cell_blk (hx1.obj hB0 nos) rfl | assumption | exact cell_blk (by assumption) rfl)) rfl rfl rfl ?_)
  all_goals (refine WL.step (ok_move rfl) rfl rfl rfl ?_)
  all_goals (refine WL.step (ok_idxAddrA Try.underlying52 (fun w => Try.sizeOf88 w) rfl rfl rfl (by omega) (by first | rfl | assumption)) rfl rfl rfl ?_)
  all_goals (refine WL.step (ok_fieldAddr rfl Try.underlying88 rfl (fun w => Try.sizeOf57 w)) rfl rfl rfl ?_)
  all_goals (refine WL.step (ok_loadN (fun w => Try.isAgg57 w) (fun w => Try.sizeOf57 w) rfl rfl (by exact show At _ _ _ [St d.t, .slice Av d.o.length cv] from (hc.drop 2).ext hx1 nos)) rfl rfl rfl ?_)
  all_goals (refine WL.stepR0 (okE_storeW (fun w => Try.sizeOf57 w) rfl rfl rfl hb1 rfl (by simp [Value.oneCell'])) rfl rfl ?_
             rintro _ h3 ⟨hb3, hx3⟩)
  all_goals (refine WL.step (ok_assign rfl) rfl rfl rfl ?_)
  all_goals (refine WL.nil ?_)
  all_goals (repeat' (with_reducible first | refine thenP_n ?_ | refine blockP_n ?_))
  all_goals (refine WC.sub [(4, _), (5, _)] ⟨rfl, rfl, trivial⟩ ?_)
  all_goals (refine WC.ret ?_)
  all_goals (repeat' (with_reducible first | refine thenP_r ?_ | refine blockP_r ?_))
  all_goals (refine retP_2 _ _ ⟨⟨_, rfl, ld_blk (fun w => Try.isAgg57 w) (fun w => Try.sizeOf57 w) hb3 rfl⟩, rfl, trivial⟩ ?_)
  all_goals (exact ⟨rfl, hx1.trans' hx3 (fun q hq e => by omega)⟩)
set_option maxRecDepth 100000 in
theorem get14_no (r : R14 B h bt v last D) {id : Int} (hd : ∀ x ∈ D, x.id ≠ id) : CallsH Try.prog 30 ⟨[ptE bt, In id]⟩ h fun u h' => u = .tuple ⟨[.agg ⟨[St [], .slice none 0 0]⟩, .bool false]⟩ ∧ Ext No h h' := by
  have kp := fun h' (hx : Ext No h h') => place14 (r.ext0 hx) id
  rw [idx_no hd] at kp
  unfold ptE at *
  refine calls [(0, _), (1, _)] Try.func30 rfl Try.ntmps30 rfl ⟨rfl, rfl, trivial⟩ ?_
  all_goals (refine WC.seq ?_)
  all_goals (refine WC.region ?_)
  all_goals (refine WL.stepR (okE_alloc (fun w => Try.zeroValue57 w)) rfl rfl rfl ?_
             rintro _ h1 ⟨b1, rfl, hg1, hb1, hx1⟩)
  all_goals (refine WL.step (ok_assign rfl) rfl rfl rfl ?_)
  all_goals (refine WL.nil ?_)
  all_goals (repeat' (with_reducible first | refine thenP_n ?_ | refine blockP_n ?_))
  all_goals (refine WC.seq ?_)
  all_goals (refine WC.region ?_)
  all_goals (refine WL.step (ok_move rfl) rfl rfl rfl ?_)
  all_goals (refine WL.step (ok_move rfl) rfl rfl rfl ?_)
  all_goals (refine WL.call (vs := [_, _]) rfl (fun a w => Try.call47 a w) rfl (kp _ hx1) rfl rfl rfl ?_
             rintro _ hz ⟨rfl, _⟩
             subst hz)
  all_goals (refine WL.step (ok_assign rfl) rfl rfl rfl ?_)
  all_goals (refine WL.nil ?_)
  all_goals (repeat' (with_reducible first | refine thenP_n ?_ | refine blockP_n ?_))
  all_goals (refine WC.sub [(0, _), (4, _), (6, _)] ⟨rfl, rfl, rfl, trivial⟩ ?_)
  all_goals (refine WC.seq ?_)
  all_goals (refine WC.seq ?_)
  all_goals (refine WC.region ?_)
  all_goals (refine WL.step (ok_move rfl) rfl rfl rfl ?_)
  all_goals (first | (refine WL.step (OkP.bool_t (by omega) (ok_lss rfl rfl)) rfl rfl rfl ?_) | (refine WL.step (OkP.bool_f (by omega) (ok_lss rfl rfl)) rfl rfl rfl ?_) | (refine WL.step (ok_lss rfl rfl) rfl rfl rfl ?_))
  all_goals (refine WL.nil ?_)
  all_goals (repeat' (with_reducible first | refine thenP_n ?_ | refine blockP_n ?_))
  all_goals (first | refine WC.condB_t 1 rfl ?_ | refine WC.condB_f 2 rfl ?_ | (refine WC.condB 1 2 rfl (fun hb => ?_) (fun hb => ?_) <;> (first | replace hb := of_decide_eq_true hb | replace hb := of_decide_eq_false hb | replace hb := of_decide_eq_false (nt hb) | replace hb := of_decide_eq_true (nf hb) | skip)))
  all_goals (first
    | (fail_if_success (refine Br.mk (i := 1) ?_))
    | (refine Br.mk (i := 1) ?_
       all_goals (refine WC.seq ?_)
       all_goals (refine WC.region ?_)
       all_goals (refine WL.step (ok_buildF (vs := []) (cs := [_, _]) (fun | [] => [(St []), (.slice none 0 0)] | _ => []) rfl rfl (by kernel_rfl)) rfl rfl rfl ?_)
       all_goals (refine WL.stepR0 (okE_storeW (fun w => Try.sizeOf57 w) rfl rfl rfl hb1 rfl (by simp [Value.oneCell'])) rfl rfl ?_
                  rintro _ h3 ⟨hb3, hx3⟩)
       all_goals (refine WL.step (ok_assign rfl) rfl rfl rfl ?_)
       all_goals (refine WL.nil ?_)
       all_goals (repeat' (with_reducible first | refine thenP_n ?_ | refine blockP_n ?_))
       all_goals (refine WC.sub [(4, _), (5, _)] ⟨rfl, rfl, trivial⟩ ?_)
       all_goals (refine WC.ret ?_)
       all_goals (repeat' (with_reducible first | refine thenP_r ?_ | refine blockP_r ?_))
       all_goals (refine retP_2 _ _ ⟨⟨_, rfl, ld_blk (fun w => Try.isAgg57 w) (fun w => Try.sizeOf57 w) hb3 rfl⟩, rfl, trivial⟩ ?_)
       all_goals (exact ⟨rfl, hx1.trans' hx3 (fun q hq e => by omega)⟩)
       skip))
  all_goals (first
    | (fail_if_success (refine Br.mk (i := 2) ?_))
    | (refine Br.mk (i := 2) ?_
       all_goals (refine WC.skip ?_)
       skip))
  all_goals (repeat' (with_reducible first | refine thenP_n ?_ | refine blockP_n ?_))
  all_goals (refine WC.seq ?_)
  all_goals (refine WC.region ?_)
  all_goals (refine WL.step (ok_move rfl) rfl rfl rfl ?_)
  all_goals (refine WL.step (ok_nilCheck rfl) rfl rfl rfl ?_)
  all_goals (refine WL.step (ok_fieldAddr rfl Try.underlying54 rfl (fun w => Try.sizeOf52 w)) rfl rfl rfl ?_)
  all_goals (refine WL.step (ok_load (fun w => Try.isAgg52 w) rfl (by first | assumption | exact cell_blk (by assumption) rfl)) rfl rfl rfl ?_)
  all_goals (refine WL.step (ok_move rfl) rfl rfl rfl ?_)
  all_goals (refine WL.step (ok_idxAddrA Try.underlying52 (fun w => Try.sizeOf88 w) rfl rfl rfl (by omega) (by first | rfl | assumption)) rfl rfl rfl ?_)
  all_goals (refine WL.step (ok_fieldAddr rfl Try.underlying88 rfl (fun w => Try.sizeOf57 w)) rfl rfl rfl ?_)
  all_goals (refine WL.step (ok_loadN (fun w => Try.isAgg57 w) (fun w => Try.sizeOf57 w) rfl rfl (by assumption)) rfl rfl rfl ?_)
  all_goals (refine WL.stepR0 (okE_storeW (fun w => Try.sizeOf57 w) rfl rfl rfl (by assumption) rfl (by simp [Value.oneCell'])) rfl rfl ?_
             rintro _ h1 ⟨hb1, hx1⟩)
  all_goals (refine WL.step (ok_assign rfl) rfl rfl rfl ?_)
  all_goals (refine WL.nil ?_)
  all_goals (repeat' (with_reducible first | refine thenP_n ?_ | refine blockP_n ?_))
  all_goals (refine WC.sub [(4, _), (5, _)] ⟨rfl, rfl, trivial⟩ ?_)
  all_goals (refine WC.ret ?_)
  all_goals (repeat' (with_reducible first | refine thenP_r ?_ | refine blockP_r ?_))
  all_goals (refine retP_2 _ _ ⟨⟨_, rfl, ld_blk (fun w => Try.isAgg57 w) (fun w => Try.sizeOf57 w) hb3 rfl⟩, rfl, trivial⟩ ?_)
  all_goals (exact ⟨rfl, hx1.trans' hx3 (fun q hq e => by omega)⟩)
set_option maxRecDepth 100000 in
theorem find14 (r : R14 B h bt v last D) (s : Stm) (ok : stOk h s) : CallsH Try.prog 32 ⟨[ptE bt, .agg ⟨stC s⟩]⟩ h fun u h' => (∃ x b, u = .tuple ⟨[In x, .bool b]⟩ ∧ ((b = true ∧ ∃ y ∈ D, (y.t = s.1 ∧ y.o = s.2.2) ∧ x = y.id) ∨ (b = false ∧ x = 0 ∧ ∀ y ∈ D, ¬ (y.t = s.1 ∧ y.o = s.2.2)))) ∧ Ext No h h' := by
  obtain ⟨t, vs, o⟩ := s
  have hl := r.bd.1
  have hB0 := r.blk
  have ho := r.own
  have hs := ok.1
  have hsl := ok.le
  have hos := ho.slice
  obtain ⟨A, c, rfl, _⟩ := hos
  dsimp only at hs hsl
  unfold ptE stC
  dsimp only
  refine calls [(0, _), (1, _)] Try.func32 rfl Try.ntmps32 rfl ⟨rfl, rfl, trivial⟩ ?_
  all_goals (refine WC.seq ?_)
  all_goals (refine WC.region ?_)
  all_goals (refine WL.stepR (okE_box rfl) rfl rfl rfl ?_
             rintro _ h1 ⟨b1, rfl, hg1, hb1, hx1⟩)
  all_goals (refine WL.step (ok_assign rfl) rfl rfl rfl ?_)
  all_goals (refine WL.step (ok_assign rfl) rfl rfl rfl ?_)
  all_goals (refine WL.nil ?_)
  all_goals (repeat' (with_reducible first | refine thenP_n ?_ | refine blockP_n ?_))
  all_goals (refine WC.seq ?_)
  all_goals (refine WC.seq ?_)
  all_goals (refine WC.region ?_)
  all_goals (refine WL.step (ok_assign rfl) rfl rfl rfl ?_)
  all_goals (refine WL.nil ?_)
  all_goals (repeat' (with_reducible first | refine thenP_n ?_ | refine blockP_n ?_))
  all_goals (refine WC.block ?_)
  -- loop 0: slots that turn [6], that stay [0, 3]
  all_goals (refine WC.loopG (X := Nat) (fun x => ([(6, In (x : Int))] : Fr)) [(0, _), (3, _)] (fun k h' => Ext No h1 h' ∧ k ≤ D.length ∧ ∀ p ∈ D.take k, ¬ (p.t = t ∧ p.o = o)) (fun k => D.length - k) (0) ⟨rfl, rfl, rfl, trivial⟩ (by exact ⟨.refl _ _, Nat.zero_le _, by simp⟩) ?_)
  all_goals (rintro k h2 ⟨hx2, hk, hn⟩
             have hX2 := hx1.trans hx2
             have hb12 := hx2.obj hb1 nos)
  all_goals (refine WC.sub [(6, _), (0, _), (3, _)] ⟨rfl, rfl, rfl, trivial⟩ ?_)
  all_goals (refine WC.seq ?_)
  all_goals (refine WC.seq ?_)
  all_goals (refine WC.region ?_)
  all_goals (refine WL.step (ok_move rfl) rfl rfl rfl ?_)
  all_goals (refine WL.step (ok_move rfl) rfl rfl rfl ?_)
  all_goals (refine WL.step (ok_nilCheck rfl) rfl rfl rfl ?_)
  all_goals (refine WL.step (ok_fieldAddr rfl Try.underlying54 rfl (fun w => Try.sizeOf52 w)) rfl rfl rfl ?_)
  all_goals (refine WL.step (ok_load (fun w => Try.isAgg52 w) rfl (by first | exact cell_blk (hX2.obj hB0 nos) rfl | assumption | exact cell_blk (by assumption) rfl)) rfl rfl rfl ?_)
  all_goals (refine WL.step (ok_lenL rfl Try.underlying52 rfl) rfl rfl rfl ?_)
  all_goals (first | (refine WL.step (OkP.bool_t (by omega) (ok_lss rfl rfl)) rfl rfl rfl ?_) | (refine WL.step (OkP.bool_f (by omega) (ok_lss rfl rfl)) rfl rfl rfl ?_) | (refine WL.step (ok_lss rfl rfl) rfl rfl rfl ?_))
  all_goals (refine WL.nil ?_)
  all_goals (repeat' (with_reducible first | refine thenP_n ?_ | refine blockP_n ?_))
  all_goals (refine WC.sub [(0, _), (3, _), (6, _), (13, _)] ⟨rfl, rfl, rfl, rfl, trivial⟩ ?_)
  all_goals (first | refine WC.condB_t 1 rfl ?_ | refine WC.condB_f 2 rfl ?_ | (refine WC.condB 1 2 rfl (fun hb => ?_) (fun hb => ?_) <;> (first | replace hb := of_decide_eq_true hb | replace hb := of_decide_eq_false hb | replace hb := of_decide_eq_false (nt hb) | replace hb := of_decide_eq_true (nf hb) | skip)))
  all_goals (first
    | (fail_if_success (refine Br.mk (i := 1) ?_))
    | (refine Br.mk (i := 1) ?_
       all_goals (refine WC.skip ?_)
       skip))
  all_goals (first
    | (fail_if_success (refine Br.mk (i := 2) ?_))
    | (refine Br.mk (i := 2) ?_
       all_goals (refine WC.exit ?_)
       all_goals (repeat' (with_reducible first | refine thenP_x ?_ | refine blockP_miss rfl ?_ | refine blockP_hit ?_ | refine blockP_n ?_ | refine thenP_n ?_))
       all_goals (refine Br.out (i := 1000) ?_)
       skip))
  all_goals (first | (refine Br.keep ?_) | (repeat' (with_reducible first | refine thenP_n ?_ | refine blockP_n ?_)))
  all_goals (first | (refine Br.keep ?_) | (refine WC.seq ?_))
  all_goals (first | (refine Br.keep ?_) | (refine WC.block ?_))
  all_goals (first | (refine Br.keep ?_) | (refine WC.seq ?_))
  all_goals (first
               | (refine Br.keep ?_)
               | (obtain ⟨bL, oL, hA, hbL, hat⟩ := Rd.at_ ho.rd (by omega)
                  obtain ⟨y, hy⟩ : ∃ y, D[k]? = some y := ⟨_, List.getElem?_eq_getElem (by omega)⟩
                  have hc : At h2 bL (oL + k * 4) (dC y) := (At.elem dC_len hat hy).ext hX2 nos
                  have hym := List.mem_of_getElem? hy
                  have hyo := (r.bd).2 y hym
                  have hyr := (r.oid y hym).rd.ext0 hX2))
  all_goals (first | (refine Br.keep ?_) | (refine WC.drawH (fun h' => Ext No h2 h') 10 10 rfl fol ?_))
  all_goals (first | (refine Br.keep ?_) | (refine WH.take 0 rfl (by kernel_rfl) (by kernel_rfl) (by kernel_rfl) (by kernel_rfl) rfl (by first | exact Ext.refl _ _ | assumption) (fun hq hC => ok_move rfl) rfl rfl rfl ?_))
  all_goals (first | (refine Br.keep ?_) | (refine WH.take 1 rfl (by kernel_rfl) (by kernel_rfl) (by kernel_rfl) (by kernel_rfl) rfl (by first | exact Ext.refl _ _ | assumption) (fun hq hC => ok_nilCheck rfl) rfl rfl rfl ?_))
  all_goals (first | (refine Br.keep ?_) | (refine WH.take 2 rfl (by kernel_rfl) (by kernel_rfl) (by kernel_rfl) (by kernel_rfl) rfl (by first | exact Ext.refl _ _ | assumption) (fun hq hC => ok_fieldAddr rfl Try.underlying54 rfl (fun w => Try.sizeOf52 w)) rfl rfl rfl ?_))
  all_goals (first | (refine Br.keep ?_) | (refine WH.take 3 rfl (by kernel_rfl) (by kernel_rfl) (by kernel_rfl) (by kernel_rfl) rfl (by first | exact Ext.refl _ _ | assumption) (fun hq hC => ok_load (fun w => Try.isAgg52 w) rfl (by first | exact hC.cell (by first | exact cell_blk (hX2.obj hB0 nos) rfl | assumption | exact cell_blk (by assumption) rfl) nos)) rfl rfl rfl ?_))
  all_goals (first | (refine Br.keep ?_) | (refine WH.take 4 rfl (by kernel_rfl) (by kernel_rfl) (by kernel_rfl) (by kernel_rfl) rfl (by first | exact Ext.refl _ _ | assumption) (fun hq hC => ok_move rfl) rfl rfl rfl ?_))
  all_goals (first | (refine Br.keep ?_) | (refine WH.take 5 rfl (by kernel_rfl) (by kernel_rfl) (by kernel_rfl) (by kernel_rfl) rfl (by first | exact Ext.refl _ _ | assumption) (fun hq hC => ok_idxAddrA Try.underlying52 (fun w => Try.sizeOf88 w) rfl rfl rfl (by omega) (by first | rfl | assumption)) rfl rfl rfl ?_))
  all_goals (first | (refine Br.keep ?_) | (refine WH.take 6 rfl (by kernel_rfl) (by kernel_rfl) (by kernel_rfl) (by kernel_rfl) rfl (by first | exact Ext.refl _ _ | assumption) (fun hq hC => ok_fieldAddr rfl Try.underlying88 rfl (fun w => Try.sizeOf57 w)) rfl rfl rfl ?_))
  all_goals (first | (refine Br.keep ?_) | (refine WH.take 7 rfl (by kernel_rfl) (by kernel_rfl) (by kernel_rfl) (by kernel_rfl) rfl (by first | exact Ext.refl _ _ | assumption) (fun hq hC => ok_loadN (fun w => Try.isAgg57 w) (fun w => Try.sizeOf57 w) rfl rfl (by exact show At _ _ _ [St y.t, y.v] from (hc.drop 2).ext hC nos)) rfl rfl rfl ?_))
  all_goals (first | (refine Br.keep ?_) | (refine WH.take 8 rfl (by kernel_rfl) (by kernel_rfl) (by kernel_rfl) (by kernel_rfl) rfl (by first | exact Ext.refl _ _ | assumption) (fun hq hC => ok_loadN (fun w => Try.isAgg57 w) (fun w => Try.sizeOf57 w) rfl rfl (by exact At.of_block (hC.obj hb12 nos))) rfl rfl rfl ?_))
  all_goals (first | (refine Br.keep ?_) | (refine WH.one 9 (by kernel_rfl) ?_))
  all_goals (first
               | (refine Br.keep ?_)
               | (refine Comes1.call (vs := [_, _]) rfl rfl (fun a w => Try.call33 a w) rfl (same12 y.t t y.o o hyr (hs.ext0 hX2) (by unfold maxLen; omega) hsl) rfl rfl rfl ?_ (fun _ => by kernel_rfl)
                  rintro _ h3 ⟨rfl, hx3⟩))
  all_goals (first | (refine Br.keep ?_) | (refine ⟨fun _ => hx3, ?_⟩))
  all_goals (first | (refine Br.keep ?_) | (have hX3 := hx2.trans hx3))
  all_goals (first | (refine Br.keep ?_) | (refine WH.done (by kernel_rfl) ?_))
  all_goals (first | (refine Br.keep ?_) | (repeat' (with_reducible first | refine thenP_n ?_ | refine blockP_n ?_)))
  all_goals (first | (refine Br.keep ?_) | (refine WC.sub [(0, _), (3, _), (6, _), (25, _)] ⟨rfl, rfl, rfl, rfl, trivial⟩ ?_))
  all_goals (first | (refine Br.keep ?_) | (first | refine WC.condB_t 3 rfl ?_ | refine WC.condB_f 4 rfl ?_ | (refine WC.condB 3 4 rfl (fun hb => ?_) (fun hb => ?_) <;> (first | replace hb := of_decide_eq_true hb | replace hb := of_decide_eq_false hb | replace hb := of_decide_eq_false (nt hb) | replace hb := of_decide_eq_true (nf hb) | skip))))
  all_goals (first
    | (fail_if_success (refine Br.mk (i := 3) ?_))
    | (refine Br.mk (i := 3) ?_
       all_goals (refine WC.seq ?_)
       all_goals (refine WC.region ?_)
       all_goals (refine WL.step (ok_move rfl) rfl rfl rfl ?_)
       all_goals (refine WL.step (ok_nilCheck rfl) rfl rfl rfl ?_)
       all_goals (refine WL.step (ok_fieldAddr rfl Try.underlying54 rfl (fun w => Try.sizeOf52 w)) rfl rfl rfl ?_)
       all_goals (refine WL.step (ok_load (fun w => Try.isAgg52 w) rfl (by first | exact cell_blk ((hX2.trans hx3).obj hB0 nos) rfl | assumption | exact cell_blk (by assumption) rfl)) rfl rfl rfl ?_)
       all_goals (refine WL.step (ok_move rfl) rfl rfl rfl ?_)
       all_goals (refine WL.step (ok_idxAddrA Try.underlying52 (fun w => Try.sizeOf88 w) rfl rfl rfl (by omega) (by first | rfl | assumption)) rfl rfl rfl ?_)
       all_goals (refine WL.step (ok_fieldAddr rfl Try.underlying88 rfl (fun w => Try.sizeOf3 w)) rfl rfl rfl ?_)
       all_goals (refine WL.step (ok_load (fun w => Try.isAgg3 w) rfl (by first | exact (hc.ext hx3 nos).get 0 rfl rfl | assumption | exact cell_blk (by assumption) rfl)) rfl rfl rfl ?_)
       all_goals (refine WL.step (ok_assign rfl) rfl rfl rfl ?_)
       all_goals (refine WL.step (ok_assign rfl) rfl rfl rfl ?_)
       all_goals (refine WL.nil ?_)
       all_goals (repeat' (with_reducible first | refine thenP_n ?_ | refine blockP_n ?_))
       all_goals (refine WC.sub [(4, _), (5, _)] ⟨rfl, rfl, trivial⟩ ?_)
       all_goals (refine WC.ret ?_)
       all_goals (repeat' (with_reducible first | refine thenP_r ?_ | refine blockP_r ?_))
       all_goals (refine retP_2 _ _ ⟨rfl, rfl, trivial⟩ ?_)
       all_goals (first
                   | (have hyy := hym; exact ⟨⟨_, _, rfl, .inl ⟨rfl, y, hym, by assumption, rfl⟩⟩, hx1.trans hX3⟩)
                   | exact ⟨⟨_, _, rfl, .inr ⟨rfl, rfl, by rw [List.take_of_length_le (by omega)] at hn; exact hn⟩⟩, hX2⟩)
       skip))
  all_goals (first
    | (fail_if_success (refine Br.mk (i := 4) ?_))
    | (refine Br.mk (i := 4) ?_
       all_goals (refine WC.skip ?_)
       skip))
  all_goals (first | (refine Br.keep ?_) | (repeat' (with_reducible first | refine thenP_n ?_ | refine blockP_n ?_)))
  all_goals (first | (refine Br.keep ?_) | (refine WC.region ?_))
  all_goals (first | (refine Br.keep ?_) | (refine WL.step (ok_move rfl) rfl rfl rfl ?_))
  all_goals (first | (refine Br.keep ?_) | (first | (refine WL.step (ok_addI rfl rfl (by omega)) rfl rfl rfl ?_) | (refine WL.step (ok_add rfl rfl) rfl rfl rfl ?_)))
  all_goals (first | (refine Br.keep ?_) | (refine WL.step (ok_assign rfl) rfl rfl rfl ?_))
  all_goals (first | (refine Br.keep ?_) | (refine WL.nil ?_))
  all_goals (first | (refine Br.keep ?_) | (repeat' (with_reducible first | refine thenP_n ?_ | refine blockP_n ?_)))
  all_goals (first | (refine Br.keep ?_) | (exact ⟨k + 1, ⟨rfl, rfl, rfl, trivial⟩, (by exact ⟨hX3, by omega, fun p hp => by rw [List.take_add_one, hy] at hp; rcases List.mem_append.1 hp with hp | hp; exact hn p hp; simp at hp; subst hp; assumption⟩), (by omega)⟩))
  all_goals (try (refine Br.mk (i := 1000) ?_))
  all_goals (repeat' (with_reducible first | refine thenP_n ?_ | refine blockP_n ?_))
  all_goals (refine WC.sub [] trivial ?_)
  all_goals (refine WC.seq ?_)
  all_goals (refine WC.region ?_)
  all_goals (refine WL.step (ok_assign rfl) rfl rfl rfl ?_)
  all_goals (refine WL.step (ok_assign rfl) rfl rfl rfl ?_)
  all_goals (refine WL.nil ?_)
  all_goals (repeat' (with_reducible first | refine thenP_n ?_ | refine blockP_n ?_))
  all_goals (refine WC.ret ?_)
  all_goals (repeat' (with_reducible first | refine thenP_r ?_ | refine blockP_r ?_))
  all_goals (refine retP_2 _ _ ⟨rfl, rfl, trivial⟩ ?_)
  all_goals (first
              | (have hyy := hym; exact ⟨⟨_, _, rfl, .inl ⟨rfl, y, hym, by assumption, rfl⟩⟩, hx1.trans hX3⟩)
              | exact ⟨⟨_, _, rfl, .inr ⟨rfl, rfl, by rw [List.take_of_length_le (by omega)] at hn; exact hn⟩⟩, hX2⟩)
end
end Go.Proofs.Ytkpgnhhidnkmcaa

