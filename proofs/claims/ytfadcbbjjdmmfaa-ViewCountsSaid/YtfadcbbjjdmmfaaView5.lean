/-
  VIEW: the document's counts; the compare of counts.
-/
import Derived.Test.YtfadcbbjjdmmfaaView4
namespace Go.Proofs.Ytfadcbbjjdmmfaa
open Go Go.RK

/-- The least of those above last, among the first i; 0: none. -/
structure Lst (l : List Int) (i : Nat) (last least : Int) : Prop where
  non : least = 0 → ∀ n ∈ l.take i, ¬ last < n
  som : least ≠ 0 → least ∈ l ∧ last < least ∧ ∀ n ∈ l.take i, last < n → least ≤ n
theorem Lst.nil (l : List Int) (last : Int) : Lst l 0 last 0 := ⟨fun _ => by simp, fun h => absurd rfl h⟩
theorem mem_snoc {l : List Int} {i : Nat} {y n : Int} (hy : l[i]? = some y) : n ∈ l.take (i + 1) ↔ n ∈ l.take i ∨ n = y := by
  rw [List.take_add_one, hy]
  simp
theorem Lst.take {l : List Int} {i : Nat} {last least y : Int} (k : Lst l i last least) (h0 : 0 ≤ last) (hy : l[i]? = some y) (h1 : last < y) (h2 : least = 0 ∨ y < least) : Lst l (i + 1) last y := by
  refine ⟨fun e => by omega, fun _ => ⟨List.mem_of_getElem? hy, h1, fun n hn hl => ?_⟩⟩
  rcases (mem_snoc hy).1 hn with h | h
  · by_cases e : least = 0
    · exact absurd hl (k.non e n h)
    · have := (k.som e).2.2 n h hl
      omega
  · omega
theorem Lst.keep {l : List Int} {i : Nat} {last least y : Int} (k : Lst l i last least) (hy : l[i]? = some y) (h : last < y → least ≠ 0 ∧ ¬ y < least) : Lst l (i + 1) last least := by
  refine ⟨fun e n hn => ?_, fun e => ⟨(k.som e).1, (k.som e).2.1, fun n hn hl => ?_⟩⟩
  · rcases (mem_snoc hy).1 hn with h' | h'
    · exact k.non e n h'
    · subst h'
      exact fun hl => (h hl).1 e
  · rcases (mem_snoc hy).1 hn with h' | h'
    · exact (k.som e).2.2 n h' hl
    · subst h'
      have := (h hl).2
      omega
/-- Those up to last. -/
structure Upto (l : List Int) (last : Int) (M : List Cn) : Prop where
  mem : ∀ p, p ∈ M ↔ 0 < p.1 ∧ p.1 ≤ last ∧ p.1 ∈ l ∧ p.2 = (l.count p.1 : Int)
  rise : M.Pairwise fun a b => a.1 < b.1
  pos : 0 ≤ last
theorem Upto.nil (l : List Int) : Upto l 0 [] := ⟨fun p => ⟨fun h => (by cases h), fun h => (by omega)⟩, List.Pairwise.nil, Int.le_refl _⟩
theorem Upto.next {l : List Int} {last least : Int} {M : List Cn} (u : Upto l last M) (k : Lst l l.length last least) (h : least ≠ 0) : Upto l least (M ++ [(least, (l.count least : Int))]) := by
  obtain ⟨h1, h2, h3⟩ := k.som h
  rw [List.take_length] at h3
  have hp := u.pos
  refine ⟨fun p => ?_, List.pairwise_append.2 ⟨u.rise, by simp, fun a ha b hb => ?_⟩, by omega⟩
  · rw [List.mem_append, List.mem_singleton, u.mem]
    constructor
    · rintro (⟨a, b, c, d⟩ | rfl)
      · exact ⟨a, by omega, c, d⟩
      · exact ⟨by show 0 < least; omega, Int.le_refl _, h1, rfl⟩
    · rintro ⟨a, b, c, d⟩
      by_cases e : p.1 ≤ last
      · exact .inl ⟨a, e, c, d⟩
      · have := h3 p.1 c (by omega)
        have e1 : p.1 = least := by omega
        exact .inr (Prod.ext e1 (by rw [d, e1]))
  · obtain rfl := List.mem_singleton.1 hb
    have := ((u.mem a).1 ha).2.1
    show a.1 < least
    omega
theorem Upto.all {l : List Int} {last least : Int} {M : List Cn} (u : Upto l last M) (k : Lst l l.length last least) (h : least = 0) : IsCnt l M := by
  have h1 := k.non h
  rw [List.take_length] at h1
  refine ⟨fun p => ?_, u.rise⟩
  rw [u.mem]
  constructor
  · rintro ⟨a, b, c, d⟩
    exact ⟨a, c, d⟩
  · rintro ⟨a, c, d⟩
    exact ⟨a, by have := h1 p.1 c; omega, c, d⟩
def above (l : List Int) (last : Int) : List Int := l.filter fun n => decide (last < n)
theorem above_lt {l : List Int} {last least : Int} (h1 : least ∈ l) (h2 : last < least) : (above l least).length < (above l last).length := by
  have e : above l least = (above l last).filter fun n => decide (least < n) := by
    unfold above
    rw [List.filter_filter]
    congr 1
    funext n
    by_cases h : least < n
    · simp [h]; omega
    · simp [h]
  rw [e]
  exact List.length_filter_lt_length_iff_exists.2 ⟨least, List.mem_filter.2 ⟨h1, by simpa using h2⟩, by simp⟩
set_option maxHeartbeats 1000000 in
set_option maxRecDepth 100000 in
theorem counted46 {h : Heap} (V : VW) (ok : V.ok h) (f : Few V) : CallsH Try.prog 30 ⟨[.agg ⟨V.cells⟩]⟩ h fun u h' => ∃ L, IsCnt (idsV V) L ∧ L.length ≤ 4000 ∧ NewC h u L h' := by
  have hlen := idsV_len f
  obtain ⟨A1, c1, A2, c2, A3, c3, A4, c4, e1, e2, e3, e4⟩ := ok.slices
  have hids := fun h' (hx : Ext No h h') => ids46 V (ok.ext0 hx) f
  unfold VW.cells at hids ⊢
  rw [e1, e2, e3, e4] at hids ⊢
  generalize idsV V = l at *
  refine calls [(0, _)] Try.func30 rfl Try.ntmps30 rfl ⟨rfl, trivial⟩ ?_
  all_goals (refine WC.seq ?_)
  all_goals (refine WC.region ?_)
  all_goals (refine WL.stepR (okE_box rfl) rfl rfl rfl ?_
             rintro _ h1 ⟨b1, rfl, hg1, hb1, hx1⟩)
  all_goals (refine WL.step (ok_assign rfl) rfl rfl rfl ?_)
  all_goals (refine WL.nil ?_)
  all_goals (repeat' (with_reducible first | refine thenP_n ?_ | refine blockP_n ?_))
  all_goals (refine WC.seq ?_)
  all_goals (refine WC.region ?_)
  all_goals (refine WL.step (ok_loadN (fun w => Try.isAgg46 w) (fun w => Try.sizeOf46 w) rfl rfl (by exact At.of_block hb1)) rfl rfl rfl ?_)
  all_goals (refine WL.call (vs := [_]) rfl (fun a w => Try.call51 a w) rfl (hids _ hx1) rfl rfl rfl ?_
             rintro v2 h2 ⟨ho2, hx2, hf2⟩)
  all_goals (have hX2 := hx1.trans hx2
             have hs2 := hX2.size
             have hr2 := ho2.rd
             obtain ⟨A, c, rfl, _⟩ := ho2.slice)
  all_goals (refine WL.step (ok_assign rfl) rfl rfl rfl ?_)
  all_goals (refine WL.nil ?_)
  all_goals (repeat' (with_reducible first | refine thenP_n ?_ | refine blockP_n ?_))
  all_goals (refine WC.sub [(3, _)] ⟨rfl, trivial⟩ ?_)
  all_goals (refine WC.seq ?_)
  all_goals (refine WC.region ?_)
  all_goals (refine WL.step (ok_assign rfl) rfl rfl rfl ?_)
  all_goals (refine WL.nil ?_)
  all_goals (repeat' (with_reducible first | refine thenP_n ?_ | refine blockP_n ?_))
  all_goals (refine WC.seq ?_)
  all_goals (refine WC.region ?_)
  all_goals (refine WL.step (ok_assign rfl) rfl rfl rfl ?_)
  all_goals (refine WL.nil ?_)
  all_goals (repeat' (with_reducible first | refine thenP_n ?_ | refine blockP_n ?_))
  all_goals (refine WC.block ?_)
  -- loop 0: slots that turn [4, 5], that stay [3]
  all_goals (refine WC.loopG (X := Value × Int × List Cn) (fun x => ([(4, x.1), (5, In x.2.1)] : Fr)) [(3, _)] (fun x h' => Upto l x.2.1 x.2.2 ∧ x.2.2.length + (above l x.2.1).length ≤ l.length ∧ Own h' x.1 54 2 x.2.2.length (x.2.2.flatMap cnC) ∧ Ext No h2 h' ∧ ∀ k, x.1.ownBlock = some k → h2.size ≤ k) (fun x => (above l x.2.1).length) ((.slice none 0 0, 0, [])) ⟨rfl, rfl, rfl, trivial⟩ (by exact ⟨Upto.nil l, by simpa [above] using List.length_filter_le _ l, Own.nil _ _ _, .refl _ _, by simp [Value.ownBlock]⟩) ?_)
  all_goals (rintro ⟨v3, last, M⟩ h3 ⟨hu, hml, ho3, hx3, hf3⟩
             simp only at hu hml ho3 hf3
             have hpos := hu.pos)
  all_goals (refine WC.sub [(4, _), (5, _), (3, _)] ⟨rfl, rfl, rfl, trivial⟩ ?_)
  all_goals (dsimp only)
  all_goals (refine WC.block ?_)
  all_goals (refine WC.seq ?_)
  all_goals (refine WC.region ?_)
  all_goals (refine WL.step (ok_assign rfl) rfl rfl rfl ?_)
  all_goals (refine WL.nil ?_)
  all_goals (repeat' (with_reducible first | refine thenP_n ?_ | refine blockP_n ?_))
  all_goals (refine WC.seq ?_)
  all_goals (refine WC.seq ?_)
  all_goals (refine WC.region ?_)
  all_goals (refine WL.step (ok_assign rfl) rfl rfl rfl ?_)
  all_goals (refine WL.nil ?_)
  all_goals (repeat' (with_reducible first | refine thenP_n ?_ | refine blockP_n ?_))
  all_goals (refine WC.block ?_)
  -- loop 1: slots that turn [6, 7], that stay [3, 4, 5]
  all_goals (refine WC.loopG (X := Nat × Int) (fun x => ([(7, In (x.1 : Int)), (6, In x.2)] : Fr)) [(3, _), (4, _), (5, _)] (fun x h' => h' = h3 ∧ x.1 ≤ l.length ∧ Lst l x.1 last x.2) (fun x => l.length - x.1) ((0, 0)) ⟨rfl, rfl, rfl, rfl, rfl, trivial⟩ (by exact ⟨rfl, Nat.zero_le _, Lst.nil l last⟩) ?_)
  all_goals (rintro ⟨i, least⟩ h4 ⟨hz, hi, hk⟩
             subst hz
             simp only at hi hk)
  all_goals (refine WC.sub [(6, _), (7, _), (3, _), (4, _), (5, _)] ⟨rfl, rfl, rfl, rfl, rfl, trivial⟩ ?_)
  all_goals (dsimp only)
  all_goals (refine WC.seq ?_)
  all_goals (refine WC.seq ?_)
  all_goals (refine WC.region ?_)
  all_goals (refine WL.step (ok_move rfl) rfl rfl rfl ?_)
  all_goals (refine WL.step (ok_move rfl) rfl rfl rfl ?_)
  all_goals (refine WL.step (ok_lenL rfl Try.underlying36 rfl) rfl rfl rfl ?_)
  all_goals (first | (refine WL.step (OkP.bool_t (by omega) (ok_lss rfl rfl)) rfl rfl rfl ?_) | (refine WL.step (OkP.bool_f (by omega) (ok_lss rfl rfl)) rfl rfl rfl ?_) | (refine WL.step (ok_lss rfl rfl) rfl rfl rfl ?_))
  all_goals (refine WL.nil ?_)
  all_goals (repeat' (with_reducible first | refine thenP_n ?_ | refine blockP_n ?_))
  all_goals (first | refine WC.condB_t 1 rfl ?_ | refine WC.condB_f 2 rfl ?_ | (refine WC.condB 1 2 rfl (fun hb => ?_) (fun hb => ?_) <;> (first | replace hb := of_decide_eq_true hb | replace hb := of_decide_eq_false hb | replace hb := of_decide_eq_false (nt hb) | replace hb := of_decide_eq_true (nf hb) | skip)))
  all_goals (first
    | (fail_if_success (refine Br.mk (i := 1) ?_))
    | (refine Br.mk (i := 1) ?_
       all_goals (refine WC.skip ?_)
       skip))
  all_goals (first
    | (fail_if_success (refine Br.mk (i := 2) ?_))
    | (refine Br.mk (i := 2) ?_
       all_goals (refine WC.exit ?_)
       all_goals (repeat' (with_reducible first | refine thenP_x ?_ | refine blockP_miss rfl ?_ | refine blockP_hit ?_ | refine blockP_n ?_ | refine thenP_n ?_))
       all_goals (refine Br.out (i := 1002) ?_)
       skip))
  all_goals (first | (refine Br.keep ?_) | (repeat' (with_reducible first | refine thenP_n ?_ | refine blockP_n ?_)))
  all_goals (first | (refine Br.keep ?_) | (refine WC.sub [(3, _), (4, _), (5, _), (6, _), (7, _)] ⟨rfl, rfl, rfl, rfl, rfl, trivial⟩ ?_))
  all_goals (first | (refine Br.keep ?_) | (refine WC.seq ?_))
  all_goals (first | (refine Br.keep ?_) | (refine WC.block ?_))
  all_goals (first | (refine Br.keep ?_) | (refine WC.seq ?_))
  all_goals (first | (refine Br.keep ?_) | (refine WC.region ?_))
  all_goals (first
               | (refine Br.keep ?_)
               | (obtain ⟨bL, oL, hA, hbL, hat⟩ := Rd.at_ (hr2.ext0 hx3) (by omega)
                  obtain ⟨y, hy⟩ : ∃ y, l[i]? = some y := ⟨_, List.getElem?_eq_getElem (by omega)⟩
                  have hc := hat.get (p := oL + i * 1) i (get_int hy) (by omega)))
  all_goals (first | (refine Br.keep ?_) | (refine WL.step (ok_move rfl) rfl rfl rfl ?_))
  all_goals (first | (refine Br.keep ?_) | (refine WL.step (ok_move rfl) rfl rfl rfl ?_))
  all_goals (first | (refine Br.keep ?_) | (refine WL.step (ok_idxAddrA Try.underlying36 (fun w => Try.sizeOf3 w) rfl rfl rfl (by omega) (by first | rfl | assumption)) rfl rfl rfl ?_))
  all_goals (first | (refine Br.keep ?_) | (refine WL.step (ok_load (fun w => Try.isAgg3 w) rfl (by first | assumption | exact cell_blk (by assumption) rfl)) rfl rfl rfl ?_))
  all_goals (first | (refine Br.keep ?_) | (refine WL.step (ok_move rfl) rfl rfl rfl ?_))
  all_goals (first | (refine Br.keep ?_) | (first | (refine WL.step (OkP.bool_t (by omega) (ok_gtr rfl rfl)) rfl rfl rfl ?_) | (refine WL.step (OkP.bool_f (by omega) (ok_gtr rfl rfl)) rfl rfl rfl ?_) | (refine WL.step (ok_gtr rfl rfl) rfl rfl rfl ?_)))
  all_goals (first | (refine Br.keep ?_) | (refine WL.step (ok_move rfl) rfl rfl rfl ?_))
  all_goals (first | (refine Br.keep ?_) | (try ((fail_if_success (refine WL.part 22 (b := true) rfl (fun _ => ?_) (fun _ => ?_))); (fail_if_success (refine WL.part 22 (b := false) rfl (fun _ => ?_) (fun _ => ?_))); (refine WL.part 22 rfl (fun hb => ?_) (fun hb => ?_) <;> (first | replace hb := of_decide_eq_true hb | replace hb := of_decide_eq_false hb | replace hb := of_decide_eq_false (nt hb) | replace hb := of_decide_eq_true (nf hb) | skip)))))
  all_goals (first | (refine Br.keep ?_) | (first | (refine WL.pass rfl rfl rfl ?_) | (refine WL.step (ok_move rfl) rfl rfl rfl ?_)))
  all_goals (first | (refine Br.keep ?_) | (first | (refine WL.pass rfl rfl rfl ?_) | (first | (refine WL.step (OkP.bool_t (by omega) (ok_eql rfl rfl)) rfl rfl rfl ?_) | (refine WL.step (OkP.bool_f (by omega) (ok_eql rfl rfl)) rfl rfl rfl ?_) | (refine WL.step (ok_eql rfl rfl) rfl rfl rfl ?_))))
  all_goals (first | (refine Br.keep ?_) | (first | (refine WL.pass rfl rfl rfl ?_) | (refine WL.step (ok_move rfl) rfl rfl rfl ?_)))
  all_goals (first | (refine Br.keep ?_) | (try ((fail_if_success (refine WL.part 25 (b := true) rfl (fun _ => ?_) (fun _ => ?_))); (fail_if_success (refine WL.part 25 (b := false) rfl (fun _ => ?_) (fun _ => ?_))); (refine WL.part 25 rfl (fun hb => ?_) (fun hb => ?_) <;> (first | replace hb := of_decide_eq_true hb | replace hb := of_decide_eq_false hb | replace hb := of_decide_eq_false (nt hb) | replace hb := of_decide_eq_true (nf hb) | skip)))))
  all_goals (first | (refine Br.keep ?_) | (first | (refine WL.pass rfl rfl rfl ?_) | (refine WL.step (ok_move rfl) rfl rfl rfl ?_)))
  all_goals (first | (refine Br.keep ?_) | (first | (refine WL.pass rfl rfl rfl ?_) | (refine WL.step (ok_move rfl) rfl rfl rfl ?_)))
  all_goals (first | (refine Br.keep ?_) | (first | (refine WL.pass rfl rfl rfl ?_) | (refine WL.step (ok_idxAddrA Try.underlying36 (fun w => Try.sizeOf3 w) rfl rfl rfl (by omega) (by first | rfl | assumption)) rfl rfl rfl ?_)))
  all_goals (first | (refine Br.keep ?_) | (first | (refine WL.pass rfl rfl rfl ?_) | (refine WL.step (ok_load (fun w => Try.isAgg3 w) rfl (by first | assumption | exact cell_blk (by assumption) rfl)) rfl rfl rfl ?_)))
  all_goals (first | (refine Br.keep ?_) | (first | (refine WL.pass rfl rfl rfl ?_) | (refine WL.step (ok_move rfl) rfl rfl rfl ?_)))
  all_goals (first | (refine Br.keep ?_) | (first | (refine WL.pass rfl rfl rfl ?_) | (first | (refine WL.step (OkP.bool_t (by omega) (ok_lss rfl rfl)) rfl rfl rfl ?_) | (refine WL.step (OkP.bool_f (by omega) (ok_lss rfl rfl)) rfl rfl rfl ?_) | (refine WL.step (ok_lss rfl rfl) rfl rfl rfl ?_))))
  all_goals (first | (refine Br.keep ?_) | (first | (refine WL.pass rfl rfl rfl ?_) | (first | (refine WL.step (ok_pick_t rfl rfl) rfl rfl rfl ?_) | (refine WL.step (ok_pick_f rfl rfl) rfl rfl rfl ?_))))
  all_goals (first | (refine Br.keep ?_) | (first | (refine WL.step (ok_pick_t rfl rfl) rfl rfl rfl ?_) | (refine WL.step (ok_pick_f rfl rfl) rfl rfl rfl ?_)))
  all_goals (first | (refine Br.keep ?_) | (refine WL.nil ?_))
  all_goals (first | (refine Br.keep ?_) | (repeat' (with_reducible first | refine thenP_n ?_ | refine blockP_n ?_)))
  all_goals (first | (refine Br.keep ?_) | (refine WC.sub [(3, _), (4, _), (5, _), (6, _), (7, _), (33, _)] ⟨rfl, rfl, rfl, rfl, rfl, rfl, trivial⟩ ?_))
  all_goals (first | (refine Br.keep ?_) | (first | refine WC.condB_t 3 rfl ?_ | refine WC.condB_f 4 rfl ?_ | (refine WC.condB 3 4 rfl (fun hb => ?_) (fun hb => ?_) <;> (first | replace hb := of_decide_eq_true hb | replace hb := of_decide_eq_false hb | replace hb := of_decide_eq_false (nt hb) | replace hb := of_decide_eq_true (nf hb) | skip))))
  all_goals (first
    | (fail_if_success (refine Br.mk (i := 3) ?_))
    | (refine Br.mk (i := 3) ?_
       all_goals (refine WC.region ?_)
       all_goals (refine WL.step (ok_move rfl) rfl rfl rfl ?_)
       all_goals (refine WL.step (ok_move rfl) rfl rfl rfl ?_)
       all_goals (refine WL.step (ok_idxAddrA Try.underlying36 (fun w => Try.sizeOf3 w) rfl rfl rfl (by omega) (by first | rfl | assumption)) rfl rfl rfl ?_)
       all_goals (refine WL.step (ok_load (fun w => Try.isAgg3 w) rfl (by first | assumption | exact cell_blk (by assumption) rfl)) rfl rfl rfl ?_)
       all_goals (refine WL.step (ok_assign rfl) rfl rfl rfl ?_)
       all_goals (refine WL.nil ?_)
       skip))
  all_goals (first
    | (fail_if_success (refine Br.mk (i := 4) ?_))
    | (refine Br.mk (i := 4) ?_
       all_goals (refine WC.skip ?_)
       skip))
  all_goals (first | (refine Br.keep ?_) | (repeat' (with_reducible first | refine thenP_n ?_ | refine blockP_n ?_)))
  all_goals (first | (refine Br.keep ?_) | (refine WC.region ?_))
  all_goals (first | (refine Br.keep ?_) | (refine WL.step (ok_move rfl) rfl rfl rfl ?_))
  all_goals (first | (refine Br.keep ?_) | (first | (refine WL.step (ok_addI rfl rfl (by omega)) rfl rfl rfl ?_) | (refine WL.step (ok_add rfl rfl) rfl rfl rfl ?_)))
  all_goals (first | (refine Br.keep ?_) | (refine WL.step (ok_assign rfl) rfl rfl rfl ?_))
  all_goals (first | (refine Br.keep ?_) | (refine WL.nil ?_))
  all_goals (first | (refine Br.keep ?_) | (repeat' (with_reducible first | refine thenP_n ?_ | refine blockP_n ?_)))
  all_goals (first
               | (refine Br.keep ?_)
               | (exact ⟨(i + 1, _), ⟨rfl, rfl, rfl, rfl, rfl, trivial⟩, (by first
                   | exact ⟨rfl, by simp; omega, hk.take hpos hy (by omega) (by omega)⟩
                   | exact ⟨rfl, by simp; omega, hk.keep hy (by omega)⟩), (by simp; omega)⟩))
  all_goals (try (refine Br.mk (i := 1002) ?_))
  all_goals (repeat' (with_reducible first | refine thenP_n ?_ | refine blockP_n ?_))
  all_goals (refine WC.sub [(3, _), (4, _), (6, _)] ⟨rfl, rfl, rfl, trivial⟩ ?_)
  all_goals (refine WC.seq ?_)
  all_goals (refine WC.seq ?_)
  all_goals (refine WC.region ?_)
  all_goals (have hil : i = l.length := by omega
             subst hil)
  all_goals (refine WL.step (ok_move rfl) rfl rfl rfl ?_)
  all_goals (first | (refine WL.step (OkP.bool_t (by omega) (ok_eql rfl rfl)) rfl rfl rfl ?_) | (refine WL.step (OkP.bool_f (by omega) (ok_eql rfl rfl)) rfl rfl rfl ?_) | (refine WL.step (ok_eql rfl rfl) rfl rfl rfl ?_))
  all_goals (refine WL.nil ?_)
  all_goals (repeat' (with_reducible first | refine thenP_n ?_ | refine blockP_n ?_))
  all_goals (first | refine WC.condB_t 5 rfl ?_ | refine WC.condB_f 6 rfl ?_ | (refine WC.condB 5 6 rfl (fun hb => ?_) (fun hb => ?_) <;> (first | replace hb := of_decide_eq_true hb | replace hb := of_decide_eq_false hb | replace hb := of_decide_eq_false (nt hb) | replace hb := of_decide_eq_true (nf hb) | skip)))
  all_goals (first
    | (fail_if_success (refine Br.mk (i := 5) ?_))
    | (refine Br.mk (i := 5) ?_
       all_goals (refine WC.seq ?_)
       all_goals (refine WC.region ?_)
       all_goals (refine WL.step (ok_move rfl) rfl rfl rfl ?_)
       all_goals (refine WL.step (ok_assign rfl) rfl rfl rfl ?_)
       all_goals (refine WL.nil ?_)
       all_goals (repeat' (with_reducible first | refine thenP_n ?_ | refine blockP_n ?_))
       all_goals (refine WC.sub [(2, _)] ⟨rfl, trivial⟩ ?_)
       all_goals (refine WC.ret ?_)
       all_goals (repeat' (with_reducible first | refine thenP_r ?_ | refine blockP_r ?_))
       all_goals (refine retP_1 _ ⟨rfl, trivial⟩ ?_)
       all_goals (exact ⟨M, hu.all hk (by omega), by omega, ho3, hX2.trans hx3, fun k hk => by have := hf3 k hk; omega⟩)
       skip))
  all_goals (first
    | (fail_if_success (refine Br.mk (i := 6) ?_))
    | (refine Br.mk (i := 6) ?_
       all_goals (refine WC.skip ?_)
       skip))
  all_goals (repeat' (with_reducible first | refine thenP_n ?_ | refine blockP_n ?_))
  all_goals (refine WC.seq ?_)
  all_goals (refine WC.region ?_)
  all_goals (have hsm := hk.som (by omega)
             have hab := above_lt hsm.1 hsm.2.1)
  all_goals (refine WL.step (ok_move rfl) rfl rfl rfl ?_)
  all_goals (refine WL.step (ok_move rfl) rfl rfl rfl ?_)
  all_goals (refine WL.step (ok_move rfl) rfl rfl rfl ?_)
  all_goals (refine WL.step (ok_move rfl) rfl rfl rfl ?_)
  all_goals (refine WL.call (vs := [_, _]) rfl (fun a w => Try.call50 a w) rfl (count46 l least (hr2.ext0 hx3) (by omega)) rfl rfl rfl ?_
             rintro _ hz ⟨rfl, _⟩
             subst hz)
  all_goals (refine WL.step (ok_buildF (vs := [_, _]) (cs := [_, _]) (fun | [a0, a1] => [a0, a1] | _ => []) rfl rfl (by kernel_rfl)) rfl rfl rfl ?_)
  all_goals (refine WL.stepR (okE_buildSlice (vs := [_]) (cs := [_, _]) (fun | [.agg ⟨[a0, a1]⟩] => [a0, a1] | _ => []) Try.underlying44 rfl rfl (by kernel_rfl)) rfl rfl rfl ?_
             rintro _ h6 ⟨b6, rfl, hg6, hb6, hx6⟩)
  all_goals (refine WL.stepR (ok_append (sz := 2) (bytes := 16) rfl Try.underlying44 (show Try.prog.info? 54 = some Try.t54 by kernel_rfl) rfl rfl rfl rfl (by decide) rfl rfl (ho3.ext hx6 (fun _ _ => nos)) (rd_blk hb6 rfl) (cnC_one (least, (l.count least : Int))) (by simp only [maxLen]; omega) (by omega)) rfl rfl rfl ?_
             rintro v7 h7 ⟨ho7, hx7, hl7⟩)
  all_goals (refine WL.step (ok_assign rfl) rfl rfl rfl ?_)
  all_goals (refine WL.nil ?_)
  all_goals (repeat' (with_reducible first | refine thenP_n ?_ | refine blockP_n ?_))
  all_goals (refine WC.sub [(3, _), (4, _), (6, _)] ⟨rfl, rfl, rfl, trivial⟩ ?_)
  all_goals (refine WC.region ?_)
  all_goals (refine WL.step (ok_move rfl) rfl rfl rfl ?_)
  all_goals (refine WL.step (ok_assign rfl) rfl rfl rfl ?_)
  all_goals (refine WL.nil ?_)
  all_goals (repeat' (with_reducible first | refine thenP_n ?_ | refine blockP_n ?_))
  all_goals (exact ⟨(_, _, M ++ [(least, (l.count least : Int))]), ⟨rfl, rfl, rfl, trivial⟩, (by exact ⟨hu.next hk (by omega), by simp; omega, by simpa [cnC] using ho7, (hx3.trans hx6).trans' hx7 (fun q hq e => by have := hf3 q e; omega), fresh_of hl7 hf3 (by have := hx3.size; have := hx6.size; omega)⟩), (by exact hab)⟩)
  all_goals (repeat' (with_reducible first | refine thenP_n ?_ | refine blockP_n ?_))
  all_goals (refine retP_n [] trivial ?_)
  all_goals (exact ⟨M, hu.all hk (by omega), by omega, ho3, hX2.trans hx3, fun k hk => by have := hf3 k hk; omega⟩)

/-! ### compares -/
theorem take_sameX {α : Type} {l m : List α} {k : Nat} {x : α} (h : l.take k = m.take k) (hl : l[k]? = some x) (hm : m[k]? = some x) : l.take (k + 1) = m.take (k + 1) := by
  rw [List.take_add_one, List.take_add_one, hl, hm, h]
theorem same_ofX {α : Type} {l m : List α} {k : Nat} (h : l.take k = m.take k) (hl : l.length ≤ k) (hm : m.length ≤ k) : l = m := by
  rwa [List.take_of_length_le hl, List.take_of_length_le hm] at h
theorem ne_of_atX {α : Type} {l m : List α} {k : Nat} {x y : α} (hl : l[k]? = some x) (hm : m[k]? = some y) (hne : x ≠ y) : l ≠ m := by
  rintro rfl
  rw [hl] at hm
  exact hne (Option.some.inj hm)
set_option maxRecDepth 100000 in
theorem equal_cn {h : Heap} {v w : Value} (l m : List Cn) (hr : Rd h v 2 l.length (l.flatMap cnC)) (hs : Rd h w 2 m.length (m.flatMap cnC)) (hl : l.length ≤ 1000000) :
    CallsH Try.prog 59 ⟨[v, w]⟩ h fun u h' => u = .bool (decide (l = m)) ∧ h' = h := by
  obtain ⟨A, c, rfl, _⟩ := id hr
  obtain ⟨B, d, rfl, _⟩ := id hs
  by_cases hlm : l.length = m.length
  ·
    refine calls [(0, _), (1, _)] Try.func59 rfl Try.ntmps59 rfl ⟨rfl, rfl, trivial⟩ ?_
    all_goals (refine WC.seq ?_)
    all_goals (refine WC.region ?_)
    all_goals (refine WL.step (ok_assign rfl) rfl rfl rfl ?_)
    all_goals (refine WL.nil ?_)
    all_goals (repeat' (with_reducible first | refine thenP_n ?_ | refine blockP_n ?_))
    all_goals (refine WC.seq ?_)
    all_goals (refine WC.seq ?_)
    all_goals (refine WC.region ?_)
    all_goals (refine WL.step (ok_move rfl) rfl rfl rfl ?_)
    all_goals (refine WL.step (ok_lenL rfl Try.underlying44 rfl) rfl rfl rfl ?_)
    all_goals (refine WL.step (ok_move rfl) rfl rfl rfl ?_)
    all_goals (refine WL.step (ok_lenL rfl Try.underlying44 rfl) rfl rfl rfl ?_)
    all_goals (first | (refine WL.step (OkP.nbool_t (by omega) (ok_neq rfl rfl)) rfl rfl rfl ?_) | (refine WL.step (OkP.nbool_f (by omega) (ok_neq rfl rfl)) rfl rfl rfl ?_) | (refine WL.step (ok_neq rfl rfl) rfl rfl rfl ?_))
    all_goals (refine WL.nil ?_)
    all_goals (repeat' (with_reducible first | refine thenP_n ?_ | refine blockP_n ?_))
    all_goals (refine WC.sub [(0, _), (1, _), (10, _)] ⟨rfl, rfl, rfl, trivial⟩ ?_)
    all_goals (first | refine WC.condB_t 1 rfl ?_ | refine WC.condB_f 2 rfl ?_ | (refine WC.condB 1 2 rfl (fun hb => ?_) (fun hb => ?_) <;> (first | replace hb := of_decide_eq_true hb | replace hb := of_decide_eq_false hb | replace hb := of_decide_eq_false (nt hb) | replace hb := of_decide_eq_true (nf hb) | skip)))
    all_goals (first
      | (fail_if_success (refine Br.mk (i := 1) ?_))
      | (refine Br.mk (i := 1) ?_
         all_goals (refine WC.seq ?_)
         all_goals (refine WC.region ?_)
         all_goals (refine WL.step (ok_assign rfl) rfl rfl rfl ?_)
         all_goals (refine WL.nil ?_)
         all_goals (repeat' (with_reducible first | refine thenP_n ?_ | refine blockP_n ?_))
         all_goals (refine WC.ret ?_)
         all_goals (repeat' (with_reducible first | refine thenP_r ?_ | refine blockP_r ?_))
         all_goals (refine retP_1 _ ⟨rfl, trivial⟩ ?_)
         all_goals (first
                     | exact ⟨by rw [decide_eq_true (same_ofX hn (by omega) (by omega))], rfl⟩
                     | exact ⟨by rw [decide_eq_false (ne_of_atX hx hy hxy)], rfl⟩)
         skip))
    all_goals (first
      | (fail_if_success (refine Br.mk (i := 2) ?_))
      | (refine Br.mk (i := 2) ?_
         all_goals (refine WC.skip ?_)
         skip))
    all_goals (repeat' (with_reducible first | refine thenP_n ?_ | refine blockP_n ?_))
    all_goals (refine WC.seq ?_)
    all_goals (refine WC.seq ?_)
    all_goals (refine WC.region ?_)
    all_goals (refine WL.step (ok_move rfl) rfl rfl rfl ?_)
    all_goals (refine WL.step (ok_lenL rfl Try.underlying44 rfl) rfl rfl rfl ?_)
    all_goals (refine WL.step (ok_move rfl) rfl rfl rfl ?_)
    all_goals (refine WL.nil ?_)
    all_goals (repeat' (with_reducible first | refine thenP_n ?_ | refine blockP_n ?_))
    all_goals (refine WC.block ?_)
    -- loop 0: slots that turn [13], that stay [0, 1, 12]
    all_goals (refine WC.loopG (X := Nat) (fun x => ([(13, In (x : Int))] : Fr)) [(0, _), (1, _), (12, _)] (fun k h' => h' = h ∧ k ≤ l.length ∧ l.take k = m.take k) (fun k => l.length - k) (0) ⟨rfl, rfl, rfl, rfl, trivial⟩ (by exact ⟨rfl, Nat.zero_le _, by simp⟩) ?_)
    all_goals (rintro k h9 ⟨hz, hk, hn⟩
               subst h9)
    all_goals (refine WC.sub [(13, _), (0, _), (1, _), (12, _)] ⟨rfl, rfl, rfl, rfl, trivial⟩ ?_)
    all_goals (refine WC.seq ?_)
    all_goals (refine WC.region ?_)
    all_goals (first | (refine WL.step (OkP.bool_t (by omega) (ok_lss rfl rfl)) rfl rfl rfl ?_) | (refine WL.step (OkP.bool_f (by omega) (ok_lss rfl rfl)) rfl rfl rfl ?_) | (refine WL.step (ok_lss rfl rfl) rfl rfl rfl ?_))
    all_goals (refine WL.nil ?_)
    all_goals (repeat' (with_reducible first | refine thenP_n ?_ | refine blockP_n ?_))
    all_goals (refine WC.seq ?_)
    all_goals (first | refine WC.condB_t 3 rfl ?_ | refine WC.condB_f 4 rfl ?_ | (refine WC.condB 3 4 rfl (fun hb => ?_) (fun hb => ?_) <;> (first | replace hb := of_decide_eq_true hb | replace hb := of_decide_eq_false hb | replace hb := of_decide_eq_false (nt hb) | replace hb := of_decide_eq_true (nf hb) | skip)))
    all_goals (first
      | (fail_if_success (refine Br.mk (i := 3) ?_))
      | (refine Br.mk (i := 3) ?_
         all_goals (refine WC.skip ?_)
         skip))
    all_goals (first
      | (fail_if_success (refine Br.mk (i := 4) ?_))
      | (refine Br.mk (i := 4) ?_
         all_goals (refine WC.exit ?_)
         all_goals (repeat' (with_reducible first | refine thenP_x ?_ | refine blockP_miss rfl ?_ | refine blockP_hit ?_ | refine blockP_n ?_ | refine thenP_n ?_))
         all_goals (refine Br.out (i := 1000) ?_)
         skip))
    all_goals (first | (refine Br.keep ?_) | (repeat' (with_reducible first | refine thenP_n ?_ | refine blockP_n ?_)))
    all_goals (first | (refine Br.keep ?_) | (refine WC.seq ?_))
    all_goals (first | (refine Br.keep ?_) | (refine WC.block ?_))
    all_goals (first | (refine Br.keep ?_) | (refine WC.seq ?_))
    all_goals (first | (refine Br.keep ?_) | (refine WC.region ?_))
    all_goals (first
                 | (refine Br.keep ?_)
                 | (obtain ⟨bL, oL, hA, hbL, hat⟩ := Rd.at_ hr (by omega)
                    obtain ⟨bM, oM, hB, hbM, hbt⟩ := Rd.at_ hs (by omega)
                    obtain ⟨⟨xa, xb⟩, hx⟩ : ∃ y, l[k]? = some y := ⟨_, List.getElem?_eq_getElem (by omega)⟩
                    obtain ⟨⟨ya, yb⟩, hy⟩ : ∃ y, m[k]? = some y := ⟨_, List.getElem?_eq_getElem (by omega)⟩
                    have hc : At h bL (oL + k * 2) [In xa, In xb] := At.elem cnC_len hat hx
                    have hd : At h bM (oM + k * 2) [In ya, In yb] := At.elem cnC_len hbt hy
                    by_cases hxy : ((xa, xb) : Cn) = (ya, yb)))
    all_goals (first | (refine Br.keep ?_) | (refine WL.step (ok_move rfl) rfl rfl rfl ?_))
    all_goals (first | (refine Br.keep ?_) | (refine WL.step (ok_assign rfl) rfl rfl rfl ?_))
    all_goals (first | (refine Br.keep ?_) | (refine WL.nil ?_))
    all_goals (first | (refine Br.keep ?_) | (repeat' (with_reducible first | refine thenP_n ?_ | refine blockP_n ?_)))
    all_goals (first | (refine Br.keep ?_) | (refine WC.seq ?_))
    all_goals (first | (refine Br.keep ?_) | (refine WC.drawE fol (by kernel_rfl) ?_))
    all_goals (first | (refine Br.keep ?_) | (refine WQ.stepE (ok_move rfl) rfl rfl rfl ?_))
    all_goals (first | (refine Br.keep ?_) | (refine WQ.stepE (ok_move rfl) rfl rfl rfl ?_))
    all_goals (first | (refine Br.keep ?_) | (refine WQ.stepE (ok_idxAddrA Try.underlying44 (fun w => Try.sizeOf54 w) rfl rfl rfl (by omega) (by first | rfl | assumption)) rfl rfl rfl ?_))
    all_goals (first | (refine Br.keep ?_) | (refine WQ.stepE (ok_loadN (fun w => Try.isAgg54 w) (fun w => Try.sizeOf54 w) rfl rfl (by assumption)) rfl rfl rfl ?_))
    all_goals (first | (refine Br.keep ?_) | (refine WQ.stepE (ok_move rfl) rfl rfl rfl ?_))
    all_goals (first | (refine Br.keep ?_) | (refine WQ.stepE (ok_move rfl) rfl rfl rfl ?_))
    all_goals (first | (refine Br.keep ?_) | (refine WQ.stepE (ok_idxAddrA Try.underlying44 (fun w => Try.sizeOf54 w) rfl rfl rfl (by omega) (by first | rfl | assumption)) rfl rfl rfl ?_))
    all_goals (first | (refine Br.keep ?_) | (refine WQ.stepE (ok_loadN (fun w => Try.isAgg54 w) (fun w => Try.sizeOf54 w) rfl rfl (by assumption)) rfl rfl rfl ?_))
    all_goals (first
                 | (refine Br.keep ?_)
                 | (first
                     | refine WQ.stepE (OkP.nbool_f ((cnS_inj (xa, xb) (ya, yb)).2 hxy) (ok_neqF (us := [.i .i64 xa, .i .i64 xb]) (vs := [.i .i64 ya, .i .i64 yb]) [.i .i64, .i .i64] (by kernel_rfl) rfl rfl rfl rfl)) rfl rfl rfl ?_
                     | refine WQ.stepE (OkP.nbool_t (fun e => hxy ((cnS_inj (xa, xb) (ya, yb)).1 e)) (ok_neqF (us := [.i .i64 xa, .i .i64 xb]) (vs := [.i .i64 ya, .i .i64 yb]) [.i .i64, .i .i64] (by kernel_rfl) rfl rfl rfl rfl)) rfl rfl rfl ?_))
    all_goals (first | (refine Br.keep ?_) | (refine WQ.nil ?_))
    all_goals (first | (refine Br.keep ?_) | (repeat' (with_reducible first | refine thenP_n ?_ | refine blockP_n ?_)))
    all_goals (first | (refine Br.keep ?_) | (refine WC.sub [(0, _), (1, _), (12, _), (13, _), (24, _)] ⟨rfl, rfl, rfl, rfl, rfl, trivial⟩ ?_))
    all_goals (first | (refine Br.keep ?_) | (first | refine WC.condB_t 5 rfl ?_ | refine WC.condB_f 6 rfl ?_ | (refine WC.condB 5 6 rfl (fun hb => ?_) (fun hb => ?_) <;> (first | replace hb := of_decide_eq_true hb | replace hb := of_decide_eq_false hb | replace hb := of_decide_eq_false (nt hb) | replace hb := of_decide_eq_true (nf hb) | skip))))
    all_goals (first
      | (fail_if_success (refine Br.mk (i := 5) ?_))
      | (refine Br.mk (i := 5) ?_
         all_goals (refine WC.seq ?_)
         all_goals (refine WC.region ?_)
         all_goals (refine WL.step (ok_assign rfl) rfl rfl rfl ?_)
         all_goals (refine WL.nil ?_)
         all_goals (repeat' (with_reducible first | refine thenP_n ?_ | refine blockP_n ?_))
         all_goals (refine WC.sub [(4, _)] ⟨rfl, trivial⟩ ?_)
         all_goals (refine WC.ret ?_)
         all_goals (repeat' (with_reducible first | refine thenP_r ?_ | refine blockP_r ?_))
         all_goals (refine retP_1 _ ⟨rfl, trivial⟩ ?_)
         all_goals (first
                     | exact ⟨by rw [decide_eq_true (same_ofX hn (by omega) (by omega))], rfl⟩
                     | exact ⟨by rw [decide_eq_false (ne_of_atX hx hy hxy)], rfl⟩)
         skip))
    all_goals (first
      | (fail_if_success (refine Br.mk (i := 6) ?_))
      | (refine Br.mk (i := 6) ?_
         all_goals (refine WC.skip ?_)
         skip))
    all_goals (first | (refine Br.keep ?_) | (repeat' (with_reducible first | refine thenP_n ?_ | refine blockP_n ?_)))
    all_goals (first | (refine Br.keep ?_) | (refine WC.region ?_))
    all_goals (first | (refine Br.keep ?_) | (first | (refine WL.step (ok_addI rfl rfl (by omega)) rfl rfl rfl ?_) | (refine WL.step (ok_add rfl rfl) rfl rfl rfl ?_)))
    all_goals (first | (refine Br.keep ?_) | (refine WL.step (ok_move rfl) rfl rfl rfl ?_))
    all_goals (first | (refine Br.keep ?_) | (refine WL.nil ?_))
    all_goals (first | (refine Br.keep ?_) | (repeat' (with_reducible first | refine thenP_n ?_ | refine blockP_n ?_)))
    all_goals (first | (refine Br.keep ?_) | (exact ⟨k + 1, ⟨rfl, rfl, rfl, rfl, trivial⟩, (by exact ⟨rfl, by omega, take_sameX hn hx (by rw [hxy]; exact hy)⟩), (by omega)⟩))
    all_goals (try (refine Br.mk (i := 1000) ?_))
    all_goals (repeat' (with_reducible first | refine thenP_n ?_ | refine blockP_n ?_))
    all_goals (refine WC.sub [] trivial ?_)
    all_goals (refine WC.seq ?_)
    all_goals (refine WC.region ?_)
    all_goals (refine WL.step (ok_assign rfl) rfl rfl rfl ?_)
    all_goals (refine WL.nil ?_)
    all_goals (repeat' (with_reducible first | refine thenP_n ?_ | refine blockP_n ?_))
    all_goals (refine WC.ret ?_)
    all_goals (repeat' (with_reducible first | refine thenP_r ?_ | refine blockP_r ?_))
    all_goals (refine retP_1 _ ⟨rfl, trivial⟩ ?_)
    all_goals (first
                | exact ⟨by rw [decide_eq_true (same_ofX hn (by omega) (by omega))], rfl⟩
                | exact ⟨by rw [decide_eq_false (ne_of_atX hx hy hxy)], rfl⟩)
  · have hne : l ≠ m := fun e => hlm (by rw [e])
    refine calls [(0, _), (1, _)] Try.func59 rfl Try.ntmps59 rfl ⟨rfl, rfl, trivial⟩ ?_
    all_goals (refine WC.seq ?_)
    all_goals (refine WC.region ?_)
    all_goals (refine WL.step (ok_assign rfl) rfl rfl rfl ?_)
    all_goals (refine WL.nil ?_)
    all_goals (repeat' (with_reducible first | refine thenP_n ?_ | refine blockP_n ?_))
    all_goals (refine WC.seq ?_)
    all_goals (refine WC.seq ?_)
    all_goals (refine WC.region ?_)
    all_goals (refine WL.step (ok_move rfl) rfl rfl rfl ?_)
    all_goals (refine WL.step (ok_lenL rfl Try.underlying44 rfl) rfl rfl rfl ?_)
    all_goals (refine WL.step (ok_move rfl) rfl rfl rfl ?_)
    all_goals (refine WL.step (ok_lenL rfl Try.underlying44 rfl) rfl rfl rfl ?_)
    all_goals (first | (refine WL.step (OkP.nbool_t (by omega) (ok_neq rfl rfl)) rfl rfl rfl ?_) | (refine WL.step (OkP.nbool_f (by omega) (ok_neq rfl rfl)) rfl rfl rfl ?_) | (refine WL.step (ok_neq rfl rfl) rfl rfl rfl ?_))
    all_goals (refine WL.nil ?_)
    all_goals (repeat' (with_reducible first | refine thenP_n ?_ | refine blockP_n ?_))
    all_goals (refine WC.sub [(0, _), (1, _), (10, _)] ⟨rfl, rfl, rfl, trivial⟩ ?_)
    all_goals (first | refine WC.condB_t 1 rfl ?_ | refine WC.condB_f 2 rfl ?_ | (refine WC.condB 1 2 rfl (fun hb => ?_) (fun hb => ?_) <;> (first | replace hb := of_decide_eq_true hb | replace hb := of_decide_eq_false hb | replace hb := of_decide_eq_false (nt hb) | replace hb := of_decide_eq_true (nf hb) | skip)))
    all_goals (first
      | (fail_if_success (refine Br.mk (i := 1) ?_))
      | (refine Br.mk (i := 1) ?_
         all_goals (refine WC.seq ?_)
         all_goals (refine WC.region ?_)
         all_goals (refine WL.step (ok_assign rfl) rfl rfl rfl ?_)
         all_goals (refine WL.nil ?_)
         all_goals (repeat' (with_reducible first | refine thenP_n ?_ | refine blockP_n ?_))
         all_goals (refine WC.ret ?_)
         all_goals (repeat' (with_reducible first | refine thenP_r ?_ | refine blockP_r ?_))
         all_goals (refine retP_1 _ ⟨rfl, trivial⟩ ?_)
         all_goals (exact ⟨by rw [decide_eq_false hne], rfl⟩)
         skip))
    all_goals (first
      | (fail_if_success (refine Br.mk (i := 2) ?_))
      | (refine Br.mk (i := 2) ?_
         all_goals (refine WC.skip ?_)
         skip))
    all_goals (repeat' (with_reducible first | refine thenP_n ?_ | refine blockP_n ?_))
    all_goals (refine WC.seq ?_)
    all_goals (refine WC.seq ?_)
    all_goals (refine WC.region ?_)
    all_goals (refine WL.step (ok_move rfl) rfl rfl rfl ?_)
    all_goals (refine WL.step (ok_lenL rfl Try.underlying44 rfl) rfl rfl rfl ?_)
    all_goals (refine WL.step (ok_move rfl) rfl rfl rfl ?_)
    all_goals (refine WL.nil ?_)
    all_goals (repeat' (with_reducible first | refine thenP_n ?_ | refine blockP_n ?_))
    all_goals (refine WC.block ?_)
    -- loop 0: slots that turn [13], that stay [0, 1, 12]
    all_goals (refine WC.loopG (fun x => (None : Fr)) [(0, _), (1, _), (12, _)] (None) (None) (None) ⟨rfl, rfl, rfl, rfl, trivial⟩ (by exact ⟨⟩) ?_)
    all_goals (rintro x h1 hI)
    all_goals (refine WC.sub [(13, _), (0, _), (1, _), (12, _)] ⟨rfl, rfl, rfl, rfl, trivial⟩ ?_)
    all_goals (refine WC.seq ?_)
    all_goals (refine WC.region ?_)
    all_goals (first | (refine WL.step (OkP.bool_t (by omega) (ok_lss rfl rfl)) rfl rfl rfl ?_) | (refine WL.step (OkP.bool_f (by omega) (ok_lss rfl rfl)) rfl rfl rfl ?_) | (refine WL.step (ok_lss rfl rfl) rfl rfl rfl ?_))
    all_goals (refine WL.nil ?_)
    all_goals (repeat' (with_reducible first | refine thenP_n ?_ | refine blockP_n ?_))
    all_goals (refine WC.seq ?_)
    all_goals (first | refine WC.condB_t 3 rfl ?_ | refine WC.condB_f 4 rfl ?_ | (refine WC.condB 3 4 rfl (fun hb => ?_) (fun hb => ?_) <;> (first | replace hb := of_decide_eq_true hb | replace hb := of_decide_eq_false hb | replace hb := of_decide_eq_false (nt hb) | replace hb := of_decide_eq_true (nf hb) | skip)))
    all_goals (first
      | (fail_if_success (refine Br.mk (i := 3) ?_))
      | (refine Br.mk (i := 3) ?_
         all_goals (refine WC.skip ?_)
         skip))
    all_goals (first
      | (fail_if_success (refine Br.mk (i := 4) ?_))
      | (refine Br.mk (i := 4) ?_
         all_goals (refine WC.exit ?_)
         all_goals (repeat' (with_reducible first | refine thenP_x ?_ | refine blockP_miss rfl ?_ | refine blockP_hit ?_ | refine blockP_n ?_ | refine thenP_n ?_))
         all_goals (refine Br.out (i := 1000) ?_)
         skip))
    all_goals (first | (refine Br.keep ?_) | (repeat' (with_reducible first | refine thenP_n ?_ | refine blockP_n ?_)))
    all_goals (first | (refine Br.keep ?_) | (refine WC.seq ?_))
    all_goals (first | (refine Br.keep ?_) | (refine WC.block ?_))
    all_goals (first | (refine Br.keep ?_) | (refine WC.seq ?_))
    all_goals (first | (refine Br.keep ?_) | (refine WC.region ?_))
    all_goals (first | (refine Br.keep ?_) | (refine WL.step (ok_move rfl) rfl rfl rfl ?_))
    all_goals (first | (refine Br.keep ?_) | (refine WL.step (ok_assign rfl) rfl rfl rfl ?_))
    all_goals (first | (refine Br.keep ?_) | (refine WL.nil ?_))
    all_goals (first | (refine Br.keep ?_) | (repeat' (with_reducible first | refine thenP_n ?_ | refine blockP_n ?_)))
    all_goals (first | (refine Br.keep ?_) | (refine WC.seq ?_))
    all_goals (first | (refine Br.keep ?_) | (refine WC.drawE fol (by kernel_rfl) ?_))
    all_goals (first | (refine Br.keep ?_) | (refine WQ.stepE (ok_move rfl) rfl rfl rfl ?_))
    all_goals (first | (refine Br.keep ?_) | (refine WQ.stepE (ok_move rfl) rfl rfl rfl ?_))
    all_goals (first | (refine Br.keep ?_) | (refine WQ.stepE (ok_idxAddrA Try.underlying44 (fun w => Try.sizeOf54 w) rfl rfl rfl (by omega) (by first | rfl | assumption)) rfl rfl rfl ?_))
    all_goals (first | (refine Br.keep ?_) | (refine WQ.stepE (ok_loadN (fun w => Try.isAgg54 w) (fun w => Try.sizeOf54 w) rfl rfl (by assumption)) rfl rfl rfl ?_))
    all_goals (first | (refine Br.keep ?_) | (refine WQ.stepE (ok_move rfl) rfl rfl rfl ?_))
    all_goals (first | (refine Br.keep ?_) | (refine WQ.stepE (ok_move rfl) rfl rfl rfl ?_))
    all_goals (first | (refine Br.keep ?_) | (refine WQ.stepE (ok_idxAddrA Try.underlying44 (fun w => Try.sizeOf54 w) rfl rfl rfl (by omega) (by first | rfl | assumption)) rfl rfl rfl ?_))
    all_goals (first | (refine Br.keep ?_) | (refine WQ.stepE (ok_loadN (fun w => Try.isAgg54 w) (fun w => Try.sizeOf54 w) rfl rfl (by assumption)) rfl rfl rfl ?_))
    all_goals (first | (refine Br.keep ?_) | (fail "no rule for binOp at 6.8"))
    all_goals (first | (refine Br.keep ?_) | (refine WQ.nil ?_))
    all_goals (first | (refine Br.keep ?_) | (repeat' (with_reducible first | refine thenP_n ?_ | refine blockP_n ?_)))
    all_goals (first | (refine Br.keep ?_) | (refine WC.sub [(0, _), (1, _), (12, _), (13, _), (24, _)] ⟨rfl, rfl, rfl, rfl, rfl, trivial⟩ ?_))
    all_goals (first | (refine Br.keep ?_) | (first | refine WC.condB_t 5 rfl ?_ | refine WC.condB_f 6 rfl ?_ | (refine WC.condB 5 6 rfl (fun hb => ?_) (fun hb => ?_) <;> (first | replace hb := of_decide_eq_true hb | replace hb := of_decide_eq_false hb | replace hb := of_decide_eq_false (nt hb) | replace hb := of_decide_eq_true (nf hb) | skip))))
    all_goals (first
      | (fail_if_success (refine Br.mk (i := 5) ?_))
      | (refine Br.mk (i := 5) ?_
         all_goals (refine WC.seq ?_)
         all_goals (refine WC.region ?_)
         all_goals (refine WL.step (ok_assign rfl) rfl rfl rfl ?_)
         all_goals (refine WL.nil ?_)
         all_goals (repeat' (with_reducible first | refine thenP_n ?_ | refine blockP_n ?_))
         all_goals (refine WC.sub [(4, _)] ⟨rfl, trivial⟩ ?_)
         all_goals (refine WC.ret ?_)
         all_goals (repeat' (with_reducible first | refine thenP_r ?_ | refine blockP_r ?_))
         all_goals (refine retP_1 _ ⟨rfl, trivial⟩ ?_)
         all_goals (exact ⟨by rw [decide_eq_false hne], rfl⟩)
         skip))
    all_goals (first
      | (fail_if_success (refine Br.mk (i := 6) ?_))
      | (refine Br.mk (i := 6) ?_
         all_goals (refine WC.skip ?_)
         skip))
    all_goals (first | (refine Br.keep ?_) | (repeat' (with_reducible first | refine thenP_n ?_ | refine blockP_n ?_)))
    all_goals (first | (refine Br.keep ?_) | (refine WC.region ?_))
    all_goals (first | (refine Br.keep ?_) | (first | (refine WL.step (ok_addI rfl rfl (by omega)) rfl rfl rfl ?_) | (refine WL.step (ok_add rfl rfl) rfl rfl rfl ?_)))
    all_goals (first | (refine Br.keep ?_) | (refine WL.step (ok_move rfl) rfl rfl rfl ?_))
    all_goals (first | (refine Br.keep ?_) | (refine WL.nil ?_))
    all_goals (first | (refine Br.keep ?_) | (repeat' (with_reducible first | refine thenP_n ?_ | refine blockP_n ?_)))
    all_goals (first | (refine Br.keep ?_) | (exact ⟨None, ⟨rfl, rfl, rfl, rfl, trivial⟩, (by exact ⟨⟩), (by simp; omega)⟩))
    all_goals (try (refine Br.mk (i := 1000) ?_))
    all_goals (repeat' (with_reducible first | refine thenP_n ?_ | refine blockP_n ?_))
    all_goals (refine WC.sub [] trivial ?_)
    all_goals (refine WC.seq ?_)
    all_goals (refine WC.region ?_)
    all_goals (refine WL.step (ok_assign rfl) rfl rfl rfl ?_)
    all_goals (refine WL.nil ?_)
    all_goals (repeat' (with_reducible first | refine thenP_n ?_ | refine blockP_n ?_))
    all_goals (refine WC.ret ?_)
    all_goals (repeat' (with_reducible first | refine thenP_r ?_ | refine blockP_r ?_))
    all_goals (refine retP_1 _ ⟨rfl, trivial⟩ ?_)
    all_goals (exact ⟨by rw [decide_eq_false hne], rfl⟩)
set_option maxRecDepth 100000 in
theorem equal_nm {h : Heap} {v w : Value} (l m : List Nm) (hr : Rd h v 2 l.length (l.flatMap nmC)) (hs : Rd h w 2 m.length (m.flatMap nmC)) (hl : l.length ≤ 1000000) :
    CallsH Try.prog 72 ⟨[v, w]⟩ h fun u h' => u = .bool (decide (l = m)) ∧ h' = h := by
  obtain ⟨A, c, rfl, _⟩ := id hr
  obtain ⟨B, d, rfl, _⟩ := id hs
  by_cases hlm : l.length = m.length
  ·
    refine calls [(0, _), (1, _)] Try.func72 rfl Try.ntmps72 rfl ⟨rfl, rfl, trivial⟩ ?_
    all_goals (refine WC.seq ?_)
    all_goals (refine WC.region ?_)
    all_goals (refine WL.step (ok_assign rfl) rfl rfl rfl ?_)
    all_goals (refine WL.nil ?_)
    all_goals (repeat' (with_reducible first | refine thenP_n ?_ | refine blockP_n ?_))
    all_goals (refine WC.seq ?_)
    all_goals (refine WC.seq ?_)
    all_goals (refine WC.region ?_)
    all_goals (refine WL.step (ok_move rfl) rfl rfl rfl ?_)
    all_goals (refine WL.step (ok_lenL rfl Try.underlying80 rfl) rfl rfl rfl ?_)
    all_goals (refine WL.step (ok_move rfl) rfl rfl rfl ?_)
    all_goals (refine WL.step (ok_lenL rfl Try.underlying80 rfl) rfl rfl rfl ?_)
    all_goals (first | (refine WL.step (OkP.nbool_t (by omega) (ok_neq rfl rfl)) rfl rfl rfl ?_) | (refine WL.step (OkP.nbool_f (by omega) (ok_neq rfl rfl)) rfl rfl rfl ?_) | (refine WL.step (ok_neq rfl rfl) rfl rfl rfl ?_))
    all_goals (refine WL.nil ?_)
    all_goals (repeat' (with_reducible first | refine thenP_n ?_ | refine blockP_n ?_))
    all_goals (refine WC.sub [(0, _), (1, _), (10, _)] ⟨rfl, rfl, rfl, trivial⟩ ?_)
    all_goals (first | refine WC.condB_t 1 rfl ?_ | refine WC.condB_f 2 rfl ?_ | (refine WC.condB 1 2 rfl (fun hb => ?_) (fun hb => ?_) <;> (first | replace hb := of_decide_eq_true hb | replace hb := of_decide_eq_false hb | replace hb := of_decide_eq_false (nt hb) | replace hb := of_decide_eq_true (nf hb) | skip)))
    all_goals (first
      | (fail_if_success (refine Br.mk (i := 1) ?_))
      | (refine Br.mk (i := 1) ?_
         all_goals (refine WC.seq ?_)
         all_goals (refine WC.region ?_)
         all_goals (refine WL.step (ok_assign rfl) rfl rfl rfl ?_)
         all_goals (refine WL.nil ?_)
         all_goals (repeat' (with_reducible first | refine thenP_n ?_ | refine blockP_n ?_))
         all_goals (refine WC.ret ?_)
         all_goals (repeat' (with_reducible first | refine thenP_r ?_ | refine blockP_r ?_))
         all_goals (refine retP_1 _ ⟨rfl, trivial⟩ ?_)
         all_goals (first
                     | exact ⟨by rw [decide_eq_true (same_ofX hn (by omega) (by omega))], rfl⟩
                     | exact ⟨by rw [decide_eq_false (ne_of_atX hx hy hxy)], rfl⟩)
         skip))
    all_goals (first
      | (fail_if_success (refine Br.mk (i := 2) ?_))
      | (refine Br.mk (i := 2) ?_
         all_goals (refine WC.skip ?_)
         skip))
    all_goals (repeat' (with_reducible first | refine thenP_n ?_ | refine blockP_n ?_))
    all_goals (refine WC.seq ?_)
    all_goals (refine WC.seq ?_)
    all_goals (refine WC.region ?_)
    all_goals (refine WL.step (ok_move rfl) rfl rfl rfl ?_)
    all_goals (refine WL.step (ok_lenL rfl Try.underlying80 rfl) rfl rfl rfl ?_)
    all_goals (refine WL.step (ok_move rfl) rfl rfl rfl ?_)
    all_goals (refine WL.nil ?_)
    all_goals (repeat' (with_reducible first | refine thenP_n ?_ | refine blockP_n ?_))
    all_goals (refine WC.block ?_)
    -- loop 0: slots that turn [13], that stay [0, 1, 12]
    all_goals (refine WC.loopG (X := Nat) (fun x => ([(13, In (x : Int))] : Fr)) [(0, _), (1, _), (12, _)] (fun k h' => h' = h ∧ k ≤ l.length ∧ l.take k = m.take k) (fun k => l.length - k) (0) ⟨rfl, rfl, rfl, rfl, trivial⟩ (by exact ⟨rfl, Nat.zero_le _, by simp⟩) ?_)
    all_goals (rintro k h9 ⟨hz, hk, hn⟩
               subst h9)
    all_goals (refine WC.sub [(13, _), (0, _), (1, _), (12, _)] ⟨rfl, rfl, rfl, rfl, trivial⟩ ?_)
    all_goals (refine WC.seq ?_)
    all_goals (refine WC.region ?_)
    all_goals (first | (refine WL.step (OkP.bool_t (by omega) (ok_lss rfl rfl)) rfl rfl rfl ?_) | (refine WL.step (OkP.bool_f (by omega) (ok_lss rfl rfl)) rfl rfl rfl ?_) | (refine WL.step (ok_lss rfl rfl) rfl rfl rfl ?_))
    all_goals (refine WL.nil ?_)
    all_goals (repeat' (with_reducible first | refine thenP_n ?_ | refine blockP_n ?_))
    all_goals (refine WC.seq ?_)
    all_goals (first | refine WC.condB_t 3 rfl ?_ | refine WC.condB_f 4 rfl ?_ | (refine WC.condB 3 4 rfl (fun hb => ?_) (fun hb => ?_) <;> (first | replace hb := of_decide_eq_true hb | replace hb := of_decide_eq_false hb | replace hb := of_decide_eq_false (nt hb) | replace hb := of_decide_eq_true (nf hb) | skip)))
    all_goals (first
      | (fail_if_success (refine Br.mk (i := 3) ?_))
      | (refine Br.mk (i := 3) ?_
         all_goals (refine WC.skip ?_)
         skip))
    all_goals (first
      | (fail_if_success (refine Br.mk (i := 4) ?_))
      | (refine Br.mk (i := 4) ?_
         all_goals (refine WC.exit ?_)
         all_goals (repeat' (with_reducible first | refine thenP_x ?_ | refine blockP_miss rfl ?_ | refine blockP_hit ?_ | refine blockP_n ?_ | refine thenP_n ?_))
         all_goals (refine Br.out (i := 1000) ?_)
         skip))
    all_goals (first | (refine Br.keep ?_) | (repeat' (with_reducible first | refine thenP_n ?_ | refine blockP_n ?_)))
    all_goals (first | (refine Br.keep ?_) | (refine WC.seq ?_))
    all_goals (first | (refine Br.keep ?_) | (refine WC.block ?_))
    all_goals (first | (refine Br.keep ?_) | (refine WC.seq ?_))
    all_goals (first | (refine Br.keep ?_) | (refine WC.region ?_))
    all_goals (first
                 | (refine Br.keep ?_)
                 | (obtain ⟨bL, oL, hA, hbL, hat⟩ := Rd.at_ hr (by omega)
                    obtain ⟨bM, oM, hB, hbM, hbt⟩ := Rd.at_ hs (by omega)
                    obtain ⟨⟨xa, xb⟩, hx⟩ : ∃ y, l[k]? = some y := ⟨_, List.getElem?_eq_getElem (by omega)⟩
                    obtain ⟨⟨ya, yb⟩, hy⟩ : ∃ y, m[k]? = some y := ⟨_, List.getElem?_eq_getElem (by omega)⟩
                    have hc : At h bL (oL + k * 2) [St xa, In xb] := At.elem nmC_len hat hx
                    have hd : At h bM (oM + k * 2) [St ya, In yb] := At.elem nmC_len hbt hy
                    by_cases hxy : ((xa, xb) : Nm) = (ya, yb)))
    all_goals (first | (refine Br.keep ?_) | (refine WL.step (ok_move rfl) rfl rfl rfl ?_))
    all_goals (first | (refine Br.keep ?_) | (refine WL.step (ok_assign rfl) rfl rfl rfl ?_))
    all_goals (first | (refine Br.keep ?_) | (refine WL.nil ?_))
    all_goals (first | (refine Br.keep ?_) | (repeat' (with_reducible first | refine thenP_n ?_ | refine blockP_n ?_)))
    all_goals (first | (refine Br.keep ?_) | (refine WC.seq ?_))
    all_goals (first | (refine Br.keep ?_) | (refine WC.drawE fol (by kernel_rfl) ?_))
    all_goals (first | (refine Br.keep ?_) | (refine WQ.stepE (ok_move rfl) rfl rfl rfl ?_))
    all_goals (first | (refine Br.keep ?_) | (refine WQ.stepE (ok_move rfl) rfl rfl rfl ?_))
    all_goals (first | (refine Br.keep ?_) | (refine WQ.stepE (ok_idxAddrA Try.underlying80 (fun w => Try.sizeOf86 w) rfl rfl rfl (by omega) (by first | rfl | assumption)) rfl rfl rfl ?_))
    all_goals (first | (refine Br.keep ?_) | (refine WQ.stepE (ok_loadN (fun w => Try.isAgg86 w) (fun w => Try.sizeOf86 w) rfl rfl (by assumption)) rfl rfl rfl ?_))
    all_goals (first | (refine Br.keep ?_) | (refine WQ.stepE (ok_move rfl) rfl rfl rfl ?_))
    all_goals (first | (refine Br.keep ?_) | (refine WQ.stepE (ok_move rfl) rfl rfl rfl ?_))
    all_goals (first | (refine Br.keep ?_) | (refine WQ.stepE (ok_idxAddrA Try.underlying80 (fun w => Try.sizeOf86 w) rfl rfl rfl (by omega) (by first | rfl | assumption)) rfl rfl rfl ?_))
    all_goals (first | (refine Br.keep ?_) | (refine WQ.stepE (ok_loadN (fun w => Try.isAgg86 w) (fun w => Try.sizeOf86 w) rfl rfl (by assumption)) rfl rfl rfl ?_))
    all_goals (first
                 | (refine Br.keep ?_)
                 | (first
                     | refine WQ.stepE (OkP.nbool_f ((nmS_inj (xa, xb) (ya, yb)).2 hxy) (ok_neqF (us := [.s xa, .i .i64 xb]) (vs := [.s ya, .i .i64 yb]) [.s, .i .i64] (by kernel_rfl) rfl rfl rfl rfl)) rfl rfl rfl ?_
                     | refine WQ.stepE (OkP.nbool_t (fun e => hxy ((nmS_inj (xa, xb) (ya, yb)).1 e)) (ok_neqF (us := [.s xa, .i .i64 xb]) (vs := [.s ya, .i .i64 yb]) [.s, .i .i64] (by kernel_rfl) rfl rfl rfl rfl)) rfl rfl rfl ?_))
    all_goals (first | (refine Br.keep ?_) | (refine WQ.nil ?_))
    all_goals (first | (refine Br.keep ?_) | (repeat' (with_reducible first | refine thenP_n ?_ | refine blockP_n ?_)))
    all_goals (first | (refine Br.keep ?_) | (refine WC.sub [(0, _), (1, _), (12, _), (13, _), (24, _)] ⟨rfl, rfl, rfl, rfl, rfl, trivial⟩ ?_))
    all_goals (first | (refine Br.keep ?_) | (first | refine WC.condB_t 5 rfl ?_ | refine WC.condB_f 6 rfl ?_ | (refine WC.condB 5 6 rfl (fun hb => ?_) (fun hb => ?_) <;> (first | replace hb := of_decide_eq_true hb | replace hb := of_decide_eq_false hb | replace hb := of_decide_eq_false (nt hb) | replace hb := of_decide_eq_true (nf hb) | skip))))
    all_goals (first
      | (fail_if_success (refine Br.mk (i := 5) ?_))
      | (refine Br.mk (i := 5) ?_
         all_goals (refine WC.seq ?_)
         all_goals (refine WC.region ?_)
         all_goals (refine WL.step (ok_assign rfl) rfl rfl rfl ?_)
         all_goals (refine WL.nil ?_)
         all_goals (repeat' (with_reducible first | refine thenP_n ?_ | refine blockP_n ?_))
         all_goals (refine WC.sub [(4, _)] ⟨rfl, trivial⟩ ?_)
         all_goals (refine WC.ret ?_)
         all_goals (repeat' (with_reducible first | refine thenP_r ?_ | refine blockP_r ?_))
         all_goals (refine retP_1 _ ⟨rfl, trivial⟩ ?_)
         all_goals (first
                     | exact ⟨by rw [decide_eq_true (same_ofX hn (by omega) (by omega))], rfl⟩
                     | exact ⟨by rw [decide_eq_false (ne_of_atX hx hy hxy)], rfl⟩)
         skip))
    all_goals (first
      | (fail_if_success (refine Br.mk (i := 6) ?_))
      | (refine Br.mk (i := 6) ?_
         all_goals (refine WC.skip ?_)
         skip))
    all_goals (first | (refine Br.keep ?_) | (repeat' (with_reducible first | refine thenP_n ?_ | refine blockP_n ?_)))
    all_goals (first | (refine Br.keep ?_) | (refine WC.region ?_))
    all_goals (first | (refine Br.keep ?_) | (first | (refine WL.step (ok_addI rfl rfl (by omega)) rfl rfl rfl ?_) | (refine WL.step (ok_add rfl rfl) rfl rfl rfl ?_)))
    all_goals (first | (refine Br.keep ?_) | (refine WL.step (ok_move rfl) rfl rfl rfl ?_))
    all_goals (first | (refine Br.keep ?_) | (refine WL.nil ?_))
    all_goals (first | (refine Br.keep ?_) | (repeat' (with_reducible first | refine thenP_n ?_ | refine blockP_n ?_)))
    all_goals (first | (refine Br.keep ?_) | (exact ⟨k + 1, ⟨rfl, rfl, rfl, rfl, trivial⟩, (by exact ⟨rfl, by omega, take_sameX hn hx (by rw [hxy]; exact hy)⟩), (by omega)⟩))
    all_goals (try (refine Br.mk (i := 1000) ?_))
    all_goals (repeat' (with_reducible first | refine thenP_n ?_ | refine blockP_n ?_))
    all_goals (refine WC.sub [] trivial ?_)
    all_goals (refine WC.seq ?_)
    all_goals (refine WC.region ?_)
    all_goals (refine WL.step (ok_assign rfl) rfl rfl rfl ?_)
    all_goals (refine WL.nil ?_)
    all_goals (repeat' (with_reducible first | refine thenP_n ?_ | refine blockP_n ?_))
    all_goals (refine WC.ret ?_)
    all_goals (repeat' (with_reducible first | refine thenP_r ?_ | refine blockP_r ?_))
    all_goals (refine retP_1 _ ⟨rfl, trivial⟩ ?_)
    all_goals (first
                | exact ⟨by rw [decide_eq_true (same_ofX hn (by omega) (by omega))], rfl⟩
                | exact ⟨by rw [decide_eq_false (ne_of_atX hx hy hxy)], rfl⟩)
  · have hne : l ≠ m := fun e => hlm (by rw [e])
    refine calls [(0, _), (1, _)] Try.func72 rfl Try.ntmps72 rfl ⟨rfl, rfl, trivial⟩ ?_
    all_goals (refine WC.seq ?_)
    all_goals (refine WC.region ?_)
    all_goals (refine WL.step (ok_assign rfl) rfl rfl rfl ?_)
    all_goals (refine WL.nil ?_)
    all_goals (repeat' (with_reducible first | refine thenP_n ?_ | refine blockP_n ?_))
    all_goals (refine WC.seq ?_)
    all_goals (refine WC.seq ?_)
    all_goals (refine WC.region ?_)
    all_goals (refine WL.step (ok_move rfl) rfl rfl rfl ?_)
    all_goals (refine WL.step (ok_lenL rfl Try.underlying80 rfl) rfl rfl rfl ?_)
    all_goals (refine WL.step (ok_move rfl) rfl rfl rfl ?_)
    all_goals (refine WL.step (ok_lenL rfl Try.underlying80 rfl) rfl rfl rfl ?_)
    all_goals (first | (refine WL.step (OkP.nbool_t (by omega) (ok_neq rfl rfl)) rfl rfl rfl ?_) | (refine WL.step (OkP.nbool_f (by omega) (ok_neq rfl rfl)) rfl rfl rfl ?_) | (refine WL.step (ok_neq rfl rfl) rfl rfl rfl ?_))
    all_goals (refine WL.nil ?_)
    all_goals (repeat' (with_reducible first | refine thenP_n ?_ | refine blockP_n ?_))
    all_goals (refine WC.sub [(0, _), (1, _), (10, _)] ⟨rfl, rfl, rfl, trivial⟩ ?_)
    all_goals (first | refine WC.condB_t 1 rfl ?_ | refine WC.condB_f 2 rfl ?_ | (refine WC.condB 1 2 rfl (fun hb => ?_) (fun hb => ?_) <;> (first | replace hb := of_decide_eq_true hb | replace hb := of_decide_eq_false hb | replace hb := of_decide_eq_false (nt hb) | replace hb := of_decide_eq_true (nf hb) | skip)))
    all_goals (first
      | (fail_if_success (refine Br.mk (i := 1) ?_))
      | (refine Br.mk (i := 1) ?_
         all_goals (refine WC.seq ?_)
         all_goals (refine WC.region ?_)
         all_goals (refine WL.step (ok_assign rfl) rfl rfl rfl ?_)
         all_goals (refine WL.nil ?_)
         all_goals (repeat' (with_reducible first | refine thenP_n ?_ | refine blockP_n ?_))
         all_goals (refine WC.ret ?_)
         all_goals (repeat' (with_reducible first | refine thenP_r ?_ | refine blockP_r ?_))
         all_goals (refine retP_1 _ ⟨rfl, trivial⟩ ?_)
         all_goals (exact ⟨by rw [decide_eq_false hne], rfl⟩)
         skip))
    all_goals (first
      | (fail_if_success (refine Br.mk (i := 2) ?_))
      | (refine Br.mk (i := 2) ?_
         all_goals (refine WC.skip ?_)
         skip))
    all_goals (repeat' (with_reducible first | refine thenP_n ?_ | refine blockP_n ?_))
    all_goals (refine WC.seq ?_)
    all_goals (refine WC.seq ?_)
    all_goals (refine WC.region ?_)
    all_goals (refine WL.step (ok_move rfl) rfl rfl rfl ?_)
    all_goals (refine WL.step (ok_lenL rfl Try.underlying80 rfl) rfl rfl rfl ?_)
    all_goals (refine WL.step (ok_move rfl) rfl rfl rfl ?_)
    all_goals (refine WL.nil ?_)
    all_goals (repeat' (with_reducible first | refine thenP_n ?_ | refine blockP_n ?_))
    all_goals (refine WC.block ?_)
    -- loop 0: slots that turn [13], that stay [0, 1, 12]
    all_goals (refine WC.loopG (fun x => (None : Fr)) [(0, _), (1, _), (12, _)] (None) (None) (None) ⟨rfl, rfl, rfl, rfl, trivial⟩ (by exact ⟨⟩) ?_)
    all_goals (rintro x h1 hI)
    all_goals (refine WC.sub [(13, _), (0, _), (1, _), (12, _)] ⟨rfl, rfl, rfl, rfl, trivial⟩ ?_)
    all_goals (refine WC.seq ?_)
    all_goals (refine WC.region ?_)
    all_goals (first | (refine WL.step (OkP.bool_t (by omega) (ok_lss rfl rfl)) rfl rfl rfl ?_) | (refine WL.step (OkP.bool_f (by omega) (ok_lss rfl rfl)) rfl rfl rfl ?_) | (refine WL.step (ok_lss rfl rfl) rfl rfl rfl ?_))
    all_goals (refine WL.nil ?_)
    all_goals (repeat' (with_reducible first | refine thenP_n ?_ | refine blockP_n ?_))
    all_goals (refine WC.seq ?_)
    all_goals (first | refine WC.condB_t 3 rfl ?_ | refine WC.condB_f 4 rfl ?_ | (refine WC.condB 3 4 rfl (fun hb => ?_) (fun hb => ?_) <;> (first | replace hb := of_decide_eq_true hb | replace hb := of_decide_eq_false hb | replace hb := of_decide_eq_false (nt hb) | replace hb := of_decide_eq_true (nf hb) | skip)))
    all_goals (first
      | (fail_if_success (refine Br.mk (i := 3) ?_))
      | (refine Br.mk (i := 3) ?_
         all_goals (refine WC.skip ?_)
         skip))
    all_goals (first
      | (fail_if_success (refine Br.mk (i := 4) ?_))
      | (refine Br.mk (i := 4) ?_
         all_goals (refine WC.exit ?_)
         all_goals (repeat' (with_reducible first | refine thenP_x ?_ | refine blockP_miss rfl ?_ | refine blockP_hit ?_ | refine blockP_n ?_ | refine thenP_n ?_))
         all_goals (refine Br.out (i := 1000) ?_)
         skip))
    all_goals (first | (refine Br.keep ?_) | (repeat' (with_reducible first | refine thenP_n ?_ | refine blockP_n ?_)))
    all_goals (first | (refine Br.keep ?_) | (refine WC.seq ?_))
    all_goals (first | (refine Br.keep ?_) | (refine WC.block ?_))
    all_goals (first | (refine Br.keep ?_) | (refine WC.seq ?_))
    all_goals (first | (refine Br.keep ?_) | (refine WC.region ?_))
    all_goals (first | (refine Br.keep ?_) | (refine WL.step (ok_move rfl) rfl rfl rfl ?_))
    all_goals (first | (refine Br.keep ?_) | (refine WL.step (ok_assign rfl) rfl rfl rfl ?_))
    all_goals (first | (refine Br.keep ?_) | (refine WL.nil ?_))
    all_goals (first | (refine Br.keep ?_) | (repeat' (with_reducible first | refine thenP_n ?_ | refine blockP_n ?_)))
    all_goals (first | (refine Br.keep ?_) | (refine WC.seq ?_))
    all_goals (first | (refine Br.keep ?_) | (refine WC.drawE fol (by kernel_rfl) ?_))
    all_goals (first | (refine Br.keep ?_) | (refine WQ.stepE (ok_move rfl) rfl rfl rfl ?_))
    all_goals (first | (refine Br.keep ?_) | (refine WQ.stepE (ok_move rfl) rfl rfl rfl ?_))
    all_goals (first | (refine Br.keep ?_) | (refine WQ.stepE (ok_idxAddrA Try.underlying80 (fun w => Try.sizeOf86 w) rfl rfl rfl (by omega) (by first | rfl | assumption)) rfl rfl rfl ?_))
    all_goals (first | (refine Br.keep ?_) | (refine WQ.stepE (ok_loadN (fun w => Try.isAgg86 w) (fun w => Try.sizeOf86 w) rfl rfl (by assumption)) rfl rfl rfl ?_))
    all_goals (first | (refine Br.keep ?_) | (refine WQ.stepE (ok_move rfl) rfl rfl rfl ?_))
    all_goals (first | (refine Br.keep ?_) | (refine WQ.stepE (ok_move rfl) rfl rfl rfl ?_))
    all_goals (first | (refine Br.keep ?_) | (refine WQ.stepE (ok_idxAddrA Try.underlying80 (fun w => Try.sizeOf86 w) rfl rfl rfl (by omega) (by first | rfl | assumption)) rfl rfl rfl ?_))
    all_goals (first | (refine Br.keep ?_) | (refine WQ.stepE (ok_loadN (fun w => Try.isAgg86 w) (fun w => Try.sizeOf86 w) rfl rfl (by assumption)) rfl rfl rfl ?_))
    all_goals (first | (refine Br.keep ?_) | (fail "no rule for binOp at 6.8"))
    all_goals (first | (refine Br.keep ?_) | (refine WQ.nil ?_))
    all_goals (first | (refine Br.keep ?_) | (repeat' (with_reducible first | refine thenP_n ?_ | refine blockP_n ?_)))
    all_goals (first | (refine Br.keep ?_) | (refine WC.sub [(0, _), (1, _), (12, _), (13, _), (24, _)] ⟨rfl, rfl, rfl, rfl, rfl, trivial⟩ ?_))
    all_goals (first | (refine Br.keep ?_) | (first | refine WC.condB_t 5 rfl ?_ | refine WC.condB_f 6 rfl ?_ | (refine WC.condB 5 6 rfl (fun hb => ?_) (fun hb => ?_) <;> (first | replace hb := of_decide_eq_true hb | replace hb := of_decide_eq_false hb | replace hb := of_decide_eq_false (nt hb) | replace hb := of_decide_eq_true (nf hb) | skip))))
    all_goals (first
      | (fail_if_success (refine Br.mk (i := 5) ?_))
      | (refine Br.mk (i := 5) ?_
         all_goals (refine WC.seq ?_)
         all_goals (refine WC.region ?_)
         all_goals (refine WL.step (ok_assign rfl) rfl rfl rfl ?_)
         all_goals (refine WL.nil ?_)
         all_goals (repeat' (with_reducible first | refine thenP_n ?_ | refine blockP_n ?_))
         all_goals (refine WC.sub [(4, _)] ⟨rfl, trivial⟩ ?_)
         all_goals (refine WC.ret ?_)
         all_goals (repeat' (with_reducible first | refine thenP_r ?_ | refine blockP_r ?_))
         all_goals (refine retP_1 _ ⟨rfl, trivial⟩ ?_)
         all_goals (exact ⟨by rw [decide_eq_false hne], rfl⟩)
         skip))
    all_goals (first
      | (fail_if_success (refine Br.mk (i := 6) ?_))
      | (refine Br.mk (i := 6) ?_
         all_goals (refine WC.skip ?_)
         skip))
    all_goals (first | (refine Br.keep ?_) | (repeat' (with_reducible first | refine thenP_n ?_ | refine blockP_n ?_)))
    all_goals (first | (refine Br.keep ?_) | (refine WC.region ?_))
    all_goals (first | (refine Br.keep ?_) | (first | (refine WL.step (ok_addI rfl rfl (by omega)) rfl rfl rfl ?_) | (refine WL.step (ok_add rfl rfl) rfl rfl rfl ?_)))
    all_goals (first | (refine Br.keep ?_) | (refine WL.step (ok_move rfl) rfl rfl rfl ?_))
    all_goals (first | (refine Br.keep ?_) | (refine WL.nil ?_))
    all_goals (first | (refine Br.keep ?_) | (repeat' (with_reducible first | refine thenP_n ?_ | refine blockP_n ?_)))
    all_goals (first | (refine Br.keep ?_) | (exact ⟨None, ⟨rfl, rfl, rfl, rfl, trivial⟩, (by exact ⟨⟩), (by simp; omega)⟩))
    all_goals (try (refine Br.mk (i := 1000) ?_))
    all_goals (repeat' (with_reducible first | refine thenP_n ?_ | refine blockP_n ?_))
    all_goals (refine WC.sub [] trivial ?_)
    all_goals (refine WC.seq ?_)
    all_goals (refine WC.region ?_)
    all_goals (refine WL.step (ok_assign rfl) rfl rfl rfl ?_)
    all_goals (refine WL.nil ?_)
    all_goals (repeat' (with_reducible first | refine thenP_n ?_ | refine blockP_n ?_))
    all_goals (refine WC.ret ?_)
    all_goals (repeat' (with_reducible first | refine thenP_r ?_ | refine blockP_r ?_))
    all_goals (refine retP_1 _ ⟨rfl, trivial⟩ ?_)
    all_goals (exact ⟨by rw [decide_eq_false hne], rfl⟩)
set_option maxRecDepth 100000 in
theorem counts46 {h : Heap} {v w : Value} (l m : List Cn) (hr : Rd h v 2 l.length (l.flatMap cnC)) (hs : Rd h w 2 m.length (m.flatMap cnC)) (hl : l.length ≤ 1000000) :
    CallsH Try.prog 28 ⟨[v, w]⟩ h fun u h' => u = .bool (decide (l = m)) ∧ h' = h := by
  obtain ⟨A, c, rfl, _⟩ := id hr
  obtain ⟨B, d, rfl, _⟩ := id hs
  by_cases hlm : l.length = m.length
  ·
    refine calls [(0, _), (1, _)] Try.func28 rfl Try.ntmps28 rfl ⟨rfl, rfl, trivial⟩ ?_
    all_goals (refine WC.seq ?_)
    all_goals (refine WC.region ?_)
    all_goals (refine WL.step (ok_assign rfl) rfl rfl rfl ?_)
    all_goals (refine WL.nil ?_)
    all_goals (repeat' (with_reducible first | refine thenP_n ?_ | refine blockP_n ?_))
    all_goals (refine WC.seq ?_)
    all_goals (refine WC.seq ?_)
    all_goals (refine WC.region ?_)
    all_goals (refine WL.step (ok_move rfl) rfl rfl rfl ?_)
    all_goals (refine WL.step (ok_lenL rfl Try.underlying44 rfl) rfl rfl rfl ?_)
    all_goals (refine WL.step (ok_move rfl) rfl rfl rfl ?_)
    all_goals (refine WL.step (ok_lenL rfl Try.underlying44 rfl) rfl rfl rfl ?_)
    all_goals (first | (refine WL.step (OkP.nbool_t (by omega) (ok_neq rfl rfl)) rfl rfl rfl ?_) | (refine WL.step (OkP.nbool_f (by omega) (ok_neq rfl rfl)) rfl rfl rfl ?_) | (refine WL.step (ok_neq rfl rfl) rfl rfl rfl ?_))
    all_goals (refine WL.nil ?_)
    all_goals (repeat' (with_reducible first | refine thenP_n ?_ | refine blockP_n ?_))
    all_goals (refine WC.sub [(0, _), (1, _), (10, _)] ⟨rfl, rfl, rfl, trivial⟩ ?_)
    all_goals (first | refine WC.condB_t 1 rfl ?_ | refine WC.condB_f 2 rfl ?_ | (refine WC.condB 1 2 rfl (fun hb => ?_) (fun hb => ?_) <;> (first | replace hb := of_decide_eq_true hb | replace hb := of_decide_eq_false hb | replace hb := of_decide_eq_false (nt hb) | replace hb := of_decide_eq_true (nf hb) | skip)))
    all_goals (first
      | (fail_if_success (refine Br.mk (i := 1) ?_))
      | (refine Br.mk (i := 1) ?_
         all_goals (refine WC.seq ?_)
         all_goals (refine WC.region ?_)
         all_goals (refine WL.step (ok_assign rfl) rfl rfl rfl ?_)
         all_goals (refine WL.nil ?_)
         all_goals (repeat' (with_reducible first | refine thenP_n ?_ | refine blockP_n ?_))
         all_goals (refine WC.ret ?_)
         all_goals (repeat' (with_reducible first | refine thenP_r ?_ | refine blockP_r ?_))
         all_goals (refine retP_1 _ ⟨rfl, trivial⟩ ?_)
         all_goals (first
                     | exact ⟨by rw [decide_eq_true (same_ofX hn (by omega) (by omega))], rfl⟩
                     | exact ⟨by rw [decide_eq_false (ne_of_atX hx hy hxy)], rfl⟩)
         skip))
    all_goals (first
      | (fail_if_success (refine Br.mk (i := 2) ?_))
      | (refine Br.mk (i := 2) ?_
         all_goals (refine WC.skip ?_)
         skip))
    all_goals (repeat' (with_reducible first | refine thenP_n ?_ | refine blockP_n ?_))
    all_goals (refine WC.seq ?_)
    all_goals (refine WC.seq ?_)
    all_goals (refine WC.region ?_)
    all_goals (refine WL.step (ok_assign rfl) rfl rfl rfl ?_)
    all_goals (refine WL.nil ?_)
    all_goals (repeat' (with_reducible first | refine thenP_n ?_ | refine blockP_n ?_))
    all_goals (refine WC.block ?_)
    -- loop 0: slots that turn [5], that stay [0, 1]
    all_goals (refine WC.loopG (X := Nat) (fun x => ([(5, In (x : Int))] : Fr)) [(0, _), (1, _)] (fun k h' => h' = h ∧ k ≤ l.length ∧ l.take k = m.take k) (fun k => l.length - k) (0) ⟨rfl, rfl, rfl, trivial⟩ (by exact ⟨rfl, Nat.zero_le _, by simp⟩) ?_)
    all_goals (rintro k h9 ⟨hz, hk, hn⟩
               subst h9)
    all_goals (refine WC.sub [(5, _), (0, _), (1, _)] ⟨rfl, rfl, rfl, trivial⟩ ?_)
    all_goals (refine WC.seq ?_)
    all_goals (refine WC.seq ?_)
    all_goals (refine WC.region ?_)
    all_goals (refine WL.step (ok_move rfl) rfl rfl rfl ?_)
    all_goals (refine WL.step (ok_move rfl) rfl rfl rfl ?_)
    all_goals (refine WL.step (ok_lenL rfl Try.underlying44 rfl) rfl rfl rfl ?_)
    all_goals (first | (refine WL.step (OkP.bool_t (by omega) (ok_lss rfl rfl)) rfl rfl rfl ?_) | (refine WL.step (OkP.bool_f (by omega) (ok_lss rfl rfl)) rfl rfl rfl ?_) | (refine WL.step (ok_lss rfl rfl) rfl rfl rfl ?_))
    all_goals (refine WL.nil ?_)
    all_goals (repeat' (with_reducible first | refine thenP_n ?_ | refine blockP_n ?_))
    all_goals (first | refine WC.condB_t 3 rfl ?_ | refine WC.condB_f 4 rfl ?_ | (refine WC.condB 3 4 rfl (fun hb => ?_) (fun hb => ?_) <;> (first | replace hb := of_decide_eq_true hb | replace hb := of_decide_eq_false hb | replace hb := of_decide_eq_false (nt hb) | replace hb := of_decide_eq_true (nf hb) | skip)))
    all_goals (first
      | (fail_if_success (refine Br.mk (i := 3) ?_))
      | (refine Br.mk (i := 3) ?_
         all_goals (refine WC.skip ?_)
         skip))
    all_goals (first
      | (fail_if_success (refine Br.mk (i := 4) ?_))
      | (refine Br.mk (i := 4) ?_
         all_goals (refine WC.exit ?_)
         all_goals (repeat' (with_reducible first | refine thenP_x ?_ | refine blockP_miss rfl ?_ | refine blockP_hit ?_ | refine blockP_n ?_ | refine thenP_n ?_))
         all_goals (refine Br.out (i := 1000) ?_)
         skip))
    all_goals (first | (refine Br.keep ?_) | (repeat' (with_reducible first | refine thenP_n ?_ | refine blockP_n ?_)))
    all_goals (first | (refine Br.keep ?_) | (refine WC.sub [(0, _), (1, _), (5, _)] ⟨rfl, rfl, rfl, trivial⟩ ?_))
    all_goals (first | (refine Br.keep ?_) | (refine WC.seq ?_))
    all_goals (first | (refine Br.keep ?_) | (refine WC.block ?_))
    all_goals (first | (refine Br.keep ?_) | (refine WC.seq ?_))
    all_goals (first | (refine Br.keep ?_) | (refine WC.drawE fol (by kernel_rfl) ?_))
    all_goals (first
                 | (refine Br.keep ?_)
                 | (obtain ⟨bL, oL, hA, hbL, hat⟩ := Rd.at_ hr (by omega)
                    obtain ⟨bM, oM, hB, hbM, hbt⟩ := Rd.at_ hs (by omega)
                    obtain ⟨⟨xa, xb⟩, hx⟩ : ∃ y, l[k]? = some y := ⟨_, List.getElem?_eq_getElem (by omega)⟩
                    obtain ⟨⟨ya, yb⟩, hy⟩ : ∃ y, m[k]? = some y := ⟨_, List.getElem?_eq_getElem (by omega)⟩
                    have hc : At h bL (oL + k * 2) [In xa, In xb] := At.elem cnC_len hat hx
                    have hd : At h bM (oM + k * 2) [In ya, In yb] := At.elem cnC_len hbt hy
                    by_cases hxy : ((xa, xb) : Cn) = (ya, yb)))
    all_goals (first | (refine Br.keep ?_) | (refine WQ.stepE (ok_move rfl) rfl rfl rfl ?_))
    all_goals (first | (refine Br.keep ?_) | (refine WQ.stepE (ok_move rfl) rfl rfl rfl ?_))
    all_goals (first | (refine Br.keep ?_) | (refine WQ.stepE (ok_idxAddrA Try.underlying44 (fun w => Try.sizeOf54 w) rfl rfl rfl (by omega) (by first | rfl | assumption)) rfl rfl rfl ?_))
    all_goals (first | (refine Br.keep ?_) | (refine WQ.stepE (ok_loadN (fun w => Try.isAgg54 w) (fun w => Try.sizeOf54 w) rfl rfl (by assumption)) rfl rfl rfl ?_))
    all_goals (first | (refine Br.keep ?_) | (refine WQ.stepE (ok_move rfl) rfl rfl rfl ?_))
    all_goals (first | (refine Br.keep ?_) | (refine WQ.stepE (ok_move rfl) rfl rfl rfl ?_))
    all_goals (first | (refine Br.keep ?_) | (refine WQ.stepE (ok_idxAddrA Try.underlying44 (fun w => Try.sizeOf54 w) rfl rfl rfl (by omega) (by first | rfl | assumption)) rfl rfl rfl ?_))
    all_goals (first | (refine Br.keep ?_) | (refine WQ.stepE (ok_loadN (fun w => Try.isAgg54 w) (fun w => Try.sizeOf54 w) rfl rfl (by assumption)) rfl rfl rfl ?_))
    all_goals (first
                 | (refine Br.keep ?_)
                 | (first
                     | refine WQ.stepE (OkP.nbool_f ((cnS_inj (xa, xb) (ya, yb)).2 hxy) (ok_neqF (us := [.i .i64 xa, .i .i64 xb]) (vs := [.i .i64 ya, .i .i64 yb]) [.i .i64, .i .i64] (by kernel_rfl) rfl rfl rfl rfl)) rfl rfl rfl ?_
                     | refine WQ.stepE (OkP.nbool_t (fun e => hxy ((cnS_inj (xa, xb) (ya, yb)).1 e)) (ok_neqF (us := [.i .i64 xa, .i .i64 xb]) (vs := [.i .i64 ya, .i .i64 yb]) [.i .i64, .i .i64] (by kernel_rfl) rfl rfl rfl rfl)) rfl rfl rfl ?_))
    all_goals (first | (refine Br.keep ?_) | (refine WQ.nil ?_))
    all_goals (first | (refine Br.keep ?_) | (repeat' (with_reducible first | refine thenP_n ?_ | refine blockP_n ?_)))
    all_goals (first | (refine Br.keep ?_) | (refine WC.sub [(0, _), (1, _), (5, _), (25, _)] ⟨rfl, rfl, rfl, rfl, trivial⟩ ?_))
    all_goals (first | (refine Br.keep ?_) | (first | refine WC.condB_t 5 rfl ?_ | refine WC.condB_f 6 rfl ?_ | (refine WC.condB 5 6 rfl (fun hb => ?_) (fun hb => ?_) <;> (first | replace hb := of_decide_eq_true hb | replace hb := of_decide_eq_false hb | replace hb := of_decide_eq_false (nt hb) | replace hb := of_decide_eq_true (nf hb) | skip))))
    all_goals (first
      | (fail_if_success (refine Br.mk (i := 5) ?_))
      | (refine Br.mk (i := 5) ?_
         all_goals (refine WC.seq ?_)
         all_goals (refine WC.region ?_)
         all_goals (refine WL.step (ok_assign rfl) rfl rfl rfl ?_)
         all_goals (refine WL.nil ?_)
         all_goals (repeat' (with_reducible first | refine thenP_n ?_ | refine blockP_n ?_))
         all_goals (refine WC.sub [(4, _)] ⟨rfl, trivial⟩ ?_)
         all_goals (refine WC.ret ?_)
         all_goals (repeat' (with_reducible first | refine thenP_r ?_ | refine blockP_r ?_))
         all_goals (refine retP_1 _ ⟨rfl, trivial⟩ ?_)
         all_goals (first
                     | exact ⟨by rw [decide_eq_true (same_ofX hn (by omega) (by omega))], rfl⟩
                     | exact ⟨by rw [decide_eq_false (ne_of_atX hx hy hxy)], rfl⟩)
         skip))
    all_goals (first
      | (fail_if_success (refine Br.mk (i := 6) ?_))
      | (refine Br.mk (i := 6) ?_
         all_goals (refine WC.skip ?_)
         skip))
    all_goals (first | (refine Br.keep ?_) | (repeat' (with_reducible first | refine thenP_n ?_ | refine blockP_n ?_)))
    all_goals (first | (refine Br.keep ?_) | (refine WC.region ?_))
    all_goals (first | (refine Br.keep ?_) | (refine WL.step (ok_move rfl) rfl rfl rfl ?_))
    all_goals (first | (refine Br.keep ?_) | (first | (refine WL.step (ok_addI rfl rfl (by omega)) rfl rfl rfl ?_) | (refine WL.step (ok_add rfl rfl) rfl rfl rfl ?_)))
    all_goals (first | (refine Br.keep ?_) | (refine WL.step (ok_assign rfl) rfl rfl rfl ?_))
    all_goals (first | (refine Br.keep ?_) | (refine WL.nil ?_))
    all_goals (first | (refine Br.keep ?_) | (repeat' (with_reducible first | refine thenP_n ?_ | refine blockP_n ?_)))
    all_goals (first | (refine Br.keep ?_) | (exact ⟨k + 1, ⟨rfl, rfl, rfl, trivial⟩, (by exact ⟨rfl, by omega, take_sameX hn hx (by rw [hxy]; exact hy)⟩), (by omega)⟩))
    all_goals (try (refine Br.mk (i := 1000) ?_))
    all_goals (repeat' (with_reducible first | refine thenP_n ?_ | refine blockP_n ?_))
    all_goals (refine WC.sub [] trivial ?_)
    all_goals (refine WC.seq ?_)
    all_goals (refine WC.region ?_)
    all_goals (refine WL.step (ok_assign rfl) rfl rfl rfl ?_)
    all_goals (refine WL.nil ?_)
    all_goals (repeat' (with_reducible first | refine thenP_n ?_ | refine blockP_n ?_))
    all_goals (refine WC.ret ?_)
    all_goals (repeat' (with_reducible first | refine thenP_r ?_ | refine blockP_r ?_))
    all_goals (refine retP_1 _ ⟨rfl, trivial⟩ ?_)
    all_goals (first
                | exact ⟨by rw [decide_eq_true (same_ofX hn (by omega) (by omega))], rfl⟩
                | exact ⟨by rw [decide_eq_false (ne_of_atX hx hy hxy)], rfl⟩)
  · have hne : l ≠ m := fun e => hlm (by rw [e])
    refine calls [(0, _), (1, _)] Try.func28 rfl Try.ntmps28 rfl ⟨rfl, rfl, trivial⟩ ?_
    all_goals (refine WC.seq ?_)
    all_goals (refine WC.region ?_)
    all_goals (refine WL.step (ok_assign rfl) rfl rfl rfl ?_)
    all_goals (refine WL.nil ?_)
    all_goals (repeat' (with_reducible first | refine thenP_n ?_ | refine blockP_n ?_))
    all_goals (refine WC.seq ?_)
    all_goals (refine WC.seq ?_)
    all_goals (refine WC.region ?_)
    all_goals (refine WL.step (ok_move rfl) rfl rfl rfl ?_)
    all_goals (refine WL.step (ok_lenL rfl Try.underlying44 rfl) rfl rfl rfl ?_)
    all_goals (refine WL.step (ok_move rfl) rfl rfl rfl ?_)
    all_goals (refine WL.step (ok_lenL rfl Try.underlying44 rfl) rfl rfl rfl ?_)
    all_goals (first | (refine WL.step (OkP.nbool_t (by omega) (ok_neq rfl rfl)) rfl rfl rfl ?_) | (refine WL.step (OkP.nbool_f (by omega) (ok_neq rfl rfl)) rfl rfl rfl ?_) | (refine WL.step (ok_neq rfl rfl) rfl rfl rfl ?_))
    all_goals (refine WL.nil ?_)
    all_goals (repeat' (with_reducible first | refine thenP_n ?_ | refine blockP_n ?_))
    all_goals (refine WC.sub [(0, _), (1, _), (10, _)] ⟨rfl, rfl, rfl, trivial⟩ ?_)
    all_goals (first | refine WC.condB_t 1 rfl ?_ | refine WC.condB_f 2 rfl ?_ | (refine WC.condB 1 2 rfl (fun hb => ?_) (fun hb => ?_) <;> (first | replace hb := of_decide_eq_true hb | replace hb := of_decide_eq_false hb | replace hb := of_decide_eq_false (nt hb) | replace hb := of_decide_eq_true (nf hb) | skip)))
    all_goals (first
      | (fail_if_success (refine Br.mk (i := 1) ?_))
      | (refine Br.mk (i := 1) ?_
         all_goals (refine WC.seq ?_)
         all_goals (refine WC.region ?_)
         all_goals (refine WL.step (ok_assign rfl) rfl rfl rfl ?_)
         all_goals (refine WL.nil ?_)
         all_goals (repeat' (with_reducible first | refine thenP_n ?_ | refine blockP_n ?_))
         all_goals (refine WC.ret ?_)
         all_goals (repeat' (with_reducible first | refine thenP_r ?_ | refine blockP_r ?_))
         all_goals (refine retP_1 _ ⟨rfl, trivial⟩ ?_)
         all_goals (exact ⟨by rw [decide_eq_false hne], rfl⟩)
         skip))
    all_goals (first
      | (fail_if_success (refine Br.mk (i := 2) ?_))
      | (refine Br.mk (i := 2) ?_
         all_goals (refine WC.skip ?_)
         skip))
    all_goals (repeat' (with_reducible first | refine thenP_n ?_ | refine blockP_n ?_))
    all_goals (refine WC.seq ?_)
    all_goals (refine WC.seq ?_)
    all_goals (refine WC.region ?_)
    all_goals (refine WL.step (ok_assign rfl) rfl rfl rfl ?_)
    all_goals (refine WL.nil ?_)
    all_goals (repeat' (with_reducible first | refine thenP_n ?_ | refine blockP_n ?_))
    all_goals (refine WC.block ?_)
    -- loop 0: slots that turn [5], that stay [0, 1]
    all_goals (refine WC.loopG (fun x => (None : Fr)) [(0, _), (1, _)] (None) (None) (None) ⟨rfl, rfl, rfl, trivial⟩ (by exact ⟨⟩) ?_)
    all_goals (rintro x h1 hI)
    all_goals (refine WC.sub [(5, _), (0, _), (1, _)] ⟨rfl, rfl, rfl, trivial⟩ ?_)
    all_goals (refine WC.seq ?_)
    all_goals (refine WC.seq ?_)
    all_goals (refine WC.region ?_)
    all_goals (refine WL.step (ok_move rfl) rfl rfl rfl ?_)
    all_goals (refine WL.step (ok_move rfl) rfl rfl rfl ?_)
    all_goals (refine WL.step (ok_lenL rfl Try.underlying44 rfl) rfl rfl rfl ?_)
    all_goals (first | (refine WL.step (OkP.bool_t (by omega) (ok_lss rfl rfl)) rfl rfl rfl ?_) | (refine WL.step (OkP.bool_f (by omega) (ok_lss rfl rfl)) rfl rfl rfl ?_) | (refine WL.step (ok_lss rfl rfl) rfl rfl rfl ?_))
    all_goals (refine WL.nil ?_)
    all_goals (repeat' (with_reducible first | refine thenP_n ?_ | refine blockP_n ?_))
    all_goals (first | refine WC.condB_t 3 rfl ?_ | refine WC.condB_f 4 rfl ?_ | (refine WC.condB 3 4 rfl (fun hb => ?_) (fun hb => ?_) <;> (first | replace hb := of_decide_eq_true hb | replace hb := of_decide_eq_false hb | replace hb := of_decide_eq_false (nt hb) | replace hb := of_decide_eq_true (nf hb) | skip)))
    all_goals (first
      | (fail_if_success (refine Br.mk (i := 3) ?_))
      | (refine Br.mk (i := 3) ?_
         all_goals (refine WC.skip ?_)
         skip))
    all_goals (first
      | (fail_if_success (refine Br.mk (i := 4) ?_))
      | (refine Br.mk (i := 4) ?_
         all_goals (refine WC.exit ?_)
         all_goals (repeat' (with_reducible first | refine thenP_x ?_ | refine blockP_miss rfl ?_ | refine blockP_hit ?_ | refine blockP_n ?_ | refine thenP_n ?_))
         all_goals (refine Br.out (i := 1000) ?_)
         skip))
    all_goals (first | (refine Br.keep ?_) | (repeat' (with_reducible first | refine thenP_n ?_ | refine blockP_n ?_)))
    all_goals (first | (refine Br.keep ?_) | (refine WC.sub [(0, _), (1, _), (5, _)] ⟨rfl, rfl, rfl, trivial⟩ ?_))
    all_goals (first | (refine Br.keep ?_) | (refine WC.seq ?_))
    all_goals (first | (refine Br.keep ?_) | (refine WC.block ?_))
    all_goals (first | (refine Br.keep ?_) | (refine WC.seq ?_))
    all_goals (first | (refine Br.keep ?_) | (refine WC.drawE fol (by kernel_rfl) ?_))
    all_goals (first | (refine Br.keep ?_) | (refine WQ.stepE (ok_move rfl) rfl rfl rfl ?_))
    all_goals (first | (refine Br.keep ?_) | (refine WQ.stepE (ok_move rfl) rfl rfl rfl ?_))
    all_goals (first | (refine Br.keep ?_) | (refine WQ.stepE (ok_idxAddrA Try.underlying44 (fun w => Try.sizeOf54 w) rfl rfl rfl (by omega) (by first | rfl | assumption)) rfl rfl rfl ?_))
    all_goals (first | (refine Br.keep ?_) | (refine WQ.stepE (ok_loadN (fun w => Try.isAgg54 w) (fun w => Try.sizeOf54 w) rfl rfl (by assumption)) rfl rfl rfl ?_))
    all_goals (first | (refine Br.keep ?_) | (refine WQ.stepE (ok_move rfl) rfl rfl rfl ?_))
    all_goals (first | (refine Br.keep ?_) | (refine WQ.stepE (ok_move rfl) rfl rfl rfl ?_))
    all_goals (first | (refine Br.keep ?_) | (refine WQ.stepE (ok_idxAddrA Try.underlying44 (fun w => Try.sizeOf54 w) rfl rfl rfl (by omega) (by first | rfl | assumption)) rfl rfl rfl ?_))
    all_goals (first | (refine Br.keep ?_) | (refine WQ.stepE (ok_loadN (fun w => Try.isAgg54 w) (fun w => Try.sizeOf54 w) rfl rfl (by assumption)) rfl rfl rfl ?_))
    all_goals (first | (refine Br.keep ?_) | (fail "no rule for binOp at 6.8"))
    all_goals (first | (refine Br.keep ?_) | (refine WQ.nil ?_))
    all_goals (first | (refine Br.keep ?_) | (repeat' (with_reducible first | refine thenP_n ?_ | refine blockP_n ?_)))
    all_goals (first | (refine Br.keep ?_) | (refine WC.sub [(0, _), (1, _), (5, _), (25, _)] ⟨rfl, rfl, rfl, rfl, trivial⟩ ?_))
    all_goals (first | (refine Br.keep ?_) | (first | refine WC.condB_t 5 rfl ?_ | refine WC.condB_f 6 rfl ?_ | (refine WC.condB 5 6 rfl (fun hb => ?_) (fun hb => ?_) <;> (first | replace hb := of_decide_eq_true hb | replace hb := of_decide_eq_false hb | replace hb := of_decide_eq_false (nt hb) | replace hb := of_decide_eq_true (nf hb) | skip))))
    all_goals (first
      | (fail_if_success (refine Br.mk (i := 5) ?_))
      | (refine Br.mk (i := 5) ?_
         all_goals (refine WC.seq ?_)
         all_goals (refine WC.region ?_)
         all_goals (refine WL.step (ok_assign rfl) rfl rfl rfl ?_)
         all_goals (refine WL.nil ?_)
         all_goals (repeat' (with_reducible first | refine thenP_n ?_ | refine blockP_n ?_))
         all_goals (refine WC.sub [(4, _)] ⟨rfl, trivial⟩ ?_)
         all_goals (refine WC.ret ?_)
         all_goals (repeat' (with_reducible first | refine thenP_r ?_ | refine blockP_r ?_))
         all_goals (refine retP_1 _ ⟨rfl, trivial⟩ ?_)
         all_goals (exact ⟨by rw [decide_eq_false hne], rfl⟩)
         skip))
    all_goals (first
      | (fail_if_success (refine Br.mk (i := 6) ?_))
      | (refine Br.mk (i := 6) ?_
         all_goals (refine WC.skip ?_)
         skip))
    all_goals (first | (refine Br.keep ?_) | (repeat' (with_reducible first | refine thenP_n ?_ | refine blockP_n ?_)))
    all_goals (first | (refine Br.keep ?_) | (refine WC.region ?_))
    all_goals (first | (refine Br.keep ?_) | (refine WL.step (ok_move rfl) rfl rfl rfl ?_))
    all_goals (first | (refine Br.keep ?_) | (first | (refine WL.step (ok_addI rfl rfl (by omega)) rfl rfl rfl ?_) | (refine WL.step (ok_add rfl rfl) rfl rfl rfl ?_)))
    all_goals (first | (refine Br.keep ?_) | (refine WL.step (ok_assign rfl) rfl rfl rfl ?_))
    all_goals (first | (refine Br.keep ?_) | (refine WL.nil ?_))
    all_goals (first | (refine Br.keep ?_) | (repeat' (with_reducible first | refine thenP_n ?_ | refine blockP_n ?_)))
    all_goals (first | (refine Br.keep ?_) | (exact ⟨None, ⟨rfl, rfl, rfl, trivial⟩, (by exact ⟨⟩), (by simp; omega)⟩))
    all_goals (try (refine Br.mk (i := 1000) ?_))
    all_goals (repeat' (with_reducible first | refine thenP_n ?_ | refine blockP_n ?_))
    all_goals (refine WC.sub [] trivial ?_)
    all_goals (refine WC.seq ?_)
    all_goals (refine WC.region ?_)
    all_goals (refine WL.step (ok_assign rfl) rfl rfl rfl ?_)
    all_goals (refine WL.nil ?_)
    all_goals (repeat' (with_reducible first | refine thenP_n ?_ | refine blockP_n ?_))
    all_goals (refine WC.ret ?_)
    all_goals (repeat' (with_reducible first | refine thenP_r ?_ | refine blockP_r ?_))
    all_goals (refine retP_1 _ ⟨rfl, trivial⟩ ?_)
    all_goals (exact ⟨by rw [decide_eq_false hne], rfl⟩)
end Go.Proofs.Ytfadcbbjjdmmfaa

