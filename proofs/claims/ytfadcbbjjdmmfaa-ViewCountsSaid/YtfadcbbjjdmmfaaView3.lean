/-
  VIEW: how often each stands there: as a map, and by counting.
-/
import Derived.Test.YtfadcbbjjdmmfaaView2
namespace Go.Proofs.Ytfadcbbjjdmmfaa
open Go Go.RK

def tallyL (l : List Int) : List (Int × Int) := l.foldl (fun C n => putK C n ((getK C n).getD 0 + 1)) []
theorem tally_snoc {l : List Int} {k : Nat} {x : Int} (h : l[k]? = some x) : tallyL (l.take (k + 1)) = putK (tallyL (l.take k)) x ((getK (tallyL (l.take k)) x).getD 0 + 1) := by
  unfold tallyL
  rw [List.take_add_one, h, List.foldl_append]
  rfl
theorem count_snoc {l : List Int} {k : Nat} {x : Int} (h : l[k]? = some x) (n : Int) : ((l.take (k + 1)).count n : Int) = (l.take k).count n + if x = n then 1 else 0 := by
  rw [List.take_add_one, h, List.count_append]
  by_cases e : x = n <;> simp [e]
theorem tally_spec (l : List Int) : ∀ k, ((tallyL (l.take k)).map (·.1)).Nodup ∧ ∀ n, getK (tallyL (l.take k)) n = if n ∈ l.take k then some ((l.take k).count n : Int) else none := by
  intro k
  induction k with
  | zero => exact ⟨by simp [tallyL], fun n => by simp [tallyL, getK_nil]⟩
  | succ k ih =>
    rcases h : l[k]? with _ | x
    · rw [List.take_of_length_le (by have := List.getElem?_eq_none_iff.1 h; omega)] at ih ⊢
      exact ih
    · obtain ⟨hnd, hg⟩ := ih
      rw [tally_snoc h]
      refine ⟨putK_nd hnd _ _, fun n => ?_⟩
      rw [getK_put hnd, hg, hg]
      have hc := count_snoc h n
      have hm : n ∈ l.take (k + 1) ↔ n ∈ l.take k ∨ n = x := by rw [List.take_add_one, h]; simp
      by_cases e : n = x
      · subst e
        rw [if_pos rfl, if_pos (hm.2 (.inr rfl))]
        rw [if_pos rfl] at hc
        rw [hc]
        by_cases hi : n ∈ l.take k
        · rw [if_pos hi]; rfl
        · rw [if_neg hi, List.count_eq_zero_of_not_mem hi]; rfl
      · rw [if_neg e]
        rw [if_neg (fun e' => e e'.symm)] at hc
        by_cases hi : n ∈ l.take k
        · rw [if_pos hi, if_pos (hm.2 (.inl hi)), hc, Int.add_zero]
        · rw [if_neg hi, if_neg (fun h' => by rcases hm.1 h' with h' | h'; exact hi h'; exact e h')]
theorem tally_nd (l : List Int) : ((tallyL l).map (·.1)).Nodup := by
  have := (tally_spec l l.length).1
  rwa [List.take_length] at this
theorem tally_get (l : List Int) (n : Int) : getK (tallyL l) n = if n ∈ l then some (l.count n : Int) else none := by
  have := (tally_spec l l.length).2 n
  rwa [List.take_length] at this
theorem tally_at (l : List Int) (n : Int) : (getK (tallyL l) n).getD 0 = l.count n := by
  rw [tally_get]
  by_cases h : n ∈ l
  · rw [if_pos h]; rfl
  · rw [if_neg h, List.count_eq_zero_of_not_mem h]; rfl
theorem count_len (l : List Int) (n : Int) : (l.count n : Int) ≤ l.length := by
  have := List.count_le_length (a := n) (l := l)
  omega
theorem idsV_len {V : VW} (f : Few V) : (idsV V).length ≤ 4000 := by
  have h1 := idsC_len f V.c.length
  have h2 := idsS_len f V.s.length
  rw [List.take_length] at h1 h2
  unfold idsV
  rw [List.length_append]
  omega
theorem tally_le (l : List Int) : (tallyL l).length ≤ l.length := by
  have key : ∀ k, (tallyL (l.take k)).length ≤ k := by
    intro k
    induction k with
    | zero => simp [tallyL]
    | succ k ih =>
      rcases h : l[k]? with _ | x
      · rw [List.take_of_length_le (by have := List.getElem?_eq_none_iff.1 h; omega)] at ih ⊢
        omega
      · rw [tally_snoc h]
        have : (putK (tallyL (l.take k)) x ((getK (tallyL (l.take k)) x).getD 0 + 1)).length ≤ (tallyL (l.take k)).length + 1 := by
          unfold putK
          split <;> simp
        omega
  have := key l.length
  rwa [List.take_length] at this
/-- A new map of how often. -/
def NewT (h : Heap) (u : Value) (l : List Int) (h' : Heap) : Prop := ∃ m, u = .map (some m) ∧ Mp (.int .i64) In h' m (encK In (tallyL l)) ∧ Ext No h h' ∧ h.size ≤ m
set_option maxHeartbeats 1000000 in
set_option maxRecDepth 100000 in
theorem tally_v {h : Heap} (V : VW) (ok : V.ok h) (f : Few V) : CallsH Try.prog 49 ⟨[.agg ⟨V.cells⟩]⟩ h fun u h' => NewT h u (idsV V) h' := by
  have hlen := idsV_len f
  have hcells : VW.cells V = VW.cells V := rfl
  obtain ⟨A1, c1, A2, c2, A3, c3, A4, c4, e1, e2, e3, e4⟩ := ok.slices
  have hV := ids_v V ok f
  have hok := ok
  have hids : ∀ h', Ext No h h' → CallsH Try.prog 69 ⟨[.agg ⟨V.cells⟩]⟩ h' fun u h'' => Own h'' u 3 1 (idsV V).length (ints (idsV V)) ∧ Ext No h' h'' ∧ ∀ k, u.ownBlock = some k → h'.size ≤ k := fun h' hx => ids_v V (ok.ext0 hx) f
  unfold VW.cells at hids ⊢
  rw [e1, e2, e3, e4] at hids ⊢
  refine calls [(0, _)] Try.func49 rfl Try.ntmps49 rfl ⟨rfl, trivial⟩ ?_
  all_goals (refine WC.seq ?_)
  all_goals (refine WC.region ?_)
  all_goals (refine WL.stepR (okE_box rfl) rfl rfl rfl ?_
             rintro _ h1 ⟨b1, rfl, hg1, hb1, hx1⟩)
  all_goals (refine WL.step (ok_assign rfl) rfl rfl rfl ?_)
  all_goals (refine WL.nil ?_)
  all_goals (repeat' (with_reducible first | refine thenP_n ?_ | refine blockP_n ?_))
  all_goals (refine WC.seq ?_)
  all_goals (refine WC.region ?_)
  all_goals (refine WL.stepR okE_makeMap rfl rfl rfl ?_
             rintro _ h2 ⟨m2, rfl, hg2, hm2, hx2⟩)
  all_goals (have hM2 : Mp (.int .i64) In h2 m2 (encK In []) := ⟨_, _, hm2, MapKept.stamped_empty 0, rfl⟩
             have hX2 := hx1.trans hx2)
  all_goals (refine WL.step (ok_assign rfl) rfl rfl rfl ?_)
  all_goals (refine WL.nil ?_)
  all_goals (repeat' (with_reducible first | refine thenP_n ?_ | refine blockP_n ?_))
  all_goals (refine WC.seq ?_)
  all_goals (refine WC.seq ?_)
  all_goals (refine WC.region ?_)
  all_goals (refine WL.step (ok_loadN (fun w => Try.isAgg46 w) (fun w => Try.sizeOf46 w) rfl rfl (by exact At.of_block (hx2.obj hb1 nos))) rfl rfl rfl ?_)
  all_goals (refine WL.call (vs := [_]) rfl (fun a w => Try.call69 a w) rfl (hids _ hX2) rfl rfl rfl ?_
             rintro v3 h3 ⟨ho3, hx3, hf3⟩)
  all_goals (obtain ⟨A, c, rfl, _⟩ := ho3.slice
             have hX3 := hX2.trans hx3
             have hM3 := hM2.ext hx3 nos
             have hmf := hM2.lt
             have hs1 := hx1.size)
  all_goals (refine WL.step (ok_lenL rfl Try.underlying36 rfl) rfl rfl rfl ?_)
  all_goals (refine WL.step (ok_move rfl) rfl rfl rfl ?_)
  all_goals (refine WL.nil ?_)
  all_goals (repeat' (with_reducible first | refine thenP_n ?_ | refine blockP_n ?_))
  all_goals (refine WC.sub [(3, _), (8, _), (9, _), (10, _)] ⟨rfl, rfl, rfl, rfl, trivial⟩ ?_)
  all_goals (refine WC.block ?_)
  -- loop 0: slots that turn [10], that stay [3, 8, 9]
  all_goals (refine WC.loopG (X := Nat) (fun x => ([(10, In (x : Int))] : Fr)) [(3, _), (8, _), (9, _)] (fun k h' => k ≤ (idsV V).length ∧ Mp (.int .i64) In h' m2 (encK In (tallyL ((idsV V).take k))) ∧ Ext (fun q => q = m2) h3 h') (fun k => (idsV V).length - k) (0) ⟨rfl, rfl, rfl, rfl, trivial⟩ (by exact ⟨Nat.zero_le _, by simpa [tallyL] using hM3, .refl _ _⟩) ?_)
  all_goals (rintro k h4 ⟨hk, hM4, hx4⟩)
  all_goals (refine WC.sub [(10, _), (3, _), (8, _), (9, _)] ⟨rfl, rfl, rfl, rfl, trivial⟩ ?_)
  all_goals (refine WC.seq ?_)
  all_goals (refine WC.region ?_)
  all_goals (first | (refine WL.step (OkP.bool_t (by omega) (ok_lss rfl rfl)) rfl rfl rfl ?_) | (refine WL.step (OkP.bool_f (by omega) (ok_lss rfl rfl)) rfl rfl rfl ?_) | (refine WL.step (ok_lss rfl rfl) rfl rfl rfl ?_))
  all_goals (refine WL.nil ?_)
  all_goals (repeat' (with_reducible first | refine thenP_n ?_ | refine blockP_n ?_))
  all_goals (refine WC.seq ?_)
  all_goals (first | refine WC.condB_t 1 rfl ?_ | refine WC.condB_f 2 rfl ?_ | (refine WC.condB 1 2 rfl (fun hb => ?_) (fun hb => ?_) <;> (first | replace hb := of_decide_eq_true hb | replace hb := of_decide_eq_false hb | replace hb := of_decide_eq_false (nt hb) | replace hb := of_decide_eq_true (nf hb) | skip)))
  all_goals (first
    | (fail_if_success (refine Br.mk (i := 1) ?_))
    | (refine Br.mk (i := 1) ?_
       all_goals (refine WC.skip ?_)
       skip))
  all_goals (first
    | (fail_if_success (refine Br.mk (i := 2) ?_))
    | (refine Br.mk (i := 2) ?_
       all_goals (refine WC.exit ?_)
       all_goals (repeat' (with_reducible first | refine thenP_x ?_ | refine blockP_miss rfl ?_ | refine blockP_hit ?_ | refine blockP_n ?_ | refine thenP_n ?_))
       all_goals (refine Br.out (i := 1000) ?_)
       skip))
  all_goals (first | (refine Br.keep ?_) | (repeat' (with_reducible first | refine thenP_n ?_ | refine blockP_n ?_)))
  all_goals (first | (refine Br.keep ?_) | (refine WC.seq ?_))
  all_goals (first | (refine Br.keep ?_) | (refine WC.block ?_))
  all_goals (first | (refine Br.keep ?_) | (refine WC.seq ?_))
  all_goals (first | (refine Br.keep ?_) | (refine WC.region ?_))
  all_goals (first
               | (refine Br.keep ?_)
               | (have hr4 : Rd h4 (.slice A (idsV V).length c) 1 (idsV V).length (ints (idsV V)) := ho3.rd.ext' hx4 (fun b _ e e' => by have := hf3 _ e; omega)
                  obtain ⟨bL, oL, hA, hbL, hat⟩ := Rd.at_ hr4 (by omega)
                  obtain ⟨y, hy⟩ : ∃ y, (idsV V)[k]? = some y := ⟨_, List.getElem?_eq_getElem (by omega)⟩
                  have hc := hat.get (p := oL + k * 1) k (get_int hy) (by omega)
                  have hl := alook_encK In (tallyL ((idsV V).take k)) y
                  have htk := tally_at ((idsV V).take k) y
                  have hcl := count_len ((idsV V).take k) y
                  have htl : (((idsV V).take k).length : Int) ≤ 4000 := by rw [List.length_take]; omega
                  have hsn := tally_snoc hy
                  rcases hg : getK (tallyL ((idsV V).take k)) y with _ | w
                  all_goals (rw [hg] at hl htk hsn; simp only [Option.map_none, Option.map_some, Option.getD_none, Option.getD_some] at hl htk hsn)))
  all_goals (first | (refine Br.keep ?_) | (refine WL.step (ok_idxAddrA Try.underlying36 (fun w => Try.sizeOf3 w) rfl rfl rfl (by omega) (by first | rfl | assumption)) rfl rfl rfl ?_))
  all_goals (first | (refine Br.keep ?_) | (refine WL.step (ok_load (fun w => Try.isAgg3 w) rfl (by first | assumption | exact cell_blk (by assumption) rfl)) rfl rfl rfl ?_))
  all_goals (first | (refine Br.keep ?_) | (refine WL.step (ok_assign rfl) rfl rfl rfl ?_))
  all_goals (first | (refine Br.keep ?_) | (refine WL.nil ?_))
  all_goals (first | (refine Br.keep ?_) | (repeat' (with_reducible first | refine thenP_n ?_ | refine blockP_n ?_)))
  all_goals (first | (refine Br.keep ?_) | (refine WC.region ?_))
  all_goals (first | (refine Br.keep ?_) | (refine WL.step (ok_move rfl) rfl rfl rfl ?_))
  all_goals (first | (refine Br.keep ?_) | (refine WL.step (ok_move rfl) rfl rfl rfl ?_))
  all_goals (first | (refine Br.keep ?_) | (first | (refine WL.step ((ok_lookup keyI Try.underlying25 Try.underlying3 rfl rfl (by assumption) (by assumption)).2) rfl rfl rfl ?_) | (refine WL.step ((ok_lookup_no keyI Try.underlying25 Try.underlying3 (fun w => Try.zeroValue3 w) rfl rfl (by assumption) (by assumption)).2) rfl rfl rfl ?_) | (refine WL.step ((ok_lookup_nil keyI Try.underlying25 Try.underlying3 (fun w => Try.zeroValue3 w) rfl rfl).2) rfl rfl rfl ?_)))
  all_goals (first | (refine Br.keep ?_) | (first | (refine WL.step (ok_addI rfl rfl (by omega)) rfl rfl rfl ?_) | (refine WL.step (ok_add rfl rfl) rfl rfl rfl ?_)))
  all_goals (first
               | (refine Br.keep ?_)
               | (refine WL.stepR0 (ok_mapUpdate keyI Try.underlying25 Try.underlying3 rfl rfl rfl (by assumption)) rfl rfl ?_
                  rintro _ h5 ⟨hM5, hx5⟩))
  all_goals (first | (refine Br.keep ?_) | (rw [aput_encK] at hM5))
  all_goals (first | (refine Br.keep ?_) | (refine WL.nil ?_))
  all_goals (first | (refine Br.keep ?_) | (repeat' (with_reducible first | refine thenP_n ?_ | refine blockP_n ?_)))
  all_goals (first | (refine Br.keep ?_) | (refine WC.sub [(3, _), (8, _), (9, _), (10, _)] ⟨rfl, rfl, rfl, rfl, trivial⟩ ?_))
  all_goals (first | (refine Br.keep ?_) | (refine WC.region ?_))
  all_goals (first | (refine Br.keep ?_) | (first | (refine WL.step (ok_addI rfl rfl (by omega)) rfl rfl rfl ?_) | (refine WL.step (ok_add rfl rfl) rfl rfl rfl ?_)))
  all_goals (first | (refine Br.keep ?_) | (refine WL.step (ok_move rfl) rfl rfl rfl ?_))
  all_goals (first | (refine Br.keep ?_) | (refine WL.nil ?_))
  all_goals (first | (refine Br.keep ?_) | (repeat' (with_reducible first | refine thenP_n ?_ | refine blockP_n ?_)))
  all_goals (first | (refine Br.keep ?_) | (exact ⟨k + 1, ⟨rfl, rfl, rfl, rfl, trivial⟩, (by exact ⟨by omega, by rw [hsn]; exact hM5, hx4.trans hx5⟩), (by omega)⟩))
  all_goals (try (refine Br.mk (i := 1000) ?_))
  all_goals (repeat' (with_reducible first | refine thenP_n ?_ | refine blockP_n ?_))
  all_goals (refine WC.sub [(3, _)] ⟨rfl, trivial⟩ ?_)
  all_goals (refine WC.seq ?_)
  all_goals (refine WC.region ?_)
  all_goals (refine WL.step (ok_move rfl) rfl rfl rfl ?_)
  all_goals (refine WL.step (ok_assign rfl) rfl rfl rfl ?_)
  all_goals (refine WL.nil ?_)
  all_goals (repeat' (with_reducible first | refine thenP_n ?_ | refine blockP_n ?_))
  all_goals (refine WC.ret ?_)
  all_goals (repeat' (with_reducible first | refine thenP_r ?_ | refine blockP_r ?_))
  all_goals (refine retP_1 _ ⟨rfl, trivial⟩ ?_)
  all_goals (rw [List.take_of_length_le (show (idsV V).length ≤ k by omega)] at hM4
             exact ⟨m2, rfl, hM4, hX3.trans' hx4 (fun q hq e => by omega), by omega⟩)
set_option maxRecDepth 100000 in
theorem refs_v {h : Heap} (V : VW) (ok : V.ok h) (f : Few V) (n : Int) : CallsH Try.prog 26 ⟨[.agg ⟨V.cells⟩, In n]⟩ h fun u h' => u = In ((idsV V).count n) ∧ Ext No h h' := by
  obtain ⟨A1, c1, A2, c2, A3, c3, A4, c4, e1, e2, e3, e4⟩ := ok.slices
  have hids := fun h' (hx : Ext No h h') => tally_v V (ok.ext0 hx) f
  have hl := alook_encK In (tallyL (idsV V)) n
  have htk := tally_at (idsV V) n
  unfold VW.cells at hids ⊢
  rw [e1, e2, e3, e4] at hids ⊢
  rcases hg : getK (tallyL (idsV V)) n with _ | w
  all_goals
    rw [hg] at hl htk
    simp only [Option.map_none, Option.map_some, Option.getD_none, Option.getD_some] at hl htk
    refine calls [(0, _), (1, _)] Try.func26 rfl Try.ntmps26 rfl ⟨rfl, rfl, trivial⟩ ?_
    all_goals (refine WC.seq ?_)
    all_goals (refine WC.region ?_)
    all_goals (refine WL.stepR (okE_box rfl) rfl rfl rfl ?_
               rintro _ h1 ⟨b1, rfl, hg1, hb1, hx1⟩)
    all_goals (refine WL.step (ok_assign rfl) rfl rfl rfl ?_)
    all_goals (refine WL.nil ?_)
    all_goals (repeat' (with_reducible first | refine thenP_n ?_ | refine blockP_n ?_))
    all_goals (refine WC.seq ?_)
    all_goals (refine WC.region ?_)
    all_goals (refine WL.step (ok_loadN (fun w => Try.isAgg46 w) (fun w => Try.sizeOf46 w) rfl rfl (by exact At.of_block hb1)) rfl rfl rfl ?_)
    all_goals (refine WL.call (vs := [_]) rfl (fun a w => Try.call49 a w) rfl (hids _ hx1) rfl rfl rfl ?_
               rintro _ h2 ⟨m, rfl, hm2, hx2, hgm⟩)
    all_goals (refine WL.step (ok_move rfl) rfl rfl rfl ?_)
    all_goals (first | (refine WL.step ((ok_lookup keyI Try.underlying25 Try.underlying3 rfl rfl (by assumption) (by assumption)).2) rfl rfl rfl ?_) | (refine WL.step ((ok_lookup_no keyI Try.underlying25 Try.underlying3 (fun w => Try.zeroValue3 w) rfl rfl (by assumption) (by assumption)).2) rfl rfl rfl ?_) | (refine WL.step ((ok_lookup_nil keyI Try.underlying25 Try.underlying3 (fun w => Try.zeroValue3 w) rfl rfl).2) rfl rfl rfl ?_))
    all_goals (refine WL.step (ok_assign rfl) rfl rfl rfl ?_)
    all_goals (refine WL.nil ?_)
    all_goals (repeat' (with_reducible first | refine thenP_n ?_ | refine blockP_n ?_))
    all_goals (refine WC.sub [(4, _)] ⟨rfl, trivial⟩ ?_)
    all_goals (refine WC.ret ?_)
    all_goals (repeat' (with_reducible first | refine thenP_r ?_ | refine blockP_r ?_))
    all_goals (refine retP_1 _ ⟨rfl, trivial⟩ ?_)
    all_goals (exact ⟨by rw [← htk], hx1.trans hx2⟩)
set_option maxRecDepth 100000 in
theorem count46 {h : Heap} {v : Value} (l : List Int) (n : Int) (hr : Rd h v 1 l.length (ints l)) (hm : l.length ≤ 1000000) : CallsH Try.prog 50 ⟨[v, In n]⟩ h fun u h' => u = In (l.count n) ∧ h' = h := by
  obtain ⟨A, c, rfl, _⟩ := id hr
  refine calls [(0, _), (1, _)] Try.func50 rfl Try.ntmps50 rfl ⟨rfl, rfl, trivial⟩ ?_
  all_goals (refine WC.seq ?_)
  all_goals (refine WC.region ?_)
  all_goals (refine WL.step (ok_assign rfl) rfl rfl rfl ?_)
  all_goals (refine WL.nil ?_)
  all_goals (repeat' (with_reducible first | refine thenP_n ?_ | refine blockP_n ?_))
  all_goals (refine WC.seq ?_)
  all_goals (refine WC.region ?_)
  all_goals (refine WL.step (ok_assign rfl) rfl rfl rfl ?_)
  all_goals (refine WL.nil ?_)
  all_goals (repeat' (with_reducible first | refine thenP_n ?_ | refine blockP_n ?_))
  all_goals (refine WC.seq ?_)
  all_goals (refine WC.seq ?_)
  all_goals (refine WC.region ?_)
  all_goals (refine WL.step (ok_assign rfl) rfl rfl rfl ?_)
  all_goals (refine WL.nil ?_)
  all_goals (repeat' (with_reducible first | refine thenP_n ?_ | refine blockP_n ?_))
  all_goals (refine WC.block ?_)
  -- loop 0: slots that turn [5, 6], that stay [0, 1]
  all_goals (refine WC.loopG (X := Nat × Int) (fun x => ([(6, In (x.1 : Int)), (5, In x.2)] : Fr)) [(0, _), (1, _)] (fun x h' => h' = h ∧ x.1 ≤ l.length ∧ x.2 = ((l.take x.1).count n : Int)) (fun x => l.length - x.1) ((0, 0)) ⟨rfl, rfl, rfl, rfl, trivial⟩ (by exact ⟨rfl, Nat.zero_le _, by simp⟩) ?_)
  all_goals (rintro ⟨k, q⟩ h9 ⟨hz, hk, hq⟩
             subst hz
             simp only at hk hq
             have hcl := count_len (l.take k) n
             have htl : ((l.take k).length : Int) ≤ 1000000 := by rw [List.length_take]; omega)
  all_goals (refine WC.sub [(5, _), (6, _), (0, _), (1, _)] ⟨rfl, rfl, rfl, rfl, trivial⟩ ?_)
  all_goals (dsimp only)
  all_goals (refine WC.seq ?_)
  all_goals (refine WC.seq ?_)
  all_goals (refine WC.region ?_)
  all_goals (refine WL.step (ok_move rfl) rfl rfl rfl ?_)
  all_goals (refine WL.step (ok_move rfl) rfl rfl rfl ?_)
  all_goals (refine WL.step (ok_lenL rfl Try.underlying36 rfl) rfl rfl rfl ?_)
  all_goals (first | (refine WL.step (OkP.bool_t (by omega) (ok_lss rfl rfl)) rfl rfl rfl ?_) | (refine WL.step (OkP.bool_f (by omega) (ok_lss rfl rfl)) rfl rfl rfl ?_) | (refine WL.step (ok_lss rfl rfl) rfl rfl rfl ?_))
  all_goals (refine WL.nil ?_)
  all_goals (repeat' (with_reducible first | refine thenP_n ?_ | refine blockP_n ?_))
  all_goals (first | refine WC.condB_t 1 rfl ?_ | refine WC.condB_f 2 rfl ?_ | (refine WC.condB 1 2 rfl (fun hb => ?_) (fun hb => ?_) <;> (first | replace hb := of_decide_eq_true hb | replace hb := of_decide_eq_false hb | replace hb := of_decide_eq_false (nt hb) | replace hb := of_decide_eq_true (nf hb) | skip)))
  all_goals (first
    | (fail_if_success (refine Br.mk (i := 1) ?_))
    | (refine Br.mk (i := 1) ?_
       all_goals (refine WC.skip ?_)
       skip))
  all_goals (first
    | (fail_if_success (refine Br.mk (i := 2) ?_))
    | (refine Br.mk (i := 2) ?_
       all_goals (refine WC.exit ?_)
       all_goals (repeat' (with_reducible first | refine thenP_x ?_ | refine blockP_miss rfl ?_ | refine blockP_hit ?_ | refine blockP_n ?_ | refine thenP_n ?_))
       all_goals (refine Br.out (i := 1000) ?_)
       skip))
  all_goals (first | (refine Br.keep ?_) | (repeat' (with_reducible first | refine thenP_n ?_ | refine blockP_n ?_)))
  all_goals (first | (refine Br.keep ?_) | (refine WC.sub [(0, _), (1, _), (5, _), (6, _)] ⟨rfl, rfl, rfl, rfl, trivial⟩ ?_))
  all_goals (first | (refine Br.keep ?_) | (refine WC.seq ?_))
  all_goals (first | (refine Br.keep ?_) | (refine WC.block ?_))
  all_goals (first | (refine Br.keep ?_) | (refine WC.seq ?_))
  all_goals (first | (refine Br.keep ?_) | (refine WC.region ?_))
  all_goals (first
               | (refine Br.keep ?_)
               | (obtain ⟨bL, oL, hA, hbL, hat⟩ := Rd.at_ hr (by omega)
                  obtain ⟨y, hy⟩ : ∃ y, l[k]? = some y := ⟨_, List.getElem?_eq_getElem (by omega)⟩
                  have hc := hat.get (p := oL + k * 1) k (get_int hy) (by omega)
                  have hsn := count_snoc hy n))
  all_goals (first | (refine Br.keep ?_) | (refine WL.step (ok_move rfl) rfl rfl rfl ?_))
  all_goals (first | (refine Br.keep ?_) | (refine WL.step (ok_move rfl) rfl rfl rfl ?_))
  all_goals (first | (refine Br.keep ?_) | (refine WL.step (ok_idxAddrA Try.underlying36 (fun w => Try.sizeOf3 w) rfl rfl rfl (by omega) (by first | rfl | assumption)) rfl rfl rfl ?_))
  all_goals (first | (refine Br.keep ?_) | (refine WL.step (ok_load (fun w => Try.isAgg3 w) rfl (by first | assumption | exact cell_blk (by assumption) rfl)) rfl rfl rfl ?_))
  all_goals (first | (refine Br.keep ?_) | (refine WL.step (ok_move rfl) rfl rfl rfl ?_))
  all_goals (first | (refine Br.keep ?_) | (first | (refine WL.step (OkP.bool_t (by omega) (ok_eql rfl rfl)) rfl rfl rfl ?_) | (refine WL.step (OkP.bool_f (by omega) (ok_eql rfl rfl)) rfl rfl rfl ?_) | (refine WL.step (ok_eql rfl rfl) rfl rfl rfl ?_)))
  all_goals (first | (refine Br.keep ?_) | (refine WL.nil ?_))
  all_goals (first | (refine Br.keep ?_) | (repeat' (with_reducible first | refine thenP_n ?_ | refine blockP_n ?_)))
  all_goals (first | (refine Br.keep ?_) | (refine WC.sub [(0, _), (1, _), (5, _), (6, _), (18, _)] ⟨rfl, rfl, rfl, rfl, rfl, trivial⟩ ?_))
  all_goals (first | (refine Br.keep ?_) | (first | refine WC.condB_t 3 rfl ?_ | refine WC.condB_f 4 rfl ?_ | (refine WC.condB 3 4 rfl (fun hb => ?_) (fun hb => ?_) <;> (first | replace hb := of_decide_eq_true hb | replace hb := of_decide_eq_false hb | replace hb := of_decide_eq_false (nt hb) | replace hb := of_decide_eq_true (nf hb) | skip))))
  all_goals (first
    | (fail_if_success (refine Br.mk (i := 3) ?_))
    | (refine Br.mk (i := 3) ?_
       all_goals (refine WC.region ?_)
       all_goals (refine WL.step (ok_move rfl) rfl rfl rfl ?_)
       all_goals (first | (refine WL.step (ok_addI rfl rfl (by omega)) rfl rfl rfl ?_) | (refine WL.step (ok_add rfl rfl) rfl rfl rfl ?_))
       all_goals (refine WL.step (ok_assign rfl) rfl rfl rfl ?_)
       all_goals (refine WL.nil ?_)
       skip))
  all_goals (first
    | (fail_if_success (refine Br.mk (i := 4) ?_))
    | (refine Br.mk (i := 4) ?_
       all_goals (refine WC.skip ?_)
       skip))
  all_goals (first | (refine Br.keep ?_) | (repeat' (with_reducible first | refine thenP_n ?_ | refine blockP_n ?_)))
  all_goals (first | (refine Br.keep ?_) | (refine WC.region ?_))
  all_goals (first | (refine Br.keep ?_) | (refine WL.step (ok_move rfl) rfl rfl rfl ?_))
  all_goals (first | (refine Br.keep ?_) | (first | (refine WL.step (ok_addI rfl rfl (by omega)) rfl rfl rfl ?_) | (refine WL.step (ok_add rfl rfl) rfl rfl rfl ?_)))
  all_goals (first | (refine Br.keep ?_) | (refine WL.step (ok_assign rfl) rfl rfl rfl ?_))
  all_goals (first | (refine Br.keep ?_) | (refine WL.nil ?_))
  all_goals (first | (refine Br.keep ?_) | (repeat' (with_reducible first | refine thenP_n ?_ | refine blockP_n ?_)))
  all_goals (first | (refine Br.keep ?_) | (exact ⟨(k + 1, _), ⟨rfl, rfl, rfl, rfl, trivial⟩, (by first | exact ⟨rfl, by simp; omega, by rw [hsn, if_pos (by assumption), hq]⟩ | exact ⟨rfl, by simp; omega, by rw [hsn, if_neg (by assumption), hq, Int.add_zero]⟩), (by simp; omega)⟩))
  all_goals (try (refine Br.mk (i := 1000) ?_))
  all_goals (repeat' (with_reducible first | refine thenP_n ?_ | refine blockP_n ?_))
  all_goals (refine WC.sub [(5, _)] ⟨rfl, trivial⟩ ?_)
  all_goals (refine WC.seq ?_)
  all_goals (refine WC.region ?_)
  all_goals (refine WL.step (ok_move rfl) rfl rfl rfl ?_)
  all_goals (refine WL.step (ok_assign rfl) rfl rfl rfl ?_)
  all_goals (refine WL.nil ?_)
  all_goals (repeat' (with_reducible first | refine thenP_n ?_ | refine blockP_n ?_))
  all_goals (refine WC.ret ?_)
  all_goals (repeat' (with_reducible first | refine thenP_r ?_ | refine blockP_r ?_))
  all_goals (refine retP_1 _ ⟨rfl, trivial⟩ ?_)
  all_goals (exact ⟨by rw [hq, List.take_of_length_le (by omega)], rfl⟩)
set_option maxRecDepth 100000 in
theorem refs46 {h : Heap} (V : VW) (ok : V.ok h) (f : Few V) (n : Int) : CallsH Try.prog 27 ⟨[.agg ⟨V.cells⟩, In n]⟩ h fun u h' => u = In ((idsV V).count n) ∧ Ext No h h' := by
  obtain ⟨A1, c1, A2, c2, A3, c3, A4, c4, e1, e2, e3, e4⟩ := ok.slices
  have hids := fun h' (hx : Ext No h h') => ids46 V (ok.ext0 hx) f
  have hlen := idsV_len f
  unfold VW.cells at hids ⊢
  rw [e1, e2, e3, e4] at hids ⊢
  refine calls [(0, _), (1, _)] Try.func27 rfl Try.ntmps27 rfl ⟨rfl, rfl, trivial⟩ ?_
  all_goals (refine WC.seq ?_)
  all_goals (refine WC.region ?_)
  all_goals (refine WL.stepR (okE_box rfl) rfl rfl rfl ?_
             rintro _ h1 ⟨b1, rfl, hg1, hb1, hx1⟩)
  all_goals (refine WL.step (ok_assign rfl) rfl rfl rfl ?_)
  all_goals (refine WL.nil ?_)
  all_goals (repeat' (with_reducible first | refine thenP_n ?_ | refine blockP_n ?_))
  all_goals (refine WC.seq ?_)
  all_goals (refine WC.region ?_)
  all_goals (refine WL.step (ok_loadN (fun w => Try.isAgg46 w) (fun w => Try.sizeOf46 w) rfl rfl (by exact At.of_block hb1)) rfl rfl rfl ?_)
  all_goals (refine WL.call (vs := [_]) rfl (fun a w => Try.call51 a w) rfl (hids _ hx1) rfl rfl rfl ?_
             rintro v2 h2 ⟨ho2, hx2, hf2⟩)
  all_goals (refine WL.step (ok_move rfl) rfl rfl rfl ?_)
  all_goals (refine WL.call (vs := [_, _]) rfl (fun a w => Try.call50 a w) rfl (count46 (idsV V) n ho2.rd (by omega)) rfl rfl rfl ?_
             rintro _ hz ⟨rfl, _⟩
             subst hz)
  all_goals (refine WL.step (ok_assign rfl) rfl rfl rfl ?_)
  all_goals (refine WL.nil ?_)
  all_goals (repeat' (with_reducible first | refine thenP_n ?_ | refine blockP_n ?_))
  all_goals (refine WC.sub [(4, _)] ⟨rfl, trivial⟩ ?_)
  all_goals (refine WC.ret ?_)
  all_goals (repeat' (with_reducible first | refine thenP_r ?_ | refine blockP_r ?_))
  all_goals (refine retP_1 _ ⟨rfl, trivial⟩ ?_)
  all_goals (exact ⟨rfl, hx1.trans hx2⟩)
end Go.Proofs.Ytfadcbbjjdmmfaa

