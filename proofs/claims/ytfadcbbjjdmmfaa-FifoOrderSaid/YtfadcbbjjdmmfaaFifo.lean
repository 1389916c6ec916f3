/-
  FIFO (layer 32): each that waits with its turn, in a map; the document's: a list.
-/
import Derived.Test.YtfadcbbjjdmmfaaMpk
import Derived.Test.YtfadcbbjjdmmfaaSl
import Derived.Test.YtfadcbbjjdmmfaaK15
import Derived.Test.YtfadcbbjjdmmfaaSrf
namespace Go.Proofs.Ytfadcbbjjdmmfaa
open Go Go.RK

/-- Those that wait, in their order, each with its turn; block b, its map at m. -/
structure Ff (h : Heap) (b m : Nat) (nx : Int) (L : List (Int × Int)) : Prop where
  blk : h[b]? = some (.cells ⟨[.map (some m), In nx]⟩ 34 (0, 0))
  map : ∃ E, Mp (.int .i64) In h m (encK In E) ∧ E.Perm L
  rise : L.Pairwise fun a b => a.2 < b.2
  nd : (L.map (·.1)).Nodup
  le : ∀ p ∈ L, 1 ≤ p.2 ∧ p.2 ≤ nx
theorem Ff.ne {h : Heap} {b m : Nat} {nx : Int} {L : List (Int × Int)} (r : Ff h b m nx L) : b ≠ m := by
  rintro rfl
  obtain ⟨_, ⟨_, _, e, _⟩, _⟩ := r.map
  rw [r.blk] at e
  cases e
theorem Ff.lt {h : Heap} {b m : Nat} {nx : Int} {L : List (Int × Int)} (r : Ff h b m nx L) : b < h.size ∧ m < h.size := by
  obtain ⟨_, hm, _⟩ := r.map
  exact ⟨lt_of_some r.blk, hm.lt⟩
theorem Ff.ext {h h' : Heap} {S : Nat → Prop} {b m : Nat} {nx : Int} {L : List (Int × Int)} (r : Ff h b m nx L) (a : Ext S h h') (h1 : ¬ S b) (h2 : ¬ S m) : Ff h' b m nx L := by
  obtain ⟨E, hm, hp⟩ := r.map
  exact ⟨a.obj r.blk h1, ⟨E, hm.ext a h2, hp⟩, r.rise, r.nd, r.le⟩
theorem Ff.ext0 {h h' : Heap} {b m : Nat} {nx : Int} {L : List (Int × Int)} (r : Ff h b m nx L) (a : Ext No h h') : Ff h' b m nx L := r.ext a nos nos
/-- What a call that turns it turns. -/
def Fs (b m : Nat) : Nat → Prop := fun k => k = b ∨ k = m
set_option maxRecDepth 100000 in
theorem ready_ff {h : Heap} {b m : Nat} {nx : Int} {L : List (Int × Int)} (r : Ff h b m nx L) : CallsH Try.prog 46 ⟨[.pointer (some ⟨b, 0, none⟩)]⟩ h fun u h' => u = .bool true ∧ h' = h := by
  have hb := r.blk
  refine calls [(0, _)] Try.func46 rfl Try.ntmps46 rfl ⟨rfl, trivial⟩ ?_
  all_goals (refine WC.seq ?_)
  all_goals (refine WC.region ?_)
  all_goals (refine WL.step (ok_assign rfl) rfl rfl rfl ?_)
  all_goals (refine WL.nil ?_)
  all_goals (repeat' (with_reducible first | refine thenP_n ?_ | refine blockP_n ?_))
  all_goals (refine WC.seq ?_)
  all_goals (refine WC.region ?_)
  all_goals (refine WL.step (ok_move rfl) rfl rfl rfl ?_)
  all_goals (refine WL.step (ok_neqPn Try.underlying23 rfl rfl) rfl rfl rfl ?_)
  all_goals (refine WL.step (ok_move rfl) rfl rfl rfl ?_)
  all_goals (try ((fail_if_success (refine WL.part 5 (b := true) rfl (fun _ => ?_) (fun _ => ?_))); (fail_if_success (refine WL.part 5 (b := false) rfl (fun _ => ?_) (fun _ => ?_))); (refine WL.part 5 rfl (fun hb => ?_) (fun hb => ?_) <;> (first | replace hb := of_decide_eq_true hb | replace hb := of_decide_eq_false hb | replace hb := of_decide_eq_false (nt hb) | replace hb := of_decide_eq_true (nf hb) | skip))))
  all_goals (first | (refine WL.pass rfl rfl rfl ?_) | (refine WL.step (ok_move rfl) rfl rfl rfl ?_))
  all_goals (first | (refine WL.pass rfl rfl rfl ?_) | (refine WL.step (ok_nilCheck rfl) rfl rfl rfl ?_))
  all_goals (first | (refine WL.pass rfl rfl rfl ?_) | (refine WL.step (ok_fieldAddr rfl Try.underlying34 rfl (fun w => Try.sizeOf25 w)) rfl rfl rfl ?_))
  all_goals (first | (refine WL.pass rfl rfl rfl ?_) | (refine WL.step (ok_load (fun w => Try.isAgg25 w) rfl (by first | assumption | exact cell_blk (by assumption) rfl)) rfl rfl rfl ?_))
  all_goals (first | (refine WL.pass rfl rfl rfl ?_) | (refine WL.step (ok_neqMn Try.underlying25 rfl rfl) rfl rfl rfl ?_))
  all_goals (first | (refine WL.step (ok_pick_t rfl rfl) rfl rfl rfl ?_) | (refine WL.step (ok_pick_f rfl rfl) rfl rfl rfl ?_))
  all_goals (refine WL.step (ok_assign rfl) rfl rfl rfl ?_)
  all_goals (refine WL.nil ?_)
  all_goals (repeat' (with_reducible first | refine thenP_n ?_ | refine blockP_n ?_))
  all_goals (refine WC.sub [(2, _)] ⟨rfl, trivial⟩ ?_)
  all_goals (refine WC.ret ?_)
  all_goals (repeat' (with_reducible first | refine thenP_r ?_ | refine blockP_r ?_))
  all_goals (refine retP_1 _ ⟨rfl, trivial⟩ ?_)
  all_goals (exact ⟨rfl, rfl⟩)
set_option maxRecDepth 100000 in
theorem new_ff {h : Heap} : CallsH Try.prog 11 ⟨[]⟩ h fun u h' => ∃ b m, u = .pointer (some ⟨b, 0, none⟩) ∧ Ff h' b m 0 [] ∧ h.size ≤ b ∧ h.size ≤ m ∧ Ext No h h' := by
  refine calls [] Try.func11 rfl Try.ntmps11 rfl trivial ?_
  all_goals (refine WC.seq ?_)
  all_goals (refine WC.region ?_)
  all_goals (refine WL.step (ok_assign rfl) rfl rfl rfl ?_)
  all_goals (refine WL.nil ?_)
  all_goals (repeat' (with_reducible first | refine thenP_n ?_ | refine blockP_n ?_))
  all_goals (refine WC.seq ?_)
  all_goals (refine WC.region ?_)
  all_goals (refine WL.stepR okE_makeMap rfl rfl rfl ?_
             rintro _ h1 ⟨b1, rfl, hg1, hb1, hx1⟩)
  all_goals (refine WL.step (ok_buildF (vs := [_]) (cs := [_, _]) (fun | [a0] => [a0, (.int .i64 0)] | _ => []) rfl rfl (by kernel_rfl)) rfl rfl rfl ?_)
  all_goals (refine WL.stepR (okE_box rfl) rfl rfl rfl ?_
             rintro _ h2 ⟨b2, rfl, hg2, hb2, hx2⟩)
  all_goals (refine WL.step (ok_assign rfl) rfl rfl rfl ?_)
  all_goals (refine WL.nil ?_)
  all_goals (repeat' (with_reducible first | refine thenP_n ?_ | refine blockP_n ?_))
  all_goals (refine WC.ret ?_)
  all_goals (repeat' (with_reducible first | refine thenP_r ?_ | refine blockP_r ?_))
  all_goals (refine retP_1 _ ⟨rfl, trivial⟩ ?_)
  all_goals (exact ⟨_, _, rfl, ⟨hb2, ⟨[], (⟨_, _, hx2.obj hb1 id, MapKept.stamped_empty 0, rfl⟩ : Mp (.int .i64) In h2 _ (encK In [])), .refl _⟩, List.Pairwise.nil, List.nodup_nil, by simp⟩, by have := hx1.size; omega, hg1, hx1.trans hx2⟩)
def hasF (L : List (Int × Int)) (n : Int) : Bool := (getK L n).isSome
def pushF (nx : Int) (L : List (Int × Int)) (n : Int) : List (Int × Int) := if hasF L n = true then L else L ++ [(n, nx + 1)]
def nextF (nx : Int) (L : List (Int × Int)) (n : Int) : Int := if hasF L n = true then nx else nx + 1
set_option maxRecDepth 100000 in
theorem push_ff {h : Heap} {b m : Nat} {nx : Int} {L : List (Int × Int)} (r : Ff h b m nx L) (n : Int) (h0 : 0 ≤ nx) (hnx : nx ≤ 1000000) :
    CallsH Try.prog 12 ⟨[.pointer (some ⟨b, 0, none⟩), In n]⟩ h fun u h' => u = .bool (!hasF L n) ∧ Ff h' b m (nextF nx L n) (pushF nx L n) ∧ Ext (Fs b m) h h' := by
  have r0 := r
  have hbm := r.ne
  obtain ⟨hb, ⟨E, hm, hp⟩, hri, hnd, hle⟩ := r
  have hl := alook_encK In E n
  rw [getK_perm hp hnd] at hl
  rcases hg : getK L n with _ | w
  all_goals
    rw [hg] at hl
    simp only [Option.map_none, Option.map_some] at hl
    refine calls [(0, _), (1, _)] Try.func12 rfl Try.ntmps12 rfl ⟨rfl, rfl, trivial⟩ ?_
    all_goals (refine WC.seq ?_)
    all_goals (refine WC.region ?_)
    all_goals (refine WL.step (ok_assign rfl) rfl rfl rfl ?_)
    all_goals (refine WL.nil ?_)
    all_goals (repeat' (with_reducible first | refine thenP_n ?_ | refine blockP_n ?_))
    all_goals (refine WC.seq ?_)
    all_goals (refine WC.seq ?_)
    all_goals (refine WC.region ?_)
    all_goals (refine WL.step (ok_move rfl) rfl rfl rfl ?_)
    all_goals (refine WL.call (vs := [_]) rfl (fun a w => Try.call46 a w) rfl (ready_ff r0) rfl rfl rfl ?_
               rintro _ hz ⟨rfl, _⟩
               subst hz)
    all_goals (refine WL.step (ok_not rfl) rfl rfl rfl ?_)
    all_goals (refine WL.nil ?_)
    all_goals (repeat' (with_reducible first | refine thenP_n ?_ | refine blockP_n ?_))
    all_goals (first | refine WC.condB_t 1 rfl ?_ | refine WC.condB_f 2 rfl ?_ | (refine WC.condB 1 2 rfl (fun hb => ?_) (fun hb => ?_) <;> (first | replace hb := of_decide_eq_true hb | replace hb := of_decide_eq_false hb | replace hb := of_decide_eq_false (nt hb) | replace hb := of_decide_eq_true (nf hb) | skip)))
    all_goals (first
      | (fail_if_success (refine Br.mk (i := 1) ?_))
      | (refine Br.mk (i := 1) ?_
         all_goals (refine WC.seq ?_)
         all_goals (refine WC.region ?_)
         all_goals (refine WL.step (ok_assign rfl) rfl rfl rfl ?_)
         all_goals (refine WL.nil ?_)
         all_goals (repeat' (with_reducible first | refine thenP_n ?_ | refine blockP_n ?_))
         all_goals (refine WC.sub [(4, _)] ⟨rfl, trivial⟩ ?_)
         all_goals (refine WC.ret ?_)
         all_goals (repeat' (with_reducible first | refine thenP_r ?_ | refine blockP_r ?_))
         all_goals (refine retP_1 _ ⟨rfl, trivial⟩ ?_)
         all_goals (first
                     | (have e1 : hasF L n = true := by rw [hasF, hg]; rfl
                        exact ⟨by rw [e1]; rfl, by rw [nextF, pushF, if_pos e1, if_pos e1]; exact r0, .refl _ _⟩)
                     | (have e1 : ¬ hasF L n = true := by rw [hasF, hg]; simp
                        have e2 : hasF L n = false := by simpa using e1
                        refine ⟨by rw [e2]; rfl, ?_, (hx1.mono fun _ _ e => .inl e).trans (hx2.mono fun _ _ e => .inr e)⟩
                        rw [nextF, pushF, if_neg e1, if_neg e1]
                        refine ⟨hx2.obj hb1 hbm, ⟨_, hm2, (putK_perm hp hnd n _).trans (.of_eq ?_)⟩, ?_, ?_, ?_⟩
                        · rw [putK, hg]; rfl
                        · refine List.pairwise_append.2 ⟨hri, by simp, fun a ha c hc => ?_⟩
                          obtain rfl := List.mem_singleton.1 hc
                          have := hle a ha
                          show a.2 < nx + 1
                          omega
                        · rw [List.map_append, List.nodup_append]
                          exact ⟨hnd, by simp, fun a ha c hc e => by obtain ⟨p, hp', rfl⟩ := List.mem_map.1 ha; have e3 : c = n := (by simpa using hc); exact getK_no hg p hp' (e.trans e3)⟩
                        · intro p hp'
                          rcases List.mem_append.1 hp' with h' | h'
                          · have := hle p h'; omega
                          · obtain rfl := List.mem_singleton.1 h'; exact ⟨by show 1 ≤ nx + 1; omega, Int.le_refl _⟩))
         skip))
    all_goals (first
      | (fail_if_success (refine Br.mk (i := 2) ?_))
      | (refine Br.mk (i := 2) ?_
         all_goals (refine WC.skip ?_)
         skip))
    all_goals (repeat' (with_reducible first | refine thenP_n ?_ | refine blockP_n ?_))
    all_goals (refine WC.sub [(0, _), (1, _)] ⟨rfl, rfl, trivial⟩ ?_)
    all_goals (refine WC.seq ?_)
    all_goals (refine WC.seq ?_)
    all_goals (refine WC.region ?_)
    all_goals (refine WL.step (ok_move rfl) rfl rfl rfl ?_)
    all_goals (refine WL.step (ok_nilCheck rfl) rfl rfl rfl ?_)
    all_goals (refine WL.step (ok_fieldAddr rfl Try.underlying34 rfl (fun w => Try.sizeOf25 w)) rfl rfl rfl ?_)
    all_goals (refine WL.step (ok_load (fun w => Try.isAgg25 w) rfl (by first | assumption | exact cell_blk (by assumption) rfl)) rfl rfl rfl ?_)
    all_goals (refine WL.step (ok_move rfl) rfl rfl rfl ?_)
    all_goals (first | (refine WL.step ((ok_lookup keyI Try.underlying25 Try.underlying3 rfl rfl (by assumption) (by assumption)).1) rfl rfl rfl ?_) | (refine WL.step ((ok_lookup_no keyI Try.underlying25 Try.underlying3 (fun w => Try.zeroValue3 w) rfl rfl (by assumption) (by assumption)).1) rfl rfl rfl ?_) | (refine WL.step ((ok_lookup_nil keyI Try.underlying25 Try.underlying3 (fun w => Try.zeroValue3 w) rfl rfl).1) rfl rfl rfl ?_))
    all_goals (refine WL.step (ok_move rfl) rfl rfl rfl ?_)
    all_goals (refine WL.step (ok_extract rfl rfl) rfl rfl rfl ?_)
    all_goals (refine WL.step (ok_extract rfl rfl) rfl rfl rfl ?_)
    all_goals (refine WL.step (ok_assign rfl) rfl rfl rfl ?_)
    all_goals (refine WL.step (ok_assign rfl) rfl rfl rfl ?_)
    all_goals (refine WL.nil ?_)
    all_goals (repeat' (with_reducible first | refine thenP_n ?_ | refine blockP_n ?_))
    all_goals (refine WC.sub [(0, _), (1, _), (6, _)] ⟨rfl, rfl, rfl, trivial⟩ ?_)
    all_goals (refine WC.seq ?_)
    all_goals (refine WC.region ?_)
    all_goals (refine WL.step (ok_move rfl) rfl rfl rfl ?_)
    all_goals (refine WL.nil ?_)
    all_goals (repeat' (with_reducible first | refine thenP_n ?_ | refine blockP_n ?_))
    all_goals (first | refine WC.condB_t 3 rfl ?_ | refine WC.condB_f 4 rfl ?_ | (refine WC.condB 3 4 rfl (fun hb => ?_) (fun hb => ?_) <;> (first | replace hb := of_decide_eq_true hb | replace hb := of_decide_eq_false hb | replace hb := of_decide_eq_false (nt hb) | replace hb := of_decide_eq_true (nf hb) | skip)))
    all_goals (first
      | (fail_if_success (refine Br.mk (i := 3) ?_))
      | (refine Br.mk (i := 3) ?_
         all_goals (refine WC.seq ?_)
         all_goals (refine WC.region ?_)
         all_goals (refine WL.step (ok_assign rfl) rfl rfl rfl ?_)
         all_goals (refine WL.nil ?_)
         all_goals (repeat' (with_reducible first | refine thenP_n ?_ | refine blockP_n ?_))
         all_goals (refine WC.sub [(4, _)] ⟨rfl, trivial⟩ ?_)
         all_goals (refine WC.ret ?_)
         all_goals (repeat' (with_reducible first | refine thenP_r ?_ | refine blockP_r ?_))
         all_goals (refine retP_1 _ ⟨rfl, trivial⟩ ?_)
         all_goals (first
                     | (have e1 : hasF L n = true := by rw [hasF, hg]; rfl
                        exact ⟨by rw [e1]; rfl, by rw [nextF, pushF, if_pos e1, if_pos e1]; exact r0, .refl _ _⟩)
                     | (have e1 : ¬ hasF L n = true := by rw [hasF, hg]; simp
                        have e2 : hasF L n = false := by simpa using e1
                        refine ⟨by rw [e2]; rfl, ?_, (hx1.mono fun _ _ e => .inl e).trans (hx2.mono fun _ _ e => .inr e)⟩
                        rw [nextF, pushF, if_neg e1, if_neg e1]
                        refine ⟨hx2.obj hb1 hbm, ⟨_, hm2, (putK_perm hp hnd n _).trans (.of_eq ?_)⟩, ?_, ?_, ?_⟩
                        · rw [putK, hg]; rfl
                        · refine List.pairwise_append.2 ⟨hri, by simp, fun a ha c hc => ?_⟩
                          obtain rfl := List.mem_singleton.1 hc
                          have := hle a ha
                          show a.2 < nx + 1
                          omega
                        · rw [List.map_append, List.nodup_append]
                          exact ⟨hnd, by simp, fun a ha c hc e => by obtain ⟨p, hp', rfl⟩ := List.mem_map.1 ha; have e3 : c = n := (by simpa using hc); exact getK_no hg p hp' (e.trans e3)⟩
                        · intro p hp'
                          rcases List.mem_append.1 hp' with h' | h'
                          · have := hle p h'; omega
                          · obtain rfl := List.mem_singleton.1 h'; exact ⟨by show 1 ≤ nx + 1; omega, Int.le_refl _⟩))
         skip))
    all_goals (first
      | (fail_if_success (refine Br.mk (i := 4) ?_))
      | (refine Br.mk (i := 4) ?_
         all_goals (refine WC.skip ?_)
         skip))
    all_goals (repeat' (with_reducible first | refine thenP_n ?_ | refine blockP_n ?_))
    all_goals (refine WC.seq ?_)
    all_goals (refine WC.region ?_)
    all_goals (refine WL.step (ok_move rfl) rfl rfl rfl ?_)
    all_goals (refine WL.step (ok_nilCheck rfl) rfl rfl rfl ?_)
    all_goals (refine WL.step (ok_fieldAddr rfl Try.underlying34 rfl (fun w => Try.sizeOf3 w)) rfl rfl rfl ?_)
    all_goals (refine WL.step (ok_load (fun w => Try.isAgg3 w) rfl (by first | exact cell_blk hb rfl | assumption | exact cell_blk (by assumption) rfl)) rfl rfl rfl ?_)
    all_goals (first | (refine WL.step (ok_addI rfl rfl (by omega)) rfl rfl rfl ?_) | (refine WL.step (ok_add rfl rfl) rfl rfl rfl ?_))
    all_goals (refine WL.step (ok_nilCheck rfl) rfl rfl rfl ?_)
    all_goals (refine WL.step (ok_fieldAddr rfl Try.underlying34 rfl (fun w => Try.sizeOf3 w)) rfl rfl rfl ?_)
    all_goals (refine WL.stepR0 (okE_store (fun w => Try.sizeOf3 w) rfl rfl hb (Nat.le_of_ble_eq_true rfl) rfl rfl) rfl rfl ?_
               rintro _ h1 ⟨hb1, hx1⟩)
    all_goals (refine WL.nil ?_)
    all_goals (repeat' (with_reducible first | refine thenP_n ?_ | refine blockP_n ?_))
    all_goals (refine WC.sub [(0, _), (1, _)] ⟨rfl, rfl, trivial⟩ ?_)
    all_goals (refine WC.seq ?_)
    all_goals (refine WC.drawT 9 fol (by kernel_rfl) ?_)
    all_goals (show WS _ _ _ [_, _, _, _, _, _, _, _, _] _ _ _)
    all_goals (have hm1 := hm.ext hx1 (fun e => hbm e.symm))
    all_goals (refine WS.step (ok_move rfl) rfl rfl rfl ?_)
    all_goals (refine WS.step (ok_nilCheck rfl) rfl rfl rfl ?_)
    all_goals (refine WS.step (ok_fieldAddr rfl Try.underlying34 rfl (fun w => Try.sizeOf25 w)) rfl rfl rfl ?_)
    all_goals (refine WS.step (ok_load (fun w => Try.isAgg25 w) rfl (by first | exact cell_blk hb1 rfl | assumption | exact cell_blk (by assumption) rfl)) rfl rfl rfl ?_)
    all_goals (refine WS.step (ok_move rfl) rfl rfl rfl ?_)
    all_goals (refine WS.step (ok_move rfl) rfl rfl rfl ?_)
    all_goals (refine WS.step (ok_nilCheck rfl) rfl rfl rfl ?_)
    all_goals (refine WS.step (ok_fieldAddr rfl Try.underlying34 rfl (fun w => Try.sizeOf3 w)) rfl rfl rfl ?_)
    all_goals (refine WS.step (ok_load (fun w => Try.isAgg3 w) rfl (by first | exact cell_blk hb1 rfl | assumption | exact cell_blk (by assumption) rfl)) rfl rfl rfl ?_)
    all_goals (refine WS.nil ?_)
    all_goals (show WL _ _ _ [_] _ _ _)
    all_goals (refine WL.stepR0 (ok_mapUpdate keyI Try.underlying25 Try.underlying3 rfl rfl rfl (by assumption)) rfl rfl ?_
               rintro _ h2 ⟨hm2, hx2⟩)
    all_goals (rw [aput_encK] at hm2)
    all_goals (refine WL.nil ?_)
    all_goals (repeat' (with_reducible first | refine thenP_n ?_ | refine blockP_n ?_))
    all_goals (refine WC.sub [] trivial ?_)
    all_goals (refine WC.seq ?_)
    all_goals (refine WC.region ?_)
    all_goals (refine WL.step (ok_assign rfl) rfl rfl rfl ?_)
    all_goals (refine WL.nil ?_)
    all_goals (repeat' (with_reducible first | refine thenP_n ?_ | refine blockP_n ?_))
    all_goals (refine WC.ret ?_)
    all_goals (repeat' (with_reducible first | refine thenP_r ?_ | refine blockP_r ?_))
    all_goals (refine retP_1 _ ⟨rfl, trivial⟩ ?_)
    all_goals (first
                | (have e1 : hasF L n = true := by rw [hasF, hg]; rfl
                   exact ⟨by rw [e1]; rfl, by rw [nextF, pushF, if_pos e1, if_pos e1]; exact r0, .refl _ _⟩)
                | (have e1 : ¬ hasF L n = true := by rw [hasF, hg]; simp
                   have e2 : hasF L n = false := by simpa using e1
                   refine ⟨by rw [e2]; rfl, ?_, (hx1.mono fun _ _ e => .inl e).trans (hx2.mono fun _ _ e => .inr e)⟩
                   rw [nextF, pushF, if_neg e1, if_neg e1]
                   refine ⟨hx2.obj hb1 hbm, ⟨_, hm2, (putK_perm hp hnd n _).trans (.of_eq ?_)⟩, ?_, ?_, ?_⟩
                   · rw [putK, hg]; rfl
                   · refine List.pairwise_append.2 ⟨hri, by simp, fun a ha c hc => ?_⟩
                     obtain rfl := List.mem_singleton.1 hc
                     have := hle a ha
                     show a.2 < nx + 1
                     omega
                   · rw [List.map_append, List.nodup_append]
                     exact ⟨hnd, by simp, fun a ha c hc e => by obtain ⟨p, hp', rfl⟩ := List.mem_map.1 ha; have e3 : c = n := (by simpa using hc); exact getK_no hg p hp' (e.trans e3)⟩
                   · intro p hp'
                     rcases List.mem_append.1 hp' with h' | h'
                     · have := hle p h'; omega
                     · obtain rfl := List.mem_singleton.1 h'; exact ⟨by show 1 ≤ nx + 1; omega, Int.le_refl _⟩))
theorem Ff.del {L : List (Int × Int)} {nx : Int} (hri : L.Pairwise fun a b => a.2 < b.2) (hle : ∀ p ∈ L, 1 ≤ p.2 ∧ p.2 ≤ nx) (n : Int) : ((delK L n).Pairwise fun a b => a.2 < b.2) ∧ ∀ p ∈ delK L n, 1 ≤ p.2 ∧ p.2 ≤ nx :=
  ⟨List.Pairwise.filter _ hri, fun p hp => hle p (List.mem_filter.1 hp).1⟩
set_option maxRecDepth 100000 in
theorem remove_ff {h : Heap} {b m : Nat} {nx : Int} {L : List (Int × Int)} (r : Ff h b m nx L) (n : Int) :
    CallsH Try.prog 13 ⟨[.pointer (some ⟨b, 0, none⟩), In n]⟩ h fun u h' => u = .bool (hasF L n) ∧ Ff h' b m nx (delK L n) ∧ Ext (Fs b m) h h' := by
  have r0 := r
  have hbm := r.ne
  obtain ⟨hb, ⟨E, hm, hp⟩, hri, hnd, hle⟩ := r
  have hl := alook_encK In E n
  rw [getK_perm hp hnd] at hl
  have hd := Ff.del hri hle n
  rcases hg : getK L n with _ | w
  all_goals
    rw [hg] at hl
    simp only [Option.map_none, Option.map_some] at hl
    refine calls [(0, _), (1, _)] Try.func13 rfl Try.ntmps13 rfl ⟨rfl, rfl, trivial⟩ ?_
    all_goals (refine WC.seq ?_)
    all_goals (refine WC.region ?_)
    all_goals (refine WL.step (ok_assign rfl) rfl rfl rfl ?_)
    all_goals (refine WL.nil ?_)
    all_goals (repeat' (with_reducible first | refine thenP_n ?_ | refine blockP_n ?_))
    all_goals (refine WC.seq ?_)
    all_goals (refine WC.seq ?_)
    all_goals (refine WC.region ?_)
    all_goals (refine WL.step (ok_move rfl) rfl rfl rfl ?_)
    all_goals (refine WL.call (vs := [_]) rfl (fun a w => Try.call46 a w) rfl (ready_ff r0) rfl rfl rfl ?_
               rintro _ hz ⟨rfl, _⟩
               subst hz)
    all_goals (refine WL.step (ok_not rfl) rfl rfl rfl ?_)
    all_goals (refine WL.nil ?_)
    all_goals (repeat' (with_reducible first | refine thenP_n ?_ | refine blockP_n ?_))
    all_goals (first | refine WC.condB_t 1 rfl ?_ | refine WC.condB_f 2 rfl ?_ | (refine WC.condB 1 2 rfl (fun hb => ?_) (fun hb => ?_) <;> (first | replace hb := of_decide_eq_true hb | replace hb := of_decide_eq_false hb | replace hb := of_decide_eq_false (nt hb) | replace hb := of_decide_eq_true (nf hb) | skip)))
    all_goals (first
      | (fail_if_success (refine Br.mk (i := 1) ?_))
      | (refine Br.mk (i := 1) ?_
         all_goals (refine WC.seq ?_)
         all_goals (refine WC.region ?_)
         all_goals (refine WL.step (ok_assign rfl) rfl rfl rfl ?_)
         all_goals (refine WL.nil ?_)
         all_goals (repeat' (with_reducible first | refine thenP_n ?_ | refine blockP_n ?_))
         all_goals (refine WC.sub [(4, _)] ⟨rfl, trivial⟩ ?_)
         all_goals (refine WC.ret ?_)
         all_goals (repeat' (with_reducible first | refine thenP_r ?_ | refine blockP_r ?_))
         all_goals (refine retP_1 _ ⟨rfl, trivial⟩ ?_)
         all_goals (exact ⟨by rw [hasF, hg]; rfl, ⟨hx1.obj hb hbm, ⟨_, hm1, delK_perm hp n⟩, hd.1, delK_nd hnd n, hd.2⟩, hx1.mono fun _ _ e => .inr e⟩)
         skip))
    all_goals (first
      | (fail_if_success (refine Br.mk (i := 2) ?_))
      | (refine Br.mk (i := 2) ?_
         all_goals (refine WC.skip ?_)
         skip))
    all_goals (repeat' (with_reducible first | refine thenP_n ?_ | refine blockP_n ?_))
    all_goals (refine WC.sub [(0, _), (1, _)] ⟨rfl, rfl, trivial⟩ ?_)
    all_goals (refine WC.seq ?_)
    all_goals (refine WC.region ?_)
    all_goals (refine WL.step (ok_move rfl) rfl rfl rfl ?_)
    all_goals (refine WL.step (ok_nilCheck rfl) rfl rfl rfl ?_)
    all_goals (refine WL.step (ok_fieldAddr rfl Try.underlying34 rfl (fun w => Try.sizeOf25 w)) rfl rfl rfl ?_)
    all_goals (refine WL.step (ok_load (fun w => Try.isAgg25 w) rfl (by first | assumption | exact cell_blk (by assumption) rfl)) rfl rfl rfl ?_)
    all_goals (refine WL.step (ok_move rfl) rfl rfl rfl ?_)
    all_goals (first | (refine WL.step ((ok_lookup keyI Try.underlying25 Try.underlying3 rfl rfl (by assumption) (by assumption)).1) rfl rfl rfl ?_) | (refine WL.step ((ok_lookup_no keyI Try.underlying25 Try.underlying3 (fun w => Try.zeroValue3 w) rfl rfl (by assumption) (by assumption)).1) rfl rfl rfl ?_) | (refine WL.step ((ok_lookup_nil keyI Try.underlying25 Try.underlying3 (fun w => Try.zeroValue3 w) rfl rfl).1) rfl rfl rfl ?_))
    all_goals (refine WL.step (ok_move rfl) rfl rfl rfl ?_)
    all_goals (refine WL.step (ok_extract rfl rfl) rfl rfl rfl ?_)
    all_goals (refine WL.step (ok_extract rfl rfl) rfl rfl rfl ?_)
    all_goals (refine WL.step (ok_assign rfl) rfl rfl rfl ?_)
    all_goals (refine WL.step (ok_assign rfl) rfl rfl rfl ?_)
    all_goals (refine WL.nil ?_)
    all_goals (repeat' (with_reducible first | refine thenP_n ?_ | refine blockP_n ?_))
    all_goals (refine WC.sub [(0, _), (1, _), (6, _)] ⟨rfl, rfl, rfl, trivial⟩ ?_)
    all_goals (refine WC.seq ?_)
    all_goals (refine WC.region ?_)
    all_goals (refine WL.step (ok_move rfl) rfl rfl rfl ?_)
    all_goals (refine WL.step (ok_nilCheck rfl) rfl rfl rfl ?_)
    all_goals (refine WL.step (ok_fieldAddr rfl Try.underlying34 rfl (fun w => Try.sizeOf25 w)) rfl rfl rfl ?_)
    all_goals (refine WL.step (ok_load (fun w => Try.isAgg25 w) rfl (by first | assumption | exact cell_blk (by assumption) rfl)) rfl rfl rfl ?_)
    all_goals (refine WL.step (ok_move rfl) rfl rfl rfl ?_)
    all_goals (refine WL.stepR0 (ok_delete rfl keyI Try.underlying25 Try.underlying3 rfl rfl (by assumption)) rfl rfl ?_
               rintro _ h1 ⟨hm1, hx1⟩)
    all_goals (rw [adel_encK] at hm1)
    all_goals (refine WL.nil ?_)
    all_goals (repeat' (with_reducible first | refine thenP_n ?_ | refine blockP_n ?_))
    all_goals (refine WC.sub [(6, _)] ⟨rfl, trivial⟩ ?_)
    all_goals (refine WC.seq ?_)
    all_goals (refine WC.region ?_)
    all_goals (refine WL.step (ok_move rfl) rfl rfl rfl ?_)
    all_goals (refine WL.step (ok_assign rfl) rfl rfl rfl ?_)
    all_goals (refine WL.nil ?_)
    all_goals (repeat' (with_reducible first | refine thenP_n ?_ | refine blockP_n ?_))
    all_goals (refine WC.ret ?_)
    all_goals (repeat' (with_reducible first | refine thenP_r ?_ | refine blockP_r ?_))
    all_goals (refine retP_1 _ ⟨rfl, trivial⟩ ?_)
    all_goals (exact ⟨by rw [hasF, hg]; rfl, ⟨hx1.obj hb hbm, ⟨_, hm1, delK_perm hp n⟩, hd.1, delK_nd hnd n, hd.2⟩, hx1.mono fun _ _ e => .inr e⟩)
set_option maxRecDepth 100000 in
theorem len_ff {h : Heap} {b m : Nat} {nx : Int} {L : List (Int × Int)} (r : Ff h b m nx L) : CallsH Try.prog 17 ⟨[.pointer (some ⟨b, 0, none⟩)]⟩ h fun u h' => u = In L.length ∧ h' = h := by
  have r0 := r
  obtain ⟨hb, ⟨E, hm, hp⟩, hri, hnd, hle⟩ := r
  refine calls [(0, _)] Try.func17 rfl Try.ntmps17 rfl ⟨rfl, trivial⟩ ?_
  all_goals (refine WC.seq ?_)
  all_goals (refine WC.region ?_)
  all_goals (refine WL.step (ok_assign rfl) rfl rfl rfl ?_)
  all_goals (refine WL.nil ?_)
  all_goals (repeat' (with_reducible first | refine thenP_n ?_ | refine blockP_n ?_))
  all_goals (refine WC.seq ?_)
  all_goals (refine WC.seq ?_)
  all_goals (refine WC.region ?_)
  all_goals (refine WL.step (ok_move rfl) rfl rfl rfl ?_)
  all_goals (refine WL.call (vs := [_]) rfl (fun a w => Try.call46 a w) rfl (ready_ff r0) rfl rfl rfl ?_
             rintro _ hz ⟨rfl, _⟩
             subst hz)
  all_goals (refine WL.step (ok_not rfl) rfl rfl rfl ?_)
  all_goals (refine WL.nil ?_)
  all_goals (repeat' (with_reducible first | refine thenP_n ?_ | refine blockP_n ?_))
  all_goals (first | refine WC.condB_t 1 rfl ?_ | refine WC.condB_f 2 rfl ?_ | (refine WC.condB 1 2 rfl (fun hb => ?_) (fun hb => ?_) <;> (first | replace hb := of_decide_eq_true hb | replace hb := of_decide_eq_false hb | replace hb := of_decide_eq_false (nt hb) | replace hb := of_decide_eq_true (nf hb) | skip)))
  all_goals (first
    | (fail_if_success (refine Br.mk (i := 1) ?_))
    | (refine Br.mk (i := 1) ?_
       all_goals (refine WC.seq ?_)
       all_goals (refine WC.region ?_)
       all_goals (refine WL.step (ok_assign rfl) rfl rfl rfl ?_)
       all_goals (refine WL.nil ?_)
       all_goals (repeat' (with_reducible first | refine thenP_n ?_ | refine blockP_n ?_))
       all_goals (refine WC.sub [(2, _)] ⟨rfl, trivial⟩ ?_)
       all_goals (refine WC.ret ?_)
       all_goals (repeat' (with_reducible first | refine thenP_r ?_ | refine blockP_r ?_))
       all_goals (refine retP_1 _ ⟨rfl, trivial⟩ ?_)
       all_goals (exact ⟨by rw [encK_len, hp.length_eq], rfl⟩)
       skip))
  all_goals (first
    | (fail_if_success (refine Br.mk (i := 2) ?_))
    | (refine Br.mk (i := 2) ?_
       all_goals (refine WC.skip ?_)
       skip))
  all_goals (repeat' (with_reducible first | refine thenP_n ?_ | refine blockP_n ?_))
  all_goals (refine WC.sub [(0, _)] ⟨rfl, trivial⟩ ?_)
  all_goals (refine WC.seq ?_)
  all_goals (refine WC.region ?_)
  all_goals (refine WL.step (ok_move rfl) rfl rfl rfl ?_)
  all_goals (refine WL.step (ok_nilCheck rfl) rfl rfl rfl ?_)
  all_goals (refine WL.step (ok_fieldAddr rfl Try.underlying34 rfl (fun w => Try.sizeOf25 w)) rfl rfl rfl ?_)
  all_goals (refine WL.step (ok_load (fun w => Try.isAgg25 w) rfl (by first | assumption | exact cell_blk (by assumption) rfl)) rfl rfl rfl ?_)
  all_goals (first | (refine WL.step (ok_lenM rfl Try.underlying25 rfl (by assumption)) rfl rfl rfl ?_) | (refine WL.step (ok_lenM0 rfl Try.underlying25 rfl) rfl rfl rfl ?_))
  all_goals (refine WL.step (ok_assign rfl) rfl rfl rfl ?_)
  all_goals (refine WL.nil ?_)
  all_goals (repeat' (with_reducible first | refine thenP_n ?_ | refine blockP_n ?_))
  all_goals (refine WC.sub [(2, _)] ⟨rfl, trivial⟩ ?_)
  all_goals (refine WC.ret ?_)
  all_goals (repeat' (with_reducible first | refine thenP_r ?_ | refine blockP_r ?_))
  all_goals (refine retP_1 _ ⟨rfl, trivial⟩ ?_)
  all_goals (exact ⟨by rw [encK_len, hp.length_eq], rfl⟩)
/-- The turn of one. -/
def turn (L : List (Int × Int)) (n : Int) : Int := (getK L n).getD 0
theorem turn_le {L : List (Int × Int)} {nx : Int} (hle : ∀ p ∈ L, 1 ≤ p.2 ∧ p.2 ≤ nx) (h0 : 0 ≤ nx) (n : Int) : 0 ≤ turn L n ∧ turn L n ≤ nx := by
  unfold turn
  rcases hg : getK L n with _ | w
  · exact ⟨Int.le_refl _, h0⟩
  · have := hle _ (getK_mem hg)
    exact ⟨by show 0 ≤ w; simp only at this; omega, by show w ≤ nx; simp only at this; omega⟩
set_option maxRecDepth 100000 in
theorem less_fn {h : Heap} {b m bp : Nat} {nx : Int} {L : List (Int × Int)} {t : TypeId} (r : Ff h b m nx L) (hb : h[bp]? = some (.cells ⟨[.pointer (some ⟨b, 0, none⟩)]⟩ t (0, 0))) (x y : Int) (h0 : 0 ≤ nx) (hnx : nx ≤ 1000000) :
    CallsH Try.prog 48 ⟨[In x, In y, .pointer (some ⟨bp, 0, none⟩)]⟩ h fun u h' => u = .int .i64 (turn L x - turn L y) ∧ Ext No h h' := by
  obtain ⟨hf, ⟨E, hm, hp⟩, hri, hnd, hle⟩ := r
  have hlx := alook_encK In E x
  have hly := alook_encK In E y
  rw [getK_perm hp hnd] at hlx hly
  have htx := turn_le hle h0 x
  have hty := turn_le hle h0 y
  unfold turn at htx hty ⊢
  rcases hgx : getK L x with _ | u <;> rcases hgy : getK L y with _ | v
  all_goals
    rw [hgx] at hlx htx
    rw [hgy] at hly hty
    simp only [Option.map_none, Option.map_some, Option.getD_none, Option.getD_some] at hlx hly htx hty ⊢
    refine calls [(0, _), (1, _), (2, _)] Try.func48 rfl Try.ntmps48 rfl ⟨rfl, rfl, rfl, trivial⟩ ?_
    all_goals (refine WC.seq ?_)
    all_goals (refine WC.region ?_)
    all_goals (refine WL.step (ok_assign rfl) rfl rfl rfl ?_)
    all_goals (refine WL.nil ?_)
    all_goals (repeat' (with_reducible first | refine thenP_n ?_ | refine blockP_n ?_))
    all_goals (refine WC.seq ?_)
    all_goals (refine WC.drawE fol (by kernel_rfl) ?_)
    all_goals (refine WQ.stepE (ok_load (fun w => Try.isAgg23 w) rfl (by first | exact cell_blk hb rfl | assumption | exact cell_blk (by assumption) rfl)) rfl rfl rfl ?_)
    all_goals (refine WQ.stepE (ok_nilCheck rfl) rfl rfl rfl ?_)
    all_goals (refine WQ.stepE (ok_fieldAddr rfl Try.underlying34 rfl (fun w => Try.sizeOf25 w)) rfl rfl rfl ?_)
    all_goals (refine WQ.stepE (ok_load (fun w => Try.isAgg25 w) rfl (by first | exact cell_blk hf rfl | assumption | exact cell_blk (by assumption) rfl)) rfl rfl rfl ?_)
    all_goals (refine WQ.stepE (ok_move rfl) rfl rfl rfl ?_)
    all_goals (first | (refine WQ.stepE ((ok_lookup keyI Try.underlying25 Try.underlying3 rfl rfl (by assumption) (by assumption)).2) rfl rfl rfl ?_) | (refine WQ.stepE ((ok_lookup_no keyI Try.underlying25 Try.underlying3 (fun w => Try.zeroValue3 w) rfl rfl (by assumption) (by assumption)).2) rfl rfl rfl ?_) | (refine WQ.stepE ((ok_lookup_nil keyI Try.underlying25 Try.underlying3 (fun w => Try.zeroValue3 w) rfl rfl).2) rfl rfl rfl ?_))
    all_goals (refine WQ.stepE (ok_load (fun w => Try.isAgg23 w) rfl (by first | exact cell_blk hb rfl | assumption | exact cell_blk (by assumption) rfl)) rfl rfl rfl ?_)
    all_goals (refine WQ.stepE (ok_nilCheck rfl) rfl rfl rfl ?_)
    all_goals (refine WQ.stepE (ok_fieldAddr rfl Try.underlying34 rfl (fun w => Try.sizeOf25 w)) rfl rfl rfl ?_)
    all_goals (refine WQ.stepE (ok_load (fun w => Try.isAgg25 w) rfl (by first | exact cell_blk hf rfl | assumption | exact cell_blk (by assumption) rfl)) rfl rfl rfl ?_)
    all_goals (refine WQ.stepE (ok_move rfl) rfl rfl rfl ?_)
    all_goals (first | (refine WQ.stepE ((ok_lookup keyI Try.underlying25 Try.underlying3 rfl rfl (by assumption) (by assumption)).2) rfl rfl rfl ?_) | (refine WQ.stepE ((ok_lookup_no keyI Try.underlying25 Try.underlying3 (fun w => Try.zeroValue3 w) rfl rfl (by assumption) (by assumption)).2) rfl rfl rfl ?_) | (refine WQ.stepE ((ok_lookup_nil keyI Try.underlying25 Try.underlying3 (fun w => Try.zeroValue3 w) rfl rfl).2) rfl rfl rfl ?_))
    all_goals (first | (refine WQ.stepE (ok_subI rfl rfl (by omega)) rfl rfl rfl ?_) | (refine WQ.stepE (ok_sub rfl rfl) rfl rfl rfl ?_))
    all_goals (refine WQ.stepE (ok_assign rfl) rfl rfl rfl ?_)
    all_goals (refine WQ.nil ?_)
    all_goals (repeat' (with_reducible first | refine thenP_n ?_ | refine blockP_n ?_))
    all_goals (refine WC.sub [(5, _)] ⟨rfl, trivial⟩ ?_)
    all_goals (refine WC.ret ?_)
    all_goals (repeat' (with_reducible first | refine thenP_r ?_ | refine blockP_r ?_))
    all_goals (refine retP_1 _ ⟨rfl, trivial⟩ ?_)
    all_goals (exact ⟨rfl, .refl _ _⟩)
end Go.Proofs.Ytfadcbbjjdmmfaa

