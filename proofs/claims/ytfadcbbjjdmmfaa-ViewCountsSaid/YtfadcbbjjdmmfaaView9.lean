/-
  VIEW: awake.
-/
import Derived.Test.YtfadcbbjjdmmfaaView8
namespace Go.Proofs.Ytfadcbbjjdmmfaa
open Go Go.RK

theorem cnt_aw : IsCnt [3, 3, 4] [(3, 2), (4, 1)] := by
  refine ⟨fun p => ?_, by simp⟩
  obtain ⟨a, b⟩ := p
  simp only [List.mem_cons, List.not_mem_nil, or_false, Prod.mk.injEq]
  constructor
  · rintro (⟨rfl, rfl⟩ | ⟨rfl, rfl⟩)
    · exact ⟨by decide, .inl rfl, by decide⟩
    · exact ⟨by decide, .inr (.inr rfl), by decide⟩
  · rintro ⟨_, h | h | h, h2⟩
    · subst h; exact .inl ⟨rfl, by rw [h2]; decide⟩
    · subst h; exact .inl ⟨rfl, by rw [h2]; decide⟩
    · subst h; exact .inr ⟨rfl, by rw [h2]; decide⟩
set_option maxHeartbeats 1000000 in
set_option maxRecDepth 100000 in
theorem awake46 {h : Heap} : CallsH Try.prog 25 ⟨[]⟩ h fun u h' => u = .bool true ∧ Ext No h h' := by
  refine calls [] Try.func25 rfl Try.ntmps25 rfl trivial ?_
  all_goals (refine WC.seq ?_)
  all_goals (refine WC.region ?_)
  all_goals (refine WL.step (ok_assign rfl) rfl rfl rfl ?_)
  all_goals (refine WL.nil ?_)
  all_goals (repeat' (with_reducible first | refine thenP_n ?_ | refine blockP_n ?_))
  all_goals (refine WC.seq ?_)
  all_goals (refine WC.region ?_)
  all_goals (refine WL.step (ok_buildF (vs := [_, _]) (cs := [_, _]) (fun | [a0, a1] => [a0, a1] | _ => []) rfl rfl (by kernel_rfl)) rfl rfl rfl ?_)
  all_goals (refine WL.stepR (okE_buildSlice (vs := [_]) (cs := [_, _]) (fun | [.agg ⟨[a0, a1]⟩] => [a0, a1] | _ => []) Try.underlying80 rfl rfl (by kernel_rfl)) rfl rfl rfl ?_
             rintro _ h1 ⟨b1, rfl, hg1, hb1, hx1⟩)
  all_goals (refine WL.step (ok_buildF (vs := [_]) (cs := [_, _, _, _]) (fun | [a3] => [(.int .i64 0), (.int .i64 0), (.int .i64 0), a3] | _ => []) rfl rfl (by kernel_rfl)) rfl rfl rfl ?_)
  all_goals (refine WL.stepR (okE_buildSlice (vs := [_]) (cs := [_, _, _, _]) (fun | [.agg ⟨[a0, a1, a2, a3]⟩] => [a0, a1, a2, a3] | _ => []) Try.underlying42 rfl rfl (by kernel_rfl)) rfl rfl rfl ?_
             rintro _ h3 ⟨b3, rfl, hg3, hb3, hx3⟩)
  all_goals (refine WL.stepR (okE_buildSlice (vs := [_]) (cs := [_]) (fun | [a0] => [a0] | _ => []) Try.underlying36 rfl rfl (by kernel_rfl)) rfl rfl rfl ?_
             rintro _ h4 ⟨b4, rfl, hg4, hb4, hx4⟩)
  all_goals (refine WL.stepR (okE_buildSlice (vs := [_]) (cs := [_]) (fun | [a0] => [a0] | _ => []) Try.underlying36 rfl rfl (by kernel_rfl)) rfl rfl rfl ?_
             rintro _ h5 ⟨b5, rfl, hg5, hb5, hx5⟩)
  all_goals (refine WL.step (ok_buildF (vs := [_, _]) (cs := [_, _, _, _, _, _]) (fun | [a4, a5] => [(.int .i64 0), (.int .i64 0), (.int .i64 0), (.int .u8 0), a4, a5] | _ => []) rfl rfl (by kernel_rfl)) rfl rfl rfl ?_)
  all_goals (refine WL.stepR (okE_buildSlice (vs := [_]) (cs := [_, _, _, _, _, _]) (fun | [.agg ⟨[a0, a1, a2, a3, a4, a5]⟩] => [a0, a1, a2, a3, a4, a5] | _ => []) Try.underlying43 rfl rfl (by kernel_rfl)) rfl rfl rfl ?_
             rintro _ h7 ⟨b7, rfl, hg7, hb7, hx7⟩)
  all_goals (refine WL.step (ok_buildF (vs := [_, _]) (cs := [_, _, _, _]) (fun | [a0, a1] => [a0, a1, (.slice none 0 0), (.slice none 0 0)] | _ => []) rfl rfl (by kernel_rfl)) rfl rfl rfl ?_)
  all_goals (refine WL.stepR (okE_alloc (fun w => Try.zeroValue46 w)) rfl rfl rfl ?_
             rintro _ h9 ⟨b9, rfl, hg9, hb9, hx9⟩)
  all_goals (refine WL.stepR0 (okE_storeW (fun w => Try.sizeOf46 w) rfl rfl rfl (by assumption) rfl (by simp [Value.oneCell'])) rfl rfl ?_
             rintro _ h10 ⟨hb10, hx10⟩)
  all_goals (have hX9 : Ext No h h9 := ((((hx1.trans hx3).trans hx4).trans hx5).trans hx7).trans hx9
             have hs9 := hx9.size
             have hX10 : Ext No h h10 := hX9.trans' hx10 (fun q hq e => by have := ((((hx1.trans hx3).trans hx4).trans hx5).trans hx7).size; omega)
             have hx7a : Ext No h7 h10 := hx9.trans' hx10 (fun q hq e => by omega)
             have ok : VW.ok h10 ⟨.slice (some ⟨b3, 0, none⟩) 1 1, [⟨0, 0, 0, .slice (some ⟨b1, 0, none⟩) 1 1, [(([97] : List UInt8), 3)]⟩], .slice (some ⟨b7, 0, none⟩) 1 1, [⟨0, 0, 0, 0, .slice (some ⟨b4, 0, none⟩) 1 1, [3], .slice (some ⟨b5, 0, none⟩) 1 1, [4]⟩], .slice none 0 0, [], .slice none 0 0, []⟩ := by
              refine ⟨(rd_blk hb3 rfl).ext0 (((hx4.trans hx5).trans hx7).trans hx7a), by simp [maxLen], ?_, (rd_blk hb7 rfl).ext0 hx7a, by simp [maxLen], ?_, (Own.nil h10 54 2).rd, by simp [maxLen], (Own.nil h10 3 1).rd, by simp [maxLen]⟩
              · intro c hc
                obtain rfl := List.mem_singleton.1 hc
                exact ⟨(rd_blk hb1 rfl).ext0 ((((hx3.trans hx4).trans hx5).trans hx7).trans hx7a), by simp [maxLen]⟩
              · intro c hc
                obtain rfl := List.mem_singleton.1 hc
                exact ⟨(rd_blk hb4 rfl).ext0 ((hx5.trans hx7).trans hx7a), by simp [maxLen], (rd_blk hb5 rfl).ext0 (hx7.trans hx7a), by simp [maxLen]⟩
             have few : Few ⟨.slice (some ⟨b3, 0, none⟩) 1 1, [⟨0, 0, 0, .slice (some ⟨b1, 0, none⟩) 1 1, [(([97] : List UInt8), 3)]⟩], .slice (some ⟨b7, 0, none⟩) 1 1, [⟨0, 0, 0, 0, .slice (some ⟨b4, 0, none⟩) 1 1, [3], .slice (some ⟨b5, 0, none⟩) 1 1, [4]⟩], .slice none 0 0, [], .slice none 0 0, []⟩ := by
              refine ⟨by simp, by simp, by simp, by simp, ?_, ?_⟩
              · intro c hc
                obtain rfl := List.mem_singleton.1 hc
                simp
              · intro c hc
                obtain rfl := List.mem_singleton.1 hc
                simp)
  all_goals (refine WL.nil ?_)
  all_goals (repeat' (with_reducible first | refine thenP_n ?_ | refine blockP_n ?_))
  all_goals (refine WC.sub [(1, _)] ⟨rfl, trivial⟩ ?_)
  all_goals (refine WC.seq ?_)
  all_goals (refine WC.region ?_)
  all_goals (refine WL.step (ok_loadN (fun w => Try.isAgg46 w) (fun w => Try.sizeOf46 w) rfl rfl (by exact At.of_block hb10)) rfl rfl rfl ?_)
  all_goals (refine WL.call (vs := [_]) rfl (fun a w => Try.call29 a w) rfl (counted_v _ ok few) rfl rfl rfl ?_
             rintro v11 h11 ⟨L, hL, hLl, ho11, hx11, hf11⟩)
  all_goals (obtain rfl : L = [(3, 2), (4, 1)] := hL.eq cnt_aw
             have hb11 := hx11.obj hb10 nos
             have ok11 := ok.ext0 hx11
             obtain ⟨A, c, rfl, _⟩ := ho11.slice)
  all_goals (refine WL.step (ok_assign rfl) rfl rfl rfl ?_)
  all_goals (refine WL.nil ?_)
  all_goals (repeat' (with_reducible first | refine thenP_n ?_ | refine blockP_n ?_))
  all_goals (refine WC.seq ?_)
  all_goals (refine WC.region ?_)
  all_goals (refine WL.step (ok_loadN (fun w => Try.isAgg46 w) (fun w => Try.sizeOf46 w) rfl rfl (by exact At.of_block hb11)) rfl rfl rfl ?_)
  all_goals (refine WL.call (vs := [_, _]) rfl (fun a w => Try.call26 a w) rfl (refs_v _ ok11 few 3) rfl rfl rfl ?_
             rintro _ h12 ⟨rfl, hx12⟩)
  all_goals (have hr12 := (ho11.rd.ext0 hx12)
             obtain ⟨bA, oA, hA, hbA, hat⟩ := Rd.at_ hr12 (by simp)
             have hat0 : At h12 bA (oA + 0 * 2) [In 3, In 2] := At.elem (F := cnC) cnC_len hat (k := 0) (x := (3, 2)) rfl
             have hb12 := hx12.obj hb11 nos)
  all_goals (first | (refine WL.step (OkP.bool_t (by omega) (ok_eql rfl rfl)) rfl rfl rfl ?_) | (refine WL.step (OkP.bool_f (by omega) (ok_eql rfl rfl)) rfl rfl rfl ?_) | (refine WL.step (ok_eql rfl rfl) rfl rfl rfl ?_))
  all_goals (refine WL.step (ok_move rfl) rfl rfl rfl ?_)
  all_goals (try ((fail_if_success (refine WL.part 17 (b := true) rfl (fun _ => ?_) (fun _ => ?_))); (fail_if_success (refine WL.part 17 (b := false) rfl (fun _ => ?_) (fun _ => ?_))); (refine WL.part 17 rfl (fun hb => ?_) (fun hb => ?_) <;> (first | replace hb := of_decide_eq_true hb | replace hb := of_decide_eq_false hb | replace hb := of_decide_eq_false (nt hb) | replace hb := of_decide_eq_true (nf hb) | skip))))
  all_goals (first | (refine WL.pass rfl rfl rfl ?_) | (refine WL.step (ok_move rfl) rfl rfl rfl ?_))
  all_goals (first | (refine WL.pass rfl rfl rfl ?_) | (refine WL.step (ok_lenL rfl Try.underlying44 rfl) rfl rfl rfl ?_))
  all_goals (first | (refine WL.pass rfl rfl rfl ?_) | (first | (refine WL.step (OkP.bool_t (by omega) (ok_eql rfl rfl)) rfl rfl rfl ?_) | (refine WL.step (OkP.bool_f (by omega) (ok_eql rfl rfl)) rfl rfl rfl ?_) | (refine WL.step (ok_eql rfl rfl) rfl rfl rfl ?_)))
  all_goals (first | (refine WL.step (ok_pick_t rfl rfl) rfl rfl rfl ?_) | (refine WL.step (ok_pick_f rfl rfl) rfl rfl rfl ?_))
  all_goals (refine WL.step (ok_move rfl) rfl rfl rfl ?_)
  all_goals (try ((fail_if_success (refine WL.part 22 (b := true) rfl (fun _ => ?_) (fun _ => ?_))); (fail_if_success (refine WL.part 22 (b := false) rfl (fun _ => ?_) (fun _ => ?_))); (refine WL.part 22 rfl (fun hb => ?_) (fun hb => ?_) <;> (first | replace hb := of_decide_eq_true hb | replace hb := of_decide_eq_false hb | replace hb := of_decide_eq_false (nt hb) | replace hb := of_decide_eq_true (nf hb) | skip))))
  all_goals (first | (refine WL.pass rfl rfl rfl ?_) | (refine WL.step (ok_move rfl) rfl rfl rfl ?_))
  all_goals (first | (refine WL.pass rfl rfl rfl ?_) | (refine WL.step (ok_idxAddrA Try.underlying44 (fun w => Try.sizeOf54 w) rfl rfl rfl (by first | omega | (simp <;> omega)) (by first | rfl | assumption) (k := 0)) rfl rfl rfl ?_))
  all_goals (first | (refine WL.pass rfl rfl rfl ?_) | (refine WL.step (ok_loadN (fun w => Try.isAgg54 w) (fun w => Try.sizeOf54 w) rfl rfl (by exact hat0)) rfl rfl rfl ?_))
  all_goals (first | (refine WL.pass rfl rfl rfl ?_) | (refine WL.step (ok_buildF (vs := [_, _]) (cs := [_, _]) (fun | [a0, a1] => [a0, a1] | _ => []) rfl rfl (by kernel_rfl)) rfl rfl rfl ?_))
  all_goals (first | (refine WL.pass rfl rfl rfl ?_) | (refine WL.step (OkP.bool_t rfl (ok_eqlF (us := [.i .i64 3, .i .i64 2]) (vs := [.i .i64 3, .i .i64 2]) [.i .i64, .i .i64] (by kernel_rfl) rfl rfl rfl rfl)) rfl rfl rfl ?_))
  all_goals (first | (refine WL.step (ok_pick_t rfl rfl) rfl rfl rfl ?_) | (refine WL.step (ok_pick_f rfl rfl) rfl rfl rfl ?_))
  all_goals (refine WL.step (ok_move rfl) rfl rfl rfl ?_)
  all_goals (try ((fail_if_success (refine WL.part 29 (b := true) rfl (fun _ => ?_) (fun _ => ?_))); (fail_if_success (refine WL.part 29 (b := false) rfl (fun _ => ?_) (fun _ => ?_))); (refine WL.part 29 rfl (fun hb => ?_) (fun hb => ?_) <;> (first | replace hb := of_decide_eq_true hb | replace hb := of_decide_eq_false hb | replace hb := of_decide_eq_false (nt hb) | replace hb := of_decide_eq_true (nf hb) | skip))))
  all_goals (first | (refine WL.pass rfl rfl rfl ?_) | (refine WL.step (ok_loadN (fun w => Try.isAgg46 w) (fun w => Try.sizeOf46 w) rfl rfl (by exact At.of_block hb12)) rfl rfl rfl ?_))
  all_goals (first | (refine WL.pass rfl rfl rfl ?_) | (refine WL.step (ok_loadN (fun w => Try.isAgg46 w) (fun w => Try.sizeOf46 w) rfl rfl (by exact At.of_block hb12)) rfl rfl rfl ?_))
  all_goals (first
               | (refine WL.pass rfl rfl rfl ?_)
               | (refine WL.call (vs := [_, _]) rfl (fun a w => Try.call31 a w) rfl (same_v _ _ (ok11.ext0 hx12) (ok11.ext0 hx12) few) rfl rfl rfl ?_
                  rintro _ h13 ⟨rfl, hx13⟩))
  all_goals (rw [sameB_self])
  all_goals (first | (refine WL.step (ok_pick_t rfl rfl) rfl rfl rfl ?_) | (refine WL.step (ok_pick_f rfl rfl) rfl rfl rfl ?_))
  all_goals (refine WL.step (ok_assign rfl) rfl rfl rfl ?_)
  all_goals (refine WL.nil ?_)
  all_goals (repeat' (with_reducible first | refine thenP_n ?_ | refine blockP_n ?_))
  all_goals (refine WC.sub [(0, _)] ⟨rfl, trivial⟩ ?_)
  all_goals (refine WC.ret ?_)
  all_goals (repeat' (with_reducible first | refine thenP_r ?_ | refine blockP_r ?_))
  all_goals (refine retP_1 _ ⟨rfl, trivial⟩ ?_)
  all_goals (exact ⟨rfl, ((hX10.trans hx11).trans hx12).trans hx13⟩)
end Go.Proofs.Ytfadcbbjjdmmfaa

