/-
  ColsTell holds: any number of columns, of rows, and its tag, is what the document says.
-/
import Derived.Test.YtgfbilmlgibbfaaCols
import Derived.Test.YtgfbilmlgibbfaaBack
import Derived.Test.YtgfbilmlgibbfaaRows
namespace Go.Proofs.Ytgfbilmlgibbfaa
open Go Go.RK

def mkCol (n : List UInt8) : ColD := ⟨n, 0, 0, 25, -1, -1, 0⟩
theorem flat_col (l : List (List UInt8)) : l.flatMap colV = (l.map mkCol).flatMap ColD.cells := by rw [List.flatMap_map]; rfl
/-- What tells of columns, at this slice. -/
def colsB (v : Value) (n : Nat) : Bk := ⟨84, 0, [], [], [], 0, 0, .slice none 0 0, [], v, (colsL n).map mkCol, .slice none 0 0, [], .slice none 0 0, []⟩
theorem cels_nil (h : Heap) : Cels h (.slice none 0 0) [] := ⟨Rd.nil _ _, ⟨by simp, _, _, rfl, by decide⟩, by simp⟩
theorem colsB_ok {h : Heap} {v : Value} {n : Nat} (hn : n ≤ 1000) (ho : Own h v 130 7 n ((colsL n).flatMap colV)) : (colsB v n).ok h := by
  refine ⟨⟨Rd.nil _ _, by simp [colsB]⟩, ⟨?_, by simp [colsB, colsL_len, maxLen]; omega⟩, cels_nil h, ⟨Rd.nil _ _, by simp [colsB]⟩⟩
  have := ho.rd
  rw [flat_col] at this
  simpa [colsB, colsL_len] using this
set_option maxRecDepth 100000 in
theorem describe_cols {h : Heap} (n : Int) : CallsH Try.prog 26 ⟨[In n]⟩ h fun u h' => ∃ v, u = .agg ⟨(colsB v (heldN n)).cells⟩ ∧ (colsB v (heldN n)).ok h' ∧ Ext No h h' := by
  refine calls [(0, _)] Try.func26 rfl Try.ntmps26 rfl ⟨rfl, trivial⟩ ?_
  all_goals (refine WC.seq ?_)
  all_goals (refine WC.region ?_)
  all_goals (refine WL.stepR (okE_alloc (fun w => Try.zeroValue45 w)) rfl rfl rfl ?_
             rintro _ h1 ⟨b1, rfl, hg1, hb1, hx1⟩)
  all_goals (refine WL.nil ?_)
  all_goals (repeat' (with_reducible first | refine thenP_n ?_ | refine blockP_n ?_))
  all_goals (refine WC.seq ?_)
  all_goals (refine WC.region ?_)
  all_goals (refine WL.step (ok_move rfl) rfl rfl rfl ?_)
  all_goals (refine WL.call (vs := [_]) rfl (fun a w => Try.call27 a w) rfl (cols_cols n) rfl rfl rfl ?_
             rintro v2 h2 ⟨ho2, hx2, hf2⟩)
  all_goals (obtain ⟨A2, c2, rfl, _⟩ := ho2.slice)
  all_goals (refine WL.step (ok_buildF (vs := [_, _]) (cs := [_, _, _, _, _, _, _, _, _, _, _]) (fun | [a0, a8] => [a0, (.int .u8 0), (St []), (St []), (St []), (.int .i64 0), (.int .i64 0), (.slice none 0 0), a8, (.slice none 0 0), (.slice none 0 0)] | _ => []) rfl rfl (by kernel_rfl)) rfl rfl rfl ?_)
  all_goals (refine WL.stepR0 (okE_storeW (fun w => Try.sizeOf45 w) rfl rfl rfl (hx2.obj hb1 nos) rfl (by simp [Value.oneCell'])) rfl rfl ?_
             rintro _ h3 ⟨hb3, hx3⟩)
  all_goals (refine WL.nil ?_)
  all_goals (repeat' (with_reducible first | refine thenP_n ?_ | refine blockP_n ?_))
  all_goals (refine WC.sub [(2, _)] ⟨rfl, trivial⟩ ?_)
  all_goals (refine WC.ret ?_)
  all_goals (repeat' (with_reducible first | refine thenP_r ?_ | refine blockP_r ?_))
  all_goals (refine retP_1 _ ⟨⟨_, rfl, ld_blk (fun w => Try.isAgg45 w) (fun w => Try.sizeOf45 w) (by assumption) rfl⟩, trivial⟩ ?_)
  all_goals (exact ⟨_, rfl, colsB_ok (held_le n) (ho2.ext hx3 (fun k hk e => by have := hf2 k hk; have := lt_of_some hb1; omega)), (hx1.trans hx2).trans' hx3 (fun k hk e => by omega)⟩)
/-- A row that is told. -/
def rowB (v : Value) (l : List Cel) : Bk := ⟨68, 0, [], [], [], 0, 0, .slice none 0 0, [], .slice none 0 0, [], v, l, .slice none 0 0, []⟩
theorem rowB_ok {h : Heap} {v : Value} {l : List Cel} (c : Cels h v l) : (rowB v l).ok h := ⟨⟨Rd.nil _ _, by simp [rowB]⟩, ⟨Rd.nil _ _, by simp [rowB]⟩, c, ⟨Rd.nil _ _, by simp [rowB]⟩⟩
theorem row_step {h2 h3 h4 h5 h6 h7 : Heap} {b2 b4 k : Nat} {n1 : Bool} {v1 v6 : Value} {s1 : List UInt8} {l out : List Cel} {rest : List Value} {T0 : TypeId} (hlo : out.length = k) (hrl : rest.length = (l.length - k) * 2) (hk : k ≤ l.length)
    (hp : out.map Cel.pl = (l.take k).map Cel.pl) (hc1 : l[k]? = some ⟨n1, v1, s1⟩) (hb7 : h7[b2]? = some (.cells ⟨(out.flatMap Cel.cells ++ rest).take (0 + k * 2) ++ [.bool n1, v6] ++ (out.flatMap Cel.cells ++ rest).drop (0 + k * 2 + 2)⟩ T0 (0, 0)))
    (hq : ∀ q ∈ out, q.ok h3 ∧ ∀ b, q.v.ownBlock = some b → b2 < b) (hx3 : Ext (fun b => b = b2) h2 h3) (hx4 : Ext No h3 h4) (hx5 : Ext (fun b => b = b4) h4 h5) (hg4 : h3.size ≤ b4) (hx6 : Ext No h5 h6) (hx7 : Ext (fun b => b = b2) h6 h7)
    (ho6 : Own h6 v6 5 1 s1.length (bys s1)) (hl6 : v6.ownBlock = (Value.slice none 0 0).ownBlock ∨ v6.ownBlock = some h5.size) (hlt : b2 < h3.size) (hs : s1.length ≤ reachBytes) :
    k + 1 ≤ l.length ∧ (out ++ [(⟨n1, v6, s1⟩ : Cel)]).map Cel.pl = (l.take (k + 1)).map Cel.pl ∧ (∃ rest', h7[b2]? = some (.cells ⟨(out ++ [(⟨n1, v6, s1⟩ : Cel)]).flatMap Cel.cells ++ rest'⟩ T0 (0, 0)) ∧ rest'.length = (l.length - (k + 1)) * 2) ∧ (∀ q ∈ out ++ [(⟨n1, v6, s1⟩ : Cel)], q.ok h7 ∧ ∀ b, q.v.ownBlock = some b → b2 < b) ∧ Ext (fun b => b = b2) h2 h7 := by
  have hkl : k < l.length := (List.getElem?_eq_some_iff.1 hc1).1
  have hfl : (out.flatMap Cel.cells).length = k * 2 := by rw [length_flat Cel.len, hlo]
  have s4 := hx4.size
  have s5 := hx5.size
  have e1 : (out.flatMap Cel.cells ++ rest).take (0 + k * 2) = out.flatMap Cel.cells := by rw [Nat.zero_add, ← hfl, List.take_left']; rfl
  have e2 : (out.flatMap Cel.cells ++ rest).drop (0 + k * 2 + 2) = rest.drop 2 := by rw [Nat.zero_add, ← hfl, List.drop_append]; simp
  have fr : ∀ b, v6.ownBlock = some b → b2 < b := fun b e => by
    rcases hl6 with e6 | e6 <;> rw [e6] at e
    · cases e
    · simp at e; omega
  refine ⟨hkl, ?_, ⟨rest.drop 2, ?_, ?_⟩, fun q hm => ?_, ?_⟩
  · rw [List.map_append, hp, List.take_add_one, hc1, List.map_append]
    rfl
  · rw [e1, e2] at hb7
    rw [List.flatMap_append, List.flatMap_singleton]
    exact hb7
  · rw [List.length_drop, hrl]; omega
  · rcases List.mem_append.1 hm with hm | hm
    · obtain ⟨q1, q2⟩ := hq q hm
      refine ⟨⟨?_, q1.2⟩, q2⟩
      exact (((q1.1.ext0 hx4).ext' hx5 fun b h1 e eb => by have := q1.1.lt h1 e; omega).ext0 hx6).ext' hx7 fun b _ e eb => by have := q2 b e; omega
    · simp only [List.mem_singleton] at hm
      subst hm
      exact ⟨⟨ho6.rd.ext' hx7 fun b _ e eb => by have := fr b e; omega, hs⟩, fr⟩
  · exact (((hx3.trans' hx4 fun _ _ e => e.elim).trans' hx5 fun b hb e => by have := hx3.size; omega).trans' hx6 fun _ _ e => e.elim).trans hx7
theorem row_end {h3 h8 : Heap} {b1 b2 k : Nat} {l out : List Cel} {rest : List Value} {T0 : TypeId} (hlo : out.length = k) (hrl : rest.length = (l.length - k) * 2) (hk : k = l.length) (hb3 : h3[b2]? = some (.cells ⟨out.flatMap Cel.cells ++ rest⟩ T0 (0, 0))) (hx8 : Ext (fun b => b = b1) h3 h8)
    (hq : ∀ q ∈ out, q.ok h3 ∧ ∀ b, q.v.ownBlock = some b → b2 < b) (h12 : b1 < b2) (hl : l.length ≤ 1000000) : Cels h8 (.slice (some ⟨b2, 0, none⟩) l.length l.length) out := by
  have h0 : rest = [] := List.eq_nil_of_length_eq_zero (by rw [hrl, hk]; simp)
  rw [h0, List.append_nil] at hb3
  have hll : out.length = l.length := by omega
  rw [← hll]
  refine ⟨rd_blk (hx8.obj hb3 (fun e => by omega)) (length_flat Cel.len out), ⟨by unfold reachBytes; omega, _, _, rfl, by unfold maxLen; omega⟩, fun q hm => ?_⟩
  obtain ⟨q1, q2⟩ := hq q hm
  exact ⟨q1.1.ext' hx8 fun b _ e eb => by have := q2 b e; omega, q1.2⟩
set_option maxRecDepth 100000 in
theorem row_told {h : Heap} {v : Value} (l : List Cel) (hc : Cels h v l) (hl : l.length ≤ 1000000) : CallsH Try.prog 28 ⟨[v]⟩ h fun u h' => ∃ v' l', u = .agg ⟨(rowB v' l').cells⟩ ∧ Cels h' v' l' ∧ l'.map Cel.pl = l.map Cel.pl ∧ Ext No h h' := by
  obtain ⟨hr, ⟨_, A, c, rfl, _⟩, hok⟩ := hc
  refine calls [(0, _)] Try.func28 rfl Try.ntmps28 rfl ⟨rfl, trivial⟩ ?_
  all_goals (refine WC.seq ?_)
  all_goals (refine WC.region ?_)
  all_goals (refine WL.stepR (okE_alloc (fun w => Try.zeroValue45 w)) rfl rfl rfl ?_
             rintro _ h1 ⟨b1, rfl, hg1, hb1, hx1⟩)
  all_goals (refine WL.nil ?_)
  all_goals (repeat' (with_reducible first | refine thenP_n ?_ | refine blockP_n ?_))
  all_goals (refine WC.seq ?_)
  all_goals (refine WC.region ?_)
  all_goals (refine WL.step (ok_move rfl) rfl rfl rfl ?_)
  all_goals (refine WL.step (ok_lenL rfl Try.underlying36 rfl) rfl rfl rfl ?_)
  all_goals (refine WL.stepR (okE_makeSlice 32 2 Try.underlying36 (show Try.prog.info? 86 = some Try.t86 by kernel_rfl) rfl rfl rfl rfl rfl (by omega) (by unfold maxLen; omega)) rfl rfl rfl ?_
             rintro _ h2 ⟨b2, zs, rfl, hg2, hb2, hzl, _, hx2⟩)
  all_goals (have hlt1 := lt_of_some hb1
             have hx12 := hx1.trans hx2)
  all_goals (refine WL.step (ok_assign rfl) rfl rfl rfl ?_)
  all_goals (refine WL.nil ?_)
  all_goals (repeat' (with_reducible first | refine thenP_n ?_ | refine blockP_n ?_))
  all_goals (refine WC.seq ?_)
  all_goals (refine WC.seq ?_)
  all_goals (refine WC.region ?_)
  all_goals (refine WL.step (ok_move rfl) rfl rfl rfl ?_)
  all_goals (refine WL.step (ok_lenL rfl Try.underlying36 rfl) rfl rfl rfl ?_)
  all_goals (refine WL.step (ok_move rfl) rfl rfl rfl ?_)
  all_goals (refine WL.nil ?_)
  all_goals (repeat' (with_reducible first | refine thenP_n ?_ | refine blockP_n ?_))
  all_goals (refine WC.sub [(2, _), (3, _), (9, _), (10, _), (11, _)] ⟨rfl, rfl, rfl, rfl, rfl, trivial⟩ ?_)
  all_goals (refine WC.block ?_)
  -- loop 0: slots that turn [11], that stay [2, 3, 9, 10]
  all_goals (refine WC.loopG (X := Nat × List Cel) (fun x => ([(11, In (x.1 : Int))] : Fr)) [(2, _), (3, _), (9, _), (10, _)] (fun x h' => x.1 ≤ l.length ∧ x.2.map Cel.pl = (l.take x.1).map Cel.pl ∧ (∃ rest, h'[b2]? = some (.cells ⟨x.2.flatMap Cel.cells ++ rest⟩ 86 (0, 0)) ∧ rest.length = (l.length - x.1) * 2) ∧ (∀ q ∈ x.2, q.ok h' ∧ ∀ b, q.v.ownBlock = some b → b2 < b) ∧ Ext (fun b => b = b2) h2 h') (fun x => l.length - x.1) ((0, [])) ⟨rfl, rfl, rfl, rfl, rfl, trivial⟩ (by exact ⟨Nat.zero_le _, rfl, ⟨zs, hb2, hzl⟩, by simp, .refl _ _⟩) ?_)
  all_goals (rintro ⟨k, out⟩ h3 ⟨hk, hp, ⟨rest, hb3, hrl⟩, hq, hx3⟩
             simp only at hk hp hb3 hrl hq
             have hlo : out.length = k := by simpa [Nat.min_eq_left hk] using congrArg List.length hp
             have E3 : Ext No h h3 := hx12.trans' hx3 (fun b hb e => by have := hx1.size; omega))
  all_goals (refine WC.sub [(11, _), (2, _), (3, _), (9, _), (10, _)] ⟨rfl, rfl, rfl, rfl, rfl, trivial⟩ ?_)
  all_goals (dsimp only)
  all_goals (refine WC.seq ?_)
  all_goals (refine WC.region ?_)
  all_goals (first | (refine WL.step (OkP.bool_t (by omega) (ok_lss rfl rfl)) rfl rfl rfl ?_) | (refine WL.step (OkP.bool_f (by omega) (ok_lss rfl rfl)) rfl rfl rfl ?_) | (refine WL.step (ok_lss rfl rfl) rfl rfl rfl ?_))
  all_goals (refine WL.nil ?_)
  all_goals (repeat' (with_reducible first | refine thenP_n ?_ | refine blockP_n ?_))
  all_goals (refine WC.seq ?_)
  all_goals (first | refine WC.condB_t 1 rfl ?_ | refine WC.condB_f 2 rfl ?_ | (refine WC.condB 1 2 rfl (fun hb => ?_) (fun hb => ?_) <;> (first | replace hb := of_decide_eq_true hb | replace hb := of_decide_eq_false hb | replace hb := of_decide_eq_false (nt hb) | replace hb := of_decide_eq_true (nf hb) | skip)))
  all_goals (first
    | (fail_if_success (refine Br.mk (i := 1) ?_))
    | (refine Br.mk (i := 1) ?_
       all_goals (refine WC.skip ?_)
       skip))
  all_goals (first
    | (fail_if_success (refine Br.mk (i := 2) ?_))
    | (refine Br.mk (i := 2) ?_
       all_goals (refine WC.exit ?_)
       all_goals (repeat' (with_reducible first | refine thenP_x ?_ | refine blockP_miss rfl ?_ | refine blockP_hit ?_ | refine blockP_n ?_ | refine thenP_n ?_))
       all_goals (refine Br.out (i := 1000) ?_)
       skip))
  all_goals (first | (refine Br.keep ?_) | (repeat' (with_reducible first | refine thenP_n ?_ | refine blockP_n ?_)))
  all_goals (first | (refine Br.keep ?_) | (refine WC.seq ?_))
  all_goals (first | (refine Br.keep ?_) | (refine WC.block ?_))
  all_goals (first | (refine Br.keep ?_) | (refine WC.seq ?_))
  all_goals (first
               | (refine Br.keep ?_)
               | (obtain ⟨bL, oL, hA, hbL, hat⟩ := Rd.at_ (hr.ext0 E3) (by omega)
                  obtain ⟨⟨n1, v1, s1⟩, hc1⟩ : ∃ y, l[k]? = some y := ⟨_, List.getElem?_eq_getElem (by omega)⟩
                  obtain ⟨ok1, hsl⟩ := hok _ (List.mem_of_getElem? hc1)
                  have at1 : At h3 bL (oL + k * 2) [.bool n1, v1] := At.elem Cel.len hat hc1
                  simp only at ok1 hsl
                  unfold reachBytes at hsl
                  obtain ⟨A1, k1, rfl, _⟩ := id ok1))
  all_goals (first | (refine Br.keep ?_) | (refine WC.region ?_))
  all_goals (first | (refine Br.keep ?_) | (refine WL.step (ok_move rfl) rfl rfl rfl ?_))
  all_goals (first | (refine Br.keep ?_) | (refine WL.step (ok_idxAddrA Try.underlying36 (fun w => Try.sizeOf86 w) rfl rfl rfl (by omega) (by first | rfl | assumption)) rfl rfl rfl ?_))
  all_goals (first | (refine Br.keep ?_) | (refine WL.step (ok_loadN (fun w => Try.isAgg86 w) (fun w => Try.sizeOf86 w) rfl rfl (by assumption)) rfl rfl rfl ?_))
  all_goals (first
               | (refine Br.keep ?_)
               | (refine WL.stepR (okE_alloc (fun w => Try.zeroValue86 w)) rfl rfl rfl ?_
                  rintro _ h4 ⟨b4, rfl, hg4, hb4, hx4⟩))
  all_goals (first | (refine Br.keep ?_) | (refine WL.step (ok_assign rfl) rfl rfl rfl ?_))
  all_goals (first
               | (refine Br.keep ?_)
               | (refine WL.stepR0 (okE_storeW (fun w => Try.sizeOf86 w) rfl rfl rfl (by assumption) rfl (by simp [Value.oneCell'])) rfl rfl ?_
                  rintro _ h5 ⟨hb5, hx5⟩))
  all_goals (first
               | (refine Br.keep ?_)
               | (have E5 : Ext No h h5 := (E3.trans hx4).trans' hx5 (fun b hb e => by have := E3.size; omega)
                  have hlt3 := lt_of_some hb3
                  have hb3' := (hx4.obj hb3 nos)
                  have hb3'' := hx5.obj hb3' (fun e => by omega)))
  all_goals (first | (refine Br.keep ?_) | (refine WL.nil ?_))
  all_goals (first | (refine Br.keep ?_) | (repeat' (with_reducible first | refine thenP_n ?_ | refine blockP_n ?_)))
  all_goals (first | (refine Br.keep ?_) | (refine WC.sub [(2, _), (3, _), (4, _), (5, _), (9, _), (10, _), (11, _)] ⟨rfl, rfl, rfl, rfl, rfl, rfl, rfl, trivial⟩ ?_))
  all_goals (first | (refine Br.keep ?_) | (refine WC.drawH (fun h' => h'[b4]? = some (.cells ⟨[.bool n1, .slice A1 s1.length k1]⟩ 86 (0, 0))) 9 10 rfl fol ?_))
  all_goals (first | (refine Br.keep ?_) | (refine WH.take 0 rfl (by kernel_rfl) (by kernel_rfl) (by kernel_rfl) (by kernel_rfl) rfl (by first | exact Ext.refl _ _ | assumption) (fun hq hC => ok_move rfl) rfl rfl rfl ?_))
  all_goals (first | (refine Br.keep ?_) | (refine WH.take 1 rfl (by kernel_rfl) (by kernel_rfl) (by kernel_rfl) (by kernel_rfl) rfl (by first | exact Ext.refl _ _ | assumption) (fun hq hC => ok_move rfl) rfl rfl rfl ?_))
  all_goals (first | (refine Br.keep ?_) | (refine WH.take 2 rfl (by kernel_rfl) (by kernel_rfl) (by kernel_rfl) (by kernel_rfl) rfl (by first | exact Ext.refl _ _ | assumption) (fun hq hC => ok_fieldAddr rfl Try.underlying86 rfl (fun w => Try.sizeOf4 w)) rfl rfl rfl ?_))
  all_goals (first | (refine Br.keep ?_) | (refine WH.take 3 rfl (by kernel_rfl) (by kernel_rfl) (by kernel_rfl) (by kernel_rfl) rfl (by first | exact Ext.refl _ _ | assumption) (fun hq hC => ok_load (fun w => Try.isAgg4 w) rfl (cell_blk hC rfl)) rfl rfl rfl ?_))
  all_goals (first | (refine Br.keep ?_) | (refine WH.take 4 rfl (by kernel_rfl) (by kernel_rfl) (by kernel_rfl) (by kernel_rfl) rfl (by first | exact Ext.refl _ _ | assumption) (fun hq hC => ok_fieldAddr rfl Try.underlying86 rfl (fun w => Try.sizeOf51 w)) rfl rfl rfl ?_))
  all_goals (first | (refine Br.keep ?_) | (refine WH.take 5 rfl (by kernel_rfl) (by kernel_rfl) (by kernel_rfl) (by kernel_rfl) rfl (by first | exact Ext.refl _ _ | assumption) (fun hq hC => ok_load (fun w => Try.isAgg51 w) rfl (cell_blk hC rfl)) rfl rfl rfl ?_))
  all_goals (first | (refine Br.keep ?_) | (refine WH.one 6 (by kernel_rfl) ?_))
  all_goals (first
               | (refine Br.keep ?_)
               | (refine Comes1.run rfl (ok_append (sz := 1) (bytes := 1) rfl Try.underlying51 (show Try.prog.info? 5 = some Try.t5 by kernel_rfl) rfl rfl rfl rfl (by decide) rfl rfl (Own.nil _ _ _) (ok1.ext0 E5) (one_bys s1) (by simp only [maxLen]; omega) (by omega)) rfl rfl rfl ?_ (fun _ => by kernel_rfl)
                  rintro v6 h6 ⟨ho6, hx6, hl6⟩))
  all_goals (first | (refine Br.keep ?_) | (refine ⟨fun _ => hx6.obj hb5 (fun e => by cases e), ?_⟩))
  all_goals (first
               | (refine Br.keep ?_)
               | (have hb6 := hx6.obj hb5 (fun e => by cases e)
                  have hx6' : Ext No h5 h6 := hx6.mono (fun b _ e => by cases e)
                  have hbb := hx6.obj hb3'' (fun e => by cases e)
                  rw [Nat.zero_add, List.nil_append] at ho6
                  obtain ⟨A6, c6, rfl, _⟩ := ho6.slice))
  all_goals (first | (refine Br.keep ?_) | (refine WH.take 7 rfl (by kernel_rfl) (by kernel_rfl) (by kernel_rfl) (by kernel_rfl) rfl (by first | exact Ext.refl _ _ | assumption) (fun hq hC => ok_buildF (vs := [_, _]) (cs := [_, _]) (fun | [a0, a1] => [a0, a1] | _ => []) rfl rfl (by kernel_rfl)) rfl rfl rfl ?_))
  all_goals (first | (refine Br.keep ?_) | (refine WH.take 8 rfl (by kernel_rfl) (by kernel_rfl) (by kernel_rfl) (by kernel_rfl) rfl (by first | exact Ext.refl _ _ | assumption) (fun hq hC => ok_idxAddrA Try.underlying36 (fun w => Try.sizeOf86 w) rfl rfl rfl (by omega) (by first | rfl | assumption)) rfl rfl rfl ?_))
  all_goals (first | (refine Br.keep ?_) | (refine WH.one 9 (by kernel_rfl) ?_))
  all_goals (first
               | (refine Br.keep ?_)
               | (refine Comes1.run0 rfl (okE_storeN (k := 2) (fun w => Try.sizeOf86 w) rfl rfl rfl hbb (by simp [length_flat Cel.len, hlo, hrl]; omega) (by simp [Value.oneCell'])) rfl rfl ?_ (fun _ => by kernel_rfl)
                  rintro _ h7 ⟨hb7, hx7⟩))
  all_goals (first | (refine Br.keep ?_) | (refine ⟨fun e => (by cases e), ?_⟩))
  all_goals (first | (refine Br.keep ?_) | (refine WH.done (by kernel_rfl) ?_))
  all_goals (first | (refine Br.keep ?_) | (repeat' (with_reducible first | refine thenP_n ?_ | refine blockP_n ?_)))
  all_goals (first | (refine Br.keep ?_) | (refine WC.sub [(2, _), (3, _), (9, _), (10, _), (11, _)] ⟨rfl, rfl, rfl, rfl, rfl, trivial⟩ ?_))
  all_goals (first | (refine Br.keep ?_) | (refine WC.region ?_))
  all_goals (first | (refine Br.keep ?_) | (first | (refine WL.step (ok_addI rfl rfl (by omega)) rfl rfl rfl ?_) | (refine WL.step (ok_add rfl rfl) rfl rfl rfl ?_)))
  all_goals (first | (refine Br.keep ?_) | (refine WL.step (ok_move rfl) rfl rfl rfl ?_))
  all_goals (first | (refine Br.keep ?_) | (refine WL.nil ?_))
  all_goals (first | (refine Br.keep ?_) | (repeat' (with_reducible first | refine thenP_n ?_ | refine blockP_n ?_)))
  all_goals (first | (refine Br.keep ?_) | (exact ⟨(k + 1, out ++ [_]), ⟨rfl, rfl, rfl, rfl, rfl, trivial⟩, (by exact row_step hlo hrl hk hp hc1 hb7 hq hx3 hx4 hx5 hg4 hx6' hx7 ho6 hl6 hlt3 (by unfold reachBytes; omega)), (by simp; omega)⟩))
  all_goals (try (refine Br.mk (i := 1000) ?_))
  all_goals (repeat' (with_reducible first | refine thenP_n ?_ | refine blockP_n ?_))
  all_goals (refine WC.sub [(2, _), (3, _)] ⟨rfl, rfl, trivial⟩ ?_)
  all_goals (refine WC.seq ?_)
  all_goals (refine WC.region ?_)
  all_goals (refine WL.step (ok_move rfl) rfl rfl rfl ?_)
  all_goals (refine WL.step (ok_buildF (vs := [_, _]) (cs := [_, _, _, _, _, _, _, _, _, _, _]) (fun | [a0, a9] => [a0, (.int .u8 0), (St []), (St []), (St []), (.int .i64 0), (.int .i64 0), (.slice none 0 0), (.slice none 0 0), a9, (.slice none 0 0)] | _ => []) rfl rfl (by kernel_rfl)) rfl rfl rfl ?_)
  all_goals (refine WL.stepR0 (okE_storeW (fun w => Try.sizeOf45 w) rfl rfl rfl (hx3.obj (hx2.obj hb1 nos) (fun e => by omega)) rfl (by simp [Value.oneCell'])) rfl rfl ?_
             rintro _ h8 ⟨hb8, hx8⟩)
  all_goals (refine WL.nil ?_)
  all_goals (repeat' (with_reducible first | refine thenP_n ?_ | refine blockP_n ?_))
  all_goals (refine WC.ret ?_)
  all_goals (repeat' (with_reducible first | refine thenP_r ?_ | refine blockP_r ?_))
  all_goals (refine retP_1 _ ⟨⟨_, rfl, ld_blk (fun w => Try.isAgg45 w) (fun w => Try.sizeOf45 w) (by assumption) rfl⟩, trivial⟩ ?_)
  all_goals (exact ⟨_, out, rfl, row_end hlo hrl (by omega) hb3 hx8 hq (by omega) (by omega), by rw [hp, List.take_of_length_le (by omega)], E3.trans' hx8 (fun b hb e => by omega)⟩)
theorem two_of {α : Type} {l : List α} (h : l.length = 2) : ∃ a b, l = [a, b] := by
  match l, h with
  | [a, b], _ => exact ⟨a, b, rfl⟩
theorem one_of {l : List Cel} {p : Bool × List UInt8} (h : l.map Cel.pl = [p]) : ∃ q, l = [q] ∧ q.pl = p := by
  match l, h with
  | [q], h => exact ⟨q, rfl, by simpa using h⟩
theorem held2 : heldN 2 = 2 := by decide
theorem held3 : heldN 3 = 3 := by decide
theorem deci2 : deci 2 = [50] := by
  have : dig 2 = [50] := dig_lt (by decide)
  unfold deci
  rw [if_neg (by decide)]
  exact this
set_option maxRecDepth 100000 in
theorem awake10 {h : Heap} : CallsH Try.prog 20 ⟨[]⟩ h fun u h' => u = .bool true ∧ Ext No h h' := by
  refine calls [] Try.func20 rfl Try.ntmps20 rfl trivial ?_
  all_goals (refine WC.seq ?_)
  all_goals (refine WC.region ?_)
  all_goals (refine WL.step (ok_assign rfl) rfl rfl rfl ?_)
  all_goals (refine WL.nil ?_)
  all_goals (repeat' (with_reducible first | refine thenP_n ?_ | refine blockP_n ?_))
  all_goals (refine WC.seq ?_)
  all_goals (refine WC.region ?_)
  all_goals (refine WL.call (vs := [_]) rfl (fun a w => Try.call21 a w) rfl (rows_cols 2) rfl rfl rfl ?_
             rintro v1 h1 ⟨L, hR, hp, hx1, _⟩)
  all_goals (obtain ⟨hr, ⟨_, A, c, rfl, _⟩, hrows⟩ := hR
             rw [held2] at hp
             have hL : L.length = 2 := by simpa [rowsP] using congrArg List.length hp
             obtain ⟨r1, ⟨v2, l2⟩, rfl⟩ := two_of hL
             have hp2 : l2.map Cel.pl = [(false, deci 2)] := by (have := congrArg (·[1]?) hp; simpa [rowsP, rowP, List.range_succ, Rw.pl] using this)
             obtain ⟨⟨n3, v3, s3⟩, rfl, hq3⟩ := one_of hp2
             obtain ⟨b, o, hA, hbL, hat⟩ := Rd.at_ hr (by simp)
             have hc1 := hat.get (p := o + 1 * 1) (v := v2) 1 rfl (by omega)
             obtain ⟨hr2, ⟨_, A2, c2, e2, _⟩, hcs⟩ := hrows ⟨v2, [⟨n3, v3, s3⟩]⟩ (List.mem_cons_of_mem _ List.mem_cons_self)
             simp only at e2 hr2 hcs
             subst e2
             obtain ⟨b2, o2, hA2, _, hat2⟩ := Rd.at_ hr2 (by simp)
             have at2 : At h1 b2 (o2 + 0 * 2) [.bool n3, v3] := At.elem (k := 0) Cel.len hat2 rfl
             have ok3 := (hcs _ List.mem_cons_self).1
             simp only [Cel.pl, Prod.mk.injEq] at hq3
             obtain ⟨rfl, rfl⟩ := hq3
             simp only at ok3
             obtain ⟨A3, k3, rfl, _⟩ := id ok3)
  all_goals (refine WL.step (ok_assign rfl) rfl rfl rfl ?_)
  all_goals (refine WL.nil ?_)
  all_goals (repeat' (with_reducible first | refine thenP_n ?_ | refine blockP_n ?_))
  all_goals (refine WC.seq ?_)
  all_goals (refine WC.region ?_)
  all_goals (refine WL.step (ok_move rfl) rfl rfl rfl ?_)
  all_goals (refine WL.step (ok_lenL rfl Try.underlying37 rfl) rfl rfl rfl ?_)
  all_goals (first | (refine WL.step (OkP.bool_t (by omega) (ok_eql rfl rfl)) rfl rfl rfl ?_) | (refine WL.step (OkP.bool_f (by omega) (ok_eql rfl rfl)) rfl rfl rfl ?_) | (refine WL.step (ok_eql rfl rfl) rfl rfl rfl ?_))
  all_goals (refine WL.step (ok_move rfl) rfl rfl rfl ?_)
  all_goals (try ((fail_if_success (refine WL.part 6 (b := true) rfl (fun _ => ?_) (fun _ => ?_))); (fail_if_success (refine WL.part 6 (b := false) rfl (fun _ => ?_) (fun _ => ?_))); (refine WL.part 6 rfl (fun hb => ?_) (fun hb => ?_) <;> (first | replace hb := of_decide_eq_true hb | replace hb := of_decide_eq_false hb | replace hb := of_decide_eq_false (nt hb) | replace hb := of_decide_eq_true (nf hb) | skip))))
  all_goals (first | (refine WL.pass rfl rfl rfl ?_) | (refine WL.step (ok_move rfl) rfl rfl rfl ?_))
  all_goals (first | (refine WL.pass rfl rfl rfl ?_) | (refine WL.step (ok_idxAddrA Try.underlying37 (fun w => Try.sizeOf36 w) rfl rfl rfl (by first | omega | (simp <;> omega)) (by first | rfl | assumption) (k := 1)) rfl rfl rfl ?_))
  all_goals (first | (refine WL.pass rfl rfl rfl ?_) | (refine WL.step (ok_load (fun w => Try.isAgg36 w) rfl (by first | exact hc1 | assumption | exact cell_blk (by assumption) rfl)) rfl rfl rfl ?_))
  all_goals (first | (refine WL.pass rfl rfl rfl ?_) | (refine WL.step (ok_lenL rfl Try.underlying36 rfl) rfl rfl rfl ?_))
  all_goals (first | (refine WL.pass rfl rfl rfl ?_) | (first | (refine WL.step (OkP.bool_t (by omega) (ok_eql rfl rfl)) rfl rfl rfl ?_) | (refine WL.step (OkP.bool_f (by omega) (ok_eql rfl rfl)) rfl rfl rfl ?_) | (refine WL.step (ok_eql rfl rfl) rfl rfl rfl ?_)))
  all_goals (first | (refine WL.step (ok_pick_t rfl rfl) rfl rfl rfl ?_) | (refine WL.step (ok_pick_f rfl rfl) rfl rfl rfl ?_))
  all_goals (refine WL.step (ok_move rfl) rfl rfl rfl ?_)
  all_goals (try ((fail_if_success (refine WL.part 13 (b := true) rfl (fun _ => ?_) (fun _ => ?_))); (fail_if_success (refine WL.part 13 (b := false) rfl (fun _ => ?_) (fun _ => ?_))); (refine WL.part 13 rfl (fun hb => ?_) (fun hb => ?_) <;> (first | replace hb := of_decide_eq_true hb | replace hb := of_decide_eq_false hb | replace hb := of_decide_eq_false (nt hb) | replace hb := of_decide_eq_true (nf hb) | skip))))
  all_goals (first | (refine WL.pass rfl rfl rfl ?_) | (refine WL.step (ok_move rfl) rfl rfl rfl ?_))
  all_goals (first | (refine WL.pass rfl rfl rfl ?_) | (refine WL.step (ok_idxAddrA Try.underlying37 (fun w => Try.sizeOf36 w) rfl rfl rfl (by first | omega | (simp <;> omega)) (by first | rfl | assumption) (k := 1)) rfl rfl rfl ?_))
  all_goals (first | (refine WL.pass rfl rfl rfl ?_) | (refine WL.step (ok_load (fun w => Try.isAgg36 w) rfl (by first | assumption | exact cell_blk (by assumption) rfl)) rfl rfl rfl ?_))
  all_goals (first | (refine WL.pass rfl rfl rfl ?_) | (refine WL.step (ok_idxAddrA Try.underlying36 (fun w => Try.sizeOf86 w) rfl rfl rfl (by first | omega | (simp <;> omega)) (by first | rfl | assumption) (k := 0)) rfl rfl rfl ?_))
  all_goals (first | (refine WL.pass rfl rfl rfl ?_) | (refine WL.step (ok_fieldAddr rfl Try.underlying86 rfl (fun w => Try.sizeOf51 w)) rfl rfl rfl ?_))
  all_goals (first | (refine WL.pass rfl rfl rfl ?_) | (refine WL.step (ok_load (fun w => Try.isAgg51 w) rfl (by first | exact at2.get 1 rfl rfl | assumption | exact cell_blk (by assumption) rfl)) rfl rfl rfl ?_))
  all_goals (first | (refine WL.pass rfl rfl rfl ?_) | (refine WL.step (ok_convBS Try.underlying51 Try.underlying5 Try.underlying9 rfl (by assumption)) rfl rfl rfl ?_))
  all_goals (rw [deci2])
  all_goals (first | (refine WL.pass rfl rfl rfl ?_) | (first | (refine WL.step (OkP.bool_t (by first | rfl | assumption | decide) (ok_eqlS rfl rfl)) rfl rfl rfl ?_) | (refine WL.step (OkP.bool_f (by first | assumption | decide) (ok_eqlS rfl rfl)) rfl rfl rfl ?_) | (refine WL.step (ok_eqlS rfl rfl) rfl rfl rfl ?_)))
  all_goals (first | (refine WL.step (ok_pick_t rfl rfl) rfl rfl rfl ?_) | (refine WL.step (ok_pick_f rfl rfl) rfl rfl rfl ?_))
  all_goals (refine WL.step (ok_move rfl) rfl rfl rfl ?_)
  all_goals (try ((fail_if_success (refine WL.part 23 (b := true) rfl (fun _ => ?_) (fun _ => ?_))); (fail_if_success (refine WL.part 23 (b := false) rfl (fun _ => ?_) (fun _ => ?_))); (refine WL.part 23 rfl (fun hb => ?_) (fun hb => ?_) <;> (first | replace hb := of_decide_eq_true hb | replace hb := of_decide_eq_false hb | replace hb := of_decide_eq_false (nt hb) | replace hb := of_decide_eq_true (nf hb) | skip))))
  all_goals (first
               | (refine WL.pass rfl rfl rfl ?_)
               | (refine WL.call (vs := [_]) rfl (fun a w => Try.call29 a w) rfl (tag_cols 2 (by decide) (by decide)) rfl rfl rfl ?_
                  rintro _ h3 ⟨rfl, hx3⟩))
  all_goals (rw [deci2])
  all_goals (first | (refine WL.pass rfl rfl rfl ?_) | (first | (refine WL.step (OkP.bool_t (by first | rfl | assumption | decide) (ok_eqlS rfl rfl)) rfl rfl rfl ?_) | (refine WL.step (OkP.bool_f (by first | assumption | decide) (ok_eqlS rfl rfl)) rfl rfl rfl ?_) | (refine WL.step (ok_eqlS rfl rfl) rfl rfl rfl ?_)))
  all_goals (first | (refine WL.step (ok_pick_t rfl rfl) rfl rfl rfl ?_) | (refine WL.step (ok_pick_f rfl rfl) rfl rfl rfl ?_))
  all_goals (refine WL.step (ok_move rfl) rfl rfl rfl ?_)
  all_goals (try ((fail_if_success (refine WL.part 27 (b := true) rfl (fun _ => ?_) (fun _ => ?_))); (fail_if_success (refine WL.part 27 (b := false) rfl (fun _ => ?_) (fun _ => ?_))); (refine WL.part 27 rfl (fun hb => ?_) (fun hb => ?_) <;> (first | replace hb := of_decide_eq_true hb | replace hb := of_decide_eq_false hb | replace hb := of_decide_eq_false (nt hb) | replace hb := of_decide_eq_true (nf hb) | skip))))
  all_goals (first
               | (refine WL.pass rfl rfl rfl ?_)
               | (refine WL.call (vs := [_]) rfl (fun a w => Try.call27 a w) rfl (cols_cols 3) rfl rfl rfl ?_
                  rintro v4 h4 ⟨ho4, hx4, _⟩))
  all_goals (rw [held3] at ho4
             obtain ⟨A4, c4, rfl, _⟩ := ho4.slice)
  all_goals (first | (refine WL.pass rfl rfl rfl ?_) | (refine WL.step (ok_lenL rfl Try.underlying40 rfl) rfl rfl rfl ?_))
  all_goals (first | (refine WL.pass rfl rfl rfl ?_) | (first | (refine WL.step (OkP.bool_t (by omega) (ok_eql rfl rfl)) rfl rfl rfl ?_) | (refine WL.step (OkP.bool_f (by omega) (ok_eql rfl rfl)) rfl rfl rfl ?_) | (refine WL.step (ok_eql rfl rfl) rfl rfl rfl ?_)))
  all_goals (first | (refine WL.step (ok_pick_t rfl rfl) rfl rfl rfl ?_) | (refine WL.step (ok_pick_f rfl rfl) rfl rfl rfl ?_))
  all_goals (refine WL.step (ok_assign rfl) rfl rfl rfl ?_)
  all_goals (refine WL.nil ?_)
  all_goals (repeat' (with_reducible first | refine thenP_n ?_ | refine blockP_n ?_))
  all_goals (refine WC.sub [(0, _)] ⟨rfl, trivial⟩ ?_)
  all_goals (refine WC.ret ?_)
  all_goals (repeat' (with_reducible first | refine thenP_r ?_ | refine blockP_r ?_))
  all_goals (refine retP_1 _ ⟨rfl, trivial⟩ ?_)
  all_goals (exact ⟨rfl, (hx1.trans hx3).trans hx4⟩)
set_option maxRecDepth 100000 in
theorem tell_few {h : Heap} {v : Value} (n : Int) (l : List Cel) (h0 : -9223372036854775808 ≤ n) (h1 : n ≤ 9223372036854775807) (hc : Cels h v l) (hl : 50 < l.length) :
    CallsH Try.prog 4 ⟨[In n, v]⟩ h fun u h' => u = .bool true ∧ Ext No h h' := by
  obtain ⟨hr, ⟨_, A, c, rfl, _⟩, hok⟩ := hc
  refine calls [(0, _), (1, _)] Try.func4 rfl Try.ntmps4 rfl ⟨rfl, rfl, trivial⟩ ?_
  all_goals (refine WC.seq ?_)
  all_goals (refine WC.region ?_)
  all_goals (refine WL.step (ok_assign rfl) rfl rfl rfl ?_)
  all_goals (refine WL.nil ?_)
  all_goals (repeat' (with_reducible first | refine thenP_n ?_ | refine blockP_n ?_))
  all_goals (refine WC.seq ?_)
  all_goals (refine WC.seq ?_)
  all_goals (refine WC.region ?_)
  all_goals (refine WL.step (ok_move rfl) rfl rfl rfl ?_)
  all_goals (refine WL.step (ok_lenL rfl Try.underlying36 rfl) rfl rfl rfl ?_)
  all_goals (first | (refine WL.step (OkP.bool_t (by omega) (ok_gtr rfl rfl)) rfl rfl rfl ?_) | (refine WL.step (OkP.bool_f (by omega) (ok_gtr rfl rfl)) rfl rfl rfl ?_) | (refine WL.step (ok_gtr rfl rfl) rfl rfl rfl ?_))
  all_goals (refine WL.nil ?_)
  all_goals (repeat' (with_reducible first | refine thenP_n ?_ | refine blockP_n ?_))
  all_goals (first | refine WC.condB_t 1 rfl ?_ | refine WC.condB_f 2 rfl ?_ | (refine WC.condB 1 2 rfl (fun hb => ?_) (fun hb => ?_) <;> (first | replace hb := of_decide_eq_true hb | replace hb := of_decide_eq_false hb | replace hb := of_decide_eq_false (nt hb) | replace hb := of_decide_eq_true (nf hb) | skip)))
  all_goals (first
    | (fail_if_success (refine Br.mk (i := 1) ?_))
    | (refine Br.mk (i := 1) ?_
       all_goals (refine WC.seq ?_)
       all_goals (refine WC.region ?_)
       all_goals (refine WL.call (vs := []) rfl (fun a w => Try.call20 a w) rfl (awake10) rfl rfl rfl ?_
                  rintro _ h2 ⟨rfl, hx2⟩)
       all_goals (refine WL.step (ok_assign rfl) rfl rfl rfl ?_)
       all_goals (refine WL.nil ?_)
       all_goals (repeat' (with_reducible first | refine thenP_n ?_ | refine blockP_n ?_))
       all_goals (refine WC.sub [(4, _)] ⟨rfl, trivial⟩ ?_)
       all_goals (refine WC.ret ?_)
       all_goals (repeat' (with_reducible first | refine thenP_r ?_ | refine blockP_r ?_))
       all_goals (refine retP_1 _ ⟨rfl, trivial⟩ ?_)
       all_goals (exact ⟨rfl, hx2⟩)
       skip))
  all_goals (first
    | (fail_if_success (refine Br.mk (i := 2) ?_))
    | (refine Br.mk (i := 2) ?_
       all_goals (refine WC.skip ?_)
       skip))
  all_goals (repeat' (with_reducible first | refine thenP_n ?_ | refine blockP_n ?_))
  all_goals (refine WC.sub [(0, _), (1, _)] ⟨rfl, rfl, trivial⟩ ?_)
  all_goals (refine WC.seq ?_)
  all_goals (refine WC.region ?_)
  all_goals (refine WL.step (ok_move rfl) rfl rfl rfl ?_)
  all_goals (fail "no contract for call of remuda/cols.Rows at 3.1")
  all_goals (refine WL.step (ok_move rfl) rfl rfl rfl ?_)
  all_goals (fail "no contract for call of remuda/remudaref10.Rows at 3.3")
  all_goals (refine WL.step (ok_assign rfl) rfl rfl rfl ?_)
  all_goals (refine WL.step (ok_assign rfl) rfl rfl rfl ?_)
  all_goals (refine WL.nil ?_)
  all_goals (repeat' (with_reducible first | refine thenP_n ?_ | refine blockP_n ?_))
  all_goals (refine WC.sub [(0, _), (1, _), (5, _), (6, _)] ⟨rfl, rfl, rfl, rfl, trivial⟩ ?_)
  all_goals (refine WC.seq ?_)
  all_goals (refine WC.seq ?_)
  all_goals (refine WC.region ?_)
  all_goals (refine WL.step (ok_move rfl) rfl rfl rfl ?_)
  all_goals (refine WL.step (ok_lenL rfl Try.underlying37 rfl) rfl rfl rfl ?_)
  all_goals (refine WL.step (ok_move rfl) rfl rfl rfl ?_)
  all_goals (refine WL.step (ok_lenL rfl Try.underlying37 rfl) rfl rfl rfl ?_)
  all_goals (first | (refine WL.step (OkP.nbool_t (by omega) (ok_neq rfl rfl)) rfl rfl rfl ?_) | (refine WL.step (OkP.nbool_f (by omega) (ok_neq rfl rfl)) rfl rfl rfl ?_) | (refine WL.step (ok_neq rfl rfl) rfl rfl rfl ?_))
  all_goals (refine WL.nil ?_)
  all_goals (repeat' (with_reducible first | refine thenP_n ?_ | refine blockP_n ?_))
  all_goals (refine WC.sub [(0, _), (1, _), (5, _), (6, _), (21, _)] ⟨rfl, rfl, rfl, rfl, rfl, trivial⟩ ?_)
  all_goals (first | refine WC.condB_t 3 rfl ?_ | refine WC.condB_f 4 rfl ?_ | (refine WC.condB 3 4 rfl (fun hb => ?_) (fun hb => ?_) <;> (first | replace hb := of_decide_eq_true hb | replace hb := of_decide_eq_false hb | replace hb := of_decide_eq_false (nt hb) | replace hb := of_decide_eq_true (nf hb) | skip)))
  all_goals (first
    | (fail_if_success (refine Br.mk (i := 3) ?_))
    | (refine Br.mk (i := 3) ?_
       all_goals (refine WC.seq ?_)
       all_goals (refine WC.region ?_)
       all_goals (refine WL.step (ok_assign rfl) rfl rfl rfl ?_)
       all_goals (refine WL.nil ?_)
       all_goals (repeat' (with_reducible first | refine thenP_n ?_ | refine blockP_n ?_))
       all_goals (refine WC.sub [(4, _)] ⟨rfl, trivial⟩ ?_)
       all_goals (refine WC.ret ?_)
       all_goals (repeat' (with_reducible first | refine thenP_r ?_ | refine blockP_r ?_))
       all_goals (refine retP_1 _ ⟨rfl, trivial⟩ ?_)
       all_goals (exact ⟨rfl, hx2⟩)
       skip))
  all_goals (first
    | (fail_if_success (refine Br.mk (i := 4) ?_))
    | (refine Br.mk (i := 4) ?_
       all_goals (refine WC.skip ?_)
       skip))
  all_goals (repeat' (with_reducible first | refine thenP_n ?_ | refine blockP_n ?_))
  all_goals (refine WC.seq ?_)
  all_goals (refine WC.seq ?_)
  all_goals (refine WC.region ?_)
  all_goals (refine WL.step (ok_move rfl) rfl rfl rfl ?_)
  all_goals (refine WL.step (ok_lenL rfl Try.underlying37 rfl) rfl rfl rfl ?_)
  all_goals (refine WL.step (ok_move rfl) rfl rfl rfl ?_)
  all_goals (refine WL.nil ?_)
  all_goals (repeat' (with_reducible first | refine thenP_n ?_ | refine blockP_n ?_))
  all_goals (refine WC.block ?_)
  -- loop 0: slots that turn [24], that stay [0, 1, 5, 6, 23]
  all_goals (refine WC.loopG (fun x => (None : Fr)) [(0, _), (1, _), (5, _), (6, _), (23, _)] (None) (None) (None) ⟨rfl, rfl, rfl, rfl, rfl, rfl, trivial⟩ (by exact ⟨⟩) ?_)
  all_goals (rintro x h1 hI)
  all_goals (refine WC.sub [(24, _), (0, _), (1, _), (5, _), (6, _), (23, _)] ⟨rfl, rfl, rfl, rfl, rfl, rfl, trivial⟩ ?_)
  all_goals (refine WC.seq ?_)
  all_goals (refine WC.region ?_)
  all_goals (first | (refine WL.step (OkP.bool_t (by omega) (ok_lss rfl rfl)) rfl rfl rfl ?_) | (refine WL.step (OkP.bool_f (by omega) (ok_lss rfl rfl)) rfl rfl rfl ?_) | (refine WL.step (ok_lss rfl rfl) rfl rfl rfl ?_))
  all_goals (refine WL.nil ?_)
  all_goals (repeat' (with_reducible first | refine thenP_n ?_ | refine blockP_n ?_))
  all_goals (refine WC.seq ?_)
  all_goals (first | refine WC.condB_t 5 rfl ?_ | refine WC.condB_f 6 rfl ?_ | (refine WC.condB 5 6 rfl (fun hb => ?_) (fun hb => ?_) <;> (first | replace hb := of_decide_eq_true hb | replace hb := of_decide_eq_false hb | replace hb := of_decide_eq_false (nt hb) | replace hb := of_decide_eq_true (nf hb) | skip)))
  all_goals (first
    | (fail_if_success (refine Br.mk (i := 5) ?_))
    | (refine Br.mk (i := 5) ?_
       all_goals (refine WC.skip ?_)
       skip))
  all_goals (first
    | (fail_if_success (refine Br.mk (i := 6) ?_))
    | (refine Br.mk (i := 6) ?_
       all_goals (refine WC.exit ?_)
       all_goals (repeat' (with_reducible first | refine thenP_x ?_ | refine blockP_miss rfl ?_ | refine blockP_hit ?_ | refine blockP_n ?_ | refine thenP_n ?_))
       all_goals (refine Br.out (i := 1000) ?_)
       skip))
  all_goals (first | (refine Br.keep ?_) | (repeat' (with_reducible first | refine thenP_n ?_ | refine blockP_n ?_)))
  all_goals (first | (refine Br.keep ?_) | (refine WC.seq ?_))
  all_goals (first | (refine Br.keep ?_) | (refine WC.block ?_))
  all_goals (first | (refine Br.keep ?_) | (refine WC.seq ?_))
  all_goals (first | (refine Br.keep ?_) | (refine WC.region ?_))
  all_goals (first | (refine Br.keep ?_) | (refine WL.step (ok_move rfl) rfl rfl rfl ?_))
  all_goals (first | (refine Br.keep ?_) | (refine WL.step (ok_assign rfl) rfl rfl rfl ?_))
  all_goals (first | (refine Br.keep ?_) | (refine WL.nil ?_))
  all_goals (first | (refine Br.keep ?_) | (repeat' (with_reducible first | refine thenP_n ?_ | refine blockP_n ?_)))
  all_goals (first | (refine Br.keep ?_) | (refine WC.seq ?_))
  all_goals (first | (refine Br.keep ?_) | (refine WC.drawE fol (by kernel_rfl) ?_))
  all_goals (first | (refine Br.keep ?_) | (refine WQ.stepE (ok_move rfl) rfl rfl rfl ?_))
  all_goals (first | (refine Br.keep ?_) | (refine WQ.stepE (ok_move rfl) rfl rfl rfl ?_))
  all_goals (first | (refine Br.keep ?_) | (refine WQ.stepE (ok_idxAddrA Try.underlying37 (fun w => Try.sizeOf36 w) rfl rfl rfl (by omega) (by first | rfl | assumption)) rfl rfl rfl ?_))
  all_goals (first | (refine Br.keep ?_) | (refine WQ.stepE (ok_load (fun w => Try.isAgg36 w) rfl (by first | assumption | exact cell_blk (by assumption) rfl)) rfl rfl rfl ?_))
  all_goals (first | (refine Br.keep ?_) | (refine WQ.stepE (ok_move rfl) rfl rfl rfl ?_))
  all_goals (first | (refine Br.keep ?_) | (refine WQ.stepE (ok_move rfl) rfl rfl rfl ?_))
  all_goals (first | (refine Br.keep ?_) | (refine WQ.stepE (ok_idxAddrA Try.underlying37 (fun w => Try.sizeOf36 w) rfl rfl rfl (by omega) (by first | rfl | assumption)) rfl rfl rfl ?_))
  all_goals (first | (refine Br.keep ?_) | (refine WQ.stepE (ok_load (fun w => Try.isAgg36 w) rfl (by first | assumption | exact cell_blk (by assumption) rfl)) rfl rfl rfl ?_))
  all_goals (first | (refine Br.keep ?_) | (fail "no contract for call of remuda/remudaref06.Cells at 9.8"))
  all_goals (first | (refine Br.keep ?_) | (refine WQ.stepE (ok_not rfl) rfl rfl rfl ?_))
  all_goals (first | (refine Br.keep ?_) | (refine WQ.nil ?_))
  all_goals (first | (refine Br.keep ?_) | (repeat' (with_reducible first | refine thenP_n ?_ | refine blockP_n ?_)))
  all_goals (first | (refine Br.keep ?_) | (refine WC.sub [(0, _), (1, _), (5, _), (6, _), (23, _), (24, _), (36, _)] ⟨rfl, rfl, rfl, rfl, rfl, rfl, rfl, trivial⟩ ?_))
  all_goals (first | (refine Br.keep ?_) | (first | refine WC.condB_t 7 rfl ?_ | refine WC.condB_f 8 rfl ?_ | (refine WC.condB 7 8 rfl (fun hb => ?_) (fun hb => ?_) <;> (first | replace hb := of_decide_eq_true hb | replace hb := of_decide_eq_false hb | replace hb := of_decide_eq_false (nt hb) | replace hb := of_decide_eq_true (nf hb) | skip))))
  all_goals (first
    | (fail_if_success (refine Br.mk (i := 7) ?_))
    | (refine Br.mk (i := 7) ?_
       all_goals (refine WC.seq ?_)
       all_goals (refine WC.region ?_)
       all_goals (refine WL.step (ok_assign rfl) rfl rfl rfl ?_)
       all_goals (refine WL.nil ?_)
       all_goals (repeat' (with_reducible first | refine thenP_n ?_ | refine blockP_n ?_))
       all_goals (refine WC.sub [(4, _)] ⟨rfl, trivial⟩ ?_)
       all_goals (refine WC.ret ?_)
       all_goals (repeat' (with_reducible first | refine thenP_r ?_ | refine blockP_r ?_))
       all_goals (refine retP_1 _ ⟨rfl, trivial⟩ ?_)
       all_goals (exact ⟨rfl, hx2⟩)
       skip))
  all_goals (first
    | (fail_if_success (refine Br.mk (i := 8) ?_))
    | (refine Br.mk (i := 8) ?_
       all_goals (refine WC.skip ?_)
       skip))
  all_goals (first | (refine Br.keep ?_) | (repeat' (with_reducible first | refine thenP_n ?_ | refine blockP_n ?_)))
  all_goals (first | (refine Br.keep ?_) | (refine WC.region ?_))
  all_goals (first | (refine Br.keep ?_) | (first | (refine WL.step (ok_addI rfl rfl (by omega)) rfl rfl rfl ?_) | (refine WL.step (ok_add rfl rfl) rfl rfl rfl ?_)))
  all_goals (first | (refine Br.keep ?_) | (refine WL.step (ok_move rfl) rfl rfl rfl ?_))
  all_goals (first | (refine Br.keep ?_) | (refine WL.nil ?_))
  all_goals (first | (refine Br.keep ?_) | (repeat' (with_reducible first | refine thenP_n ?_ | refine blockP_n ?_)))
  all_goals (first | (refine Br.keep ?_) | (exact ⟨None, ⟨rfl, rfl, rfl, rfl, rfl, rfl, trivial⟩, (by exact ⟨⟩), (by simp; omega)⟩))
  all_goals (try (refine Br.mk (i := 1000) ?_))
  all_goals (repeat' (with_reducible first | refine thenP_n ?_ | refine blockP_n ?_))
  all_goals (refine WC.sub [(0, _), (1, _)] ⟨rfl, rfl, trivial⟩ ?_)
  all_goals (refine WC.seq ?_)
  all_goals (refine WC.region ?_)
  all_goals (refine WL.step (ok_move rfl) rfl rfl rfl ?_)
  all_goals (fail "no contract for call of remuda/remudaref10.Cols at 12.1")
  all_goals (refine WL.step (ok_buildF (vs := [_, _]) (cs := [_, _, _, _, _, _, _, _, _, _, _]) (fun | [a0, a8] => [a0, (.int .u8 0), (St []), (St []), (St []), (.int .i64 0), (.int .i64 0), (.slice none 0 0), a8, (.slice none 0 0), (.slice none 0 0)] | _ => []) rfl rfl (by kernel_rfl)) rfl rfl rfl ?_)
  all_goals (refine WL.stepR (okE_alloc (fun w => Try.zeroValue45 w)) rfl rfl rfl ?_
             rintro _ h1 ⟨b1, rfl, hg1, hb1, hx1⟩)
  all_goals (refine WL.stepR0 (okE_storeW (fun w => Try.sizeOf45 w) rfl rfl rfl (by assumption) rfl (by simp [Value.oneCell'])) rfl rfl ?_
             rintro _ h1 ⟨hb1, hx1⟩)
  all_goals (refine WL.nil ?_)
  all_goals (repeat' (with_reducible first | refine thenP_n ?_ | refine blockP_n ?_))
  all_goals (refine WC.seq ?_)
  all_goals (refine WC.drawE fol (by kernel_rfl) ?_)
  all_goals (refine WQ.stepE (ok_move rfl) rfl rfl rfl ?_)
  all_goals (fail "no contract for call of remuda/cols.Describe at 13.1")
  all_goals (refine WQ.stepE (ok_loadN (fun w => Try.isAgg45 w) (fun w => Try.sizeOf45 w) rfl rfl (by assumption)) rfl rfl rfl ?_)
  all_goals (fail "no contract for call of remuda/remudaref07.Same at 13.3")
  all_goals (refine WQ.stepE (ok_move rfl) rfl rfl rfl ?_)
  all_goals (try ((fail_if_success (refine WQ.part 45 (b := true) rfl (fun _ => ?_) (fun _ => ?_))); (fail_if_success (refine WQ.part 45 (b := false) rfl (fun _ => ?_) (fun _ => ?_))); (refine WQ.part 45 rfl (fun hb => ?_) (fun hb => ?_) <;> (first | replace hb := of_decide_eq_true hb | replace hb := of_decide_eq_false hb | replace hb := of_decide_eq_false (nt hb) | replace hb := of_decide_eq_true (nf hb) | skip))))
  all_goals (first | (refine WQ.pass rfl rfl rfl ?_) | (refine WQ.stepE (ok_move rfl) rfl rfl rfl ?_))
  all_goals (first | (refine WQ.pass rfl rfl rfl ?_) | (fail "no contract for call of remuda/cols.Cols at 13.6"))
  all_goals (first | (refine WQ.pass rfl rfl rfl ?_) | (refine WQ.stepE (ok_buildF (vs := [_, _]) (cs := [_, _, _, _, _, _, _, _, _, _, _]) (fun | [a0, a8] => [a0, (.int .u8 0), (St []), (St []), (St []), (.int .i64 0), (.int .i64 0), (.slice none 0 0), a8, (.slice none 0 0), (.slice none 0 0)] | _ => []) rfl rfl (by kernel_rfl)) rfl rfl rfl ?_))
  all_goals (first | (refine WQ.pass rfl rfl rfl ?_) | (refine WQ.stepE (ok_loadN (fun w => Try.isAgg45 w) (fun w => Try.sizeOf45 w) rfl rfl (by assumption)) rfl rfl rfl ?_))
  all_goals (first | (refine WQ.pass rfl rfl rfl ?_) | (fail "no contract for call of remuda/remudaref07.Same at 13.9"))
  all_goals (first | (refine WQ.stepE (ok_pick_t rfl rfl) rfl rfl rfl ?_) | (refine WQ.stepE (ok_pick_f rfl rfl) rfl rfl rfl ?_))
  all_goals (refine WQ.stepE (ok_move rfl) rfl rfl rfl ?_)
  all_goals (try ((fail_if_success (refine WQ.part 52 (b := true) rfl (fun _ => ?_) (fun _ => ?_))); (fail_if_success (refine WQ.part 52 (b := false) rfl (fun _ => ?_) (fun _ => ?_))); (refine WQ.part 52 rfl (fun hb => ?_) (fun hb => ?_) <;> (first | replace hb := of_decide_eq_true hb | replace hb := of_decide_eq_false hb | replace hb := of_decide_eq_false (nt hb) | replace hb := of_decide_eq_true (nf hb) | skip))))
  all_goals (first | (refine WQ.pass rfl rfl rfl ?_) | (refine WQ.stepE (ok_move rfl) rfl rfl rfl ?_))
  all_goals (first | (refine WQ.pass rfl rfl rfl ?_) | (fail "no contract for call of remuda/cols.Row at 13.13"))
  all_goals (first | (refine WQ.pass rfl rfl rfl ?_) | (refine WQ.stepE (ok_move rfl) rfl rfl rfl ?_))
  all_goals (first | (refine WQ.pass rfl rfl rfl ?_) | (refine WQ.stepE (ok_buildF (vs := [_, _]) (cs := [_, _, _, _, _, _, _, _, _, _, _]) (fun | [a0, a9] => [a0, (.int .u8 0), (St []), (St []), (St []), (.int .i64 0), (.int .i64 0), (.slice none 0 0), (.slice none 0 0), a9, (.slice none 0 0)] | _ => []) rfl rfl (by kernel_rfl)) rfl rfl rfl ?_))
  all_goals (first | (refine WQ.pass rfl rfl rfl ?_) | (fail "no contract for call of remuda/remudaref07.Same at 13.16"))
  all_goals (first | (refine WQ.stepE (ok_pick_t rfl rfl) rfl rfl rfl ?_) | (refine WQ.stepE (ok_pick_f rfl rfl) rfl rfl rfl ?_))
  all_goals (refine WQ.stepE (ok_move rfl) rfl rfl rfl ?_)
  all_goals (try ((fail_if_success (refine WQ.part 59 (b := true) rfl (fun _ => ?_) (fun _ => ?_))); (fail_if_success (refine WQ.part 59 (b := false) rfl (fun _ => ?_) (fun _ => ?_))); (refine WQ.part 59 rfl (fun hb => ?_) (fun hb => ?_) <;> (first | replace hb := of_decide_eq_true hb | replace hb := of_decide_eq_false hb | replace hb := of_decide_eq_false (nt hb) | replace hb := of_decide_eq_true (nf hb) | skip))))
  all_goals (first | (refine WQ.pass rfl rfl rfl ?_) | (refine WQ.stepE (ok_move rfl) rfl rfl rfl ?_))
  all_goals (first | (refine WQ.pass rfl rfl rfl ?_) | (fail "no contract for call of remuda/cols.Tag at 13.20"))
  all_goals (first | (refine WQ.pass rfl rfl rfl ?_) | (refine WQ.stepE (ok_move rfl) rfl rfl rfl ?_))
  all_goals (first | (refine WQ.pass rfl rfl rfl ?_) | (fail "no contract for call of remuda/remudaref10.Tag at 13.22"))
  all_goals (first | (refine WQ.pass rfl rfl rfl ?_) | (first | (refine WQ.stepE (OkP.bool_t (by first | rfl | assumption | decide) (ok_eqlS rfl rfl)) rfl rfl rfl ?_) | (refine WQ.stepE (OkP.bool_f (by first | assumption | decide) (ok_eqlS rfl rfl)) rfl rfl rfl ?_) | (refine WQ.stepE (ok_eqlS rfl rfl) rfl rfl rfl ?_)))
  all_goals (first | (refine WQ.stepE (ok_pick_t rfl rfl) rfl rfl rfl ?_) | (refine WQ.stepE (ok_pick_f rfl rfl) rfl rfl rfl ?_))
  all_goals (refine WQ.stepE (ok_move rfl) rfl rfl rfl ?_)
  all_goals (try ((fail_if_success (refine WQ.part 66 (b := true) rfl (fun _ => ?_) (fun _ => ?_))); (fail_if_success (refine WQ.part 66 (b := false) rfl (fun _ => ?_) (fun _ => ?_))); (refine WQ.part 66 rfl (fun hb => ?_) (fun hb => ?_) <;> (first | replace hb := of_decide_eq_true hb | replace hb := of_decide_eq_false hb | replace hb := of_decide_eq_false (nt hb) | replace hb := of_decide_eq_true (nf hb) | skip))))
  all_goals (first | (refine WQ.pass rfl rfl rfl ?_) | (fail "no contract for call of remuda/remudalaw10.awake at 13.26"))
  all_goals (first | (refine WQ.stepE (ok_pick_t rfl rfl) rfl rfl rfl ?_) | (refine WQ.stepE (ok_pick_f rfl rfl) rfl rfl rfl ?_))
  all_goals (refine WQ.stepE (ok_assign rfl) rfl rfl rfl ?_)
  all_goals (refine WQ.nil ?_)
  all_goals (repeat' (with_reducible first | refine thenP_n ?_ | refine blockP_n ?_))
  all_goals (refine WC.sub [(4, _)] ⟨rfl, trivial⟩ ?_)
  all_goals (refine WC.ret ?_)
  all_goals (repeat' (with_reducible first | refine thenP_r ?_ | refine blockP_r ?_))
  all_goals (refine retP_1 _ ⟨rfl, trivial⟩ ?_)
  all_goals (exact ⟨rfl, hx2⟩)
set_option maxHeartbeats 4000000 in
set_option maxRecDepth 100000 in
theorem tell_law {h : Heap} {v : Value} (n : Int) (l : List Cel) (hn0 : -9223372036854775808 ≤ n) (hn1 : n ≤ 9223372036854775807) (hc : Cels h v l) (hl : l.length ≤ 50) :
    CallsH Try.prog 4 ⟨[In n, v]⟩ h fun u h' => u = .bool true ∧ Ext No h h' := by
  have hc0 := hc
  obtain ⟨hr, ⟨_, A, c, rfl, _⟩, hok⟩ := hc
  have hh := held_le n
  refine calls [(0, _), (1, _)] Try.func4 rfl Try.ntmps4 rfl ⟨rfl, rfl, trivial⟩ ?_
  all_goals (refine WC.seq ?_)
  all_goals (refine WC.region ?_)
  all_goals (refine WL.step (ok_assign rfl) rfl rfl rfl ?_)
  all_goals (refine WL.nil ?_)
  all_goals (repeat' (with_reducible first | refine thenP_n ?_ | refine blockP_n ?_))
  all_goals (refine WC.seq ?_)
  all_goals (refine WC.seq ?_)
  all_goals (refine WC.region ?_)
  all_goals (refine WL.step (ok_move rfl) rfl rfl rfl ?_)
  all_goals (refine WL.step (ok_lenL rfl Try.underlying36 rfl) rfl rfl rfl ?_)
  all_goals (first | (refine WL.step (OkP.bool_t (by omega) (ok_gtr rfl rfl)) rfl rfl rfl ?_) | (refine WL.step (OkP.bool_f (by omega) (ok_gtr rfl rfl)) rfl rfl rfl ?_) | (refine WL.step (ok_gtr rfl rfl) rfl rfl rfl ?_))
  all_goals (refine WL.nil ?_)
  all_goals (repeat' (with_reducible first | refine thenP_n ?_ | refine blockP_n ?_))
  all_goals (first | refine WC.condB_t 1 rfl ?_ | refine WC.condB_f 2 rfl ?_ | (refine WC.condB 1 2 rfl (fun hb => ?_) (fun hb => ?_) <;> (first | replace hb := of_decide_eq_true hb | replace hb := of_decide_eq_false hb | replace hb := of_decide_eq_false (nt hb) | replace hb := of_decide_eq_true (nf hb) | skip)))
  all_goals (first
    | (fail_if_success (refine Br.mk (i := 1) ?_))
    | (refine Br.mk (i := 1) ?_
       all_goals (refine WC.seq ?_)
       all_goals (refine WC.region ?_)
       all_goals (fail "no contract for call of remuda/remudalaw10.awake at 2.0")
       all_goals (refine WL.step (ok_assign rfl) rfl rfl rfl ?_)
       all_goals (refine WL.nil ?_)
       all_goals (repeat' (with_reducible first | refine thenP_n ?_ | refine blockP_n ?_))
       all_goals (refine WC.sub [(4, _)] ⟨rfl, trivial⟩ ?_)
       all_goals (refine WC.ret ?_)
       all_goals (repeat' (with_reducible first | refine thenP_r ?_ | refine blockP_r ?_))
       all_goals (refine retP_1 _ ⟨rfl, trivial⟩ ?_)
       all_goals (exact ⟨rfl, hE12.trans X20⟩)
       skip))
  all_goals (first
    | (fail_if_success (refine Br.mk (i := 2) ?_))
    | (refine Br.mk (i := 2) ?_
       all_goals (refine WC.skip ?_)
       skip))
  all_goals (repeat' (with_reducible first | refine thenP_n ?_ | refine blockP_n ?_))
  all_goals (refine WC.sub [(0, _), (1, _)] ⟨rfl, rfl, trivial⟩ ?_)
  all_goals (refine WC.seq ?_)
  all_goals (refine WC.region ?_)
  all_goals (refine WL.step (ok_move rfl) rfl rfl rfl ?_)
  all_goals (refine WL.call (vs := [_]) rfl (fun a w => Try.call21 a w) rfl (rows_cols n) rfl rfl rfl ?_
             rintro va h1 ⟨La, hRa, hpa, hx1, _⟩)
  all_goals (refine WL.step (ok_move rfl) rfl rfl rfl ?_)
  all_goals (refine WL.call (vs := [_]) rfl (fun a w => Try.call22 a w) rfl (rows_ref n) rfl rfl rfl ?_
             rintro vb h2 ⟨Lb, hRb, hpb, hx2, _⟩)
  all_goals (have hRa2 := hRa.ext0 hx2
             obtain ⟨ra, ⟨_, Aa, ca, rfl, _⟩, rowsa⟩ := id hRa2
             obtain ⟨rb, ⟨_, Ab, cb, rfl, _⟩, rowsb⟩ := id hRb
             have hla : La.length = heldN n := by simpa [rowsP_len] using congrArg List.length hpa
             have hlb : Lb.length = heldN n := by simpa [rowsP_len] using congrArg List.length hpb
             have hE2 := hx1.trans hx2)
  all_goals (refine WL.step (ok_assign rfl) rfl rfl rfl ?_)
  all_goals (refine WL.step (ok_assign rfl) rfl rfl rfl ?_)
  all_goals (refine WL.nil ?_)
  all_goals (repeat' (with_reducible first | refine thenP_n ?_ | refine blockP_n ?_))
  all_goals (refine WC.sub [(0, _), (1, _), (5, _), (6, _)] ⟨rfl, rfl, rfl, rfl, trivial⟩ ?_)
  all_goals (refine WC.seq ?_)
  all_goals (refine WC.seq ?_)
  all_goals (refine WC.region ?_)
  all_goals (refine WL.step (ok_move rfl) rfl rfl rfl ?_)
  all_goals (refine WL.step (ok_lenL rfl Try.underlying37 rfl) rfl rfl rfl ?_)
  all_goals (refine WL.step (ok_move rfl) rfl rfl rfl ?_)
  all_goals (refine WL.step (ok_lenL rfl Try.underlying37 rfl) rfl rfl rfl ?_)
  all_goals (first | (refine WL.step (OkP.nbool_t (by omega) (ok_neq rfl rfl)) rfl rfl rfl ?_) | (refine WL.step (OkP.nbool_f (by omega) (ok_neq rfl rfl)) rfl rfl rfl ?_) | (refine WL.step (ok_neq rfl rfl) rfl rfl rfl ?_))
  all_goals (refine WL.nil ?_)
  all_goals (repeat' (with_reducible first | refine thenP_n ?_ | refine blockP_n ?_))
  all_goals (refine WC.sub [(0, _), (1, _), (5, _), (6, _), (21, _)] ⟨rfl, rfl, rfl, rfl, rfl, trivial⟩ ?_)
  all_goals (first | refine WC.condB_t 3 rfl ?_ | refine WC.condB_f 4 rfl ?_ | (refine WC.condB 3 4 rfl (fun hb => ?_) (fun hb => ?_) <;> (first | replace hb := of_decide_eq_true hb | replace hb := of_decide_eq_false hb | replace hb := of_decide_eq_false (nt hb) | replace hb := of_decide_eq_true (nf hb) | skip)))
  all_goals (first
    | (fail_if_success (refine Br.mk (i := 3) ?_))
    | (refine Br.mk (i := 3) ?_
       all_goals (refine WC.seq ?_)
       all_goals (refine WC.region ?_)
       all_goals (refine WL.step (ok_assign rfl) rfl rfl rfl ?_)
       all_goals (refine WL.nil ?_)
       all_goals (repeat' (with_reducible first | refine thenP_n ?_ | refine blockP_n ?_))
       all_goals (refine WC.sub [(4, _)] ⟨rfl, trivial⟩ ?_)
       all_goals (refine WC.ret ?_)
       all_goals (repeat' (with_reducible first | refine thenP_r ?_ | refine blockP_r ?_))
       all_goals (refine retP_1 _ ⟨rfl, trivial⟩ ?_)
       all_goals (exact ⟨rfl, hE12.trans X20⟩)
       skip))
  all_goals (first
    | (fail_if_success (refine Br.mk (i := 4) ?_))
    | (refine Br.mk (i := 4) ?_
       all_goals (refine WC.skip ?_)
       skip))
  all_goals (repeat' (with_reducible first | refine thenP_n ?_ | refine blockP_n ?_))
  all_goals (refine WC.seq ?_)
  all_goals (refine WC.seq ?_)
  all_goals (refine WC.region ?_)
  all_goals (refine WL.step (ok_move rfl) rfl rfl rfl ?_)
  all_goals (refine WL.step (ok_lenL rfl Try.underlying37 rfl) rfl rfl rfl ?_)
  all_goals (refine WL.step (ok_move rfl) rfl rfl rfl ?_)
  all_goals (refine WL.nil ?_)
  all_goals (repeat' (with_reducible first | refine thenP_n ?_ | refine blockP_n ?_))
  all_goals (refine WC.block ?_)
  -- loop 0: slots that turn [24], that stay [0, 1, 5, 6, 23]
  all_goals (refine WC.loopG (X := Nat) (fun x => ([(24, In (x : Int))] : Fr)) [(0, _), (1, _), (5, _), (6, _), (23, _)] (fun k h' => h' = h2 ∧ k ≤ La.length) (fun k => La.length - k) (0) ⟨rfl, rfl, rfl, rfl, rfl, rfl, trivial⟩ (by exact ⟨rfl, Nat.zero_le _⟩) ?_)
  all_goals (rintro k h9 ⟨hz, hk⟩
             subst h9)
  all_goals (refine WC.sub [(24, _), (0, _), (1, _), (5, _), (6, _), (23, _)] ⟨rfl, rfl, rfl, rfl, rfl, rfl, trivial⟩ ?_)
  all_goals (refine WC.seq ?_)
  all_goals (refine WC.region ?_)
  all_goals (first | (refine WL.step (OkP.bool_t (by omega) (ok_lss rfl rfl)) rfl rfl rfl ?_) | (refine WL.step (OkP.bool_f (by omega) (ok_lss rfl rfl)) rfl rfl rfl ?_) | (refine WL.step (ok_lss rfl rfl) rfl rfl rfl ?_))
  all_goals (refine WL.nil ?_)
  all_goals (repeat' (with_reducible first | refine thenP_n ?_ | refine blockP_n ?_))
  all_goals (refine WC.seq ?_)
  all_goals (first | refine WC.condB_t 5 rfl ?_ | refine WC.condB_f 6 rfl ?_ | (refine WC.condB 5 6 rfl (fun hb => ?_) (fun hb => ?_) <;> (first | replace hb := of_decide_eq_true hb | replace hb := of_decide_eq_false hb | replace hb := of_decide_eq_false (nt hb) | replace hb := of_decide_eq_true (nf hb) | skip)))
  all_goals (first
    | (fail_if_success (refine Br.mk (i := 5) ?_))
    | (refine Br.mk (i := 5) ?_
       all_goals (refine WC.skip ?_)
       skip))
  all_goals (first
    | (fail_if_success (refine Br.mk (i := 6) ?_))
    | (refine Br.mk (i := 6) ?_
       all_goals (refine WC.exit ?_)
       all_goals (repeat' (with_reducible first | refine thenP_x ?_ | refine blockP_miss rfl ?_ | refine blockP_hit ?_ | refine blockP_n ?_ | refine thenP_n ?_))
       all_goals (refine Br.out (i := 1000) ?_)
       skip))
  all_goals (first | (refine Br.keep ?_) | (repeat' (with_reducible first | refine thenP_n ?_ | refine blockP_n ?_)))
  all_goals (first | (refine Br.keep ?_) | (refine WC.seq ?_))
  all_goals (first | (refine Br.keep ?_) | (refine WC.block ?_))
  all_goals (first | (refine Br.keep ?_) | (refine WC.seq ?_))
  all_goals (first | (refine Br.keep ?_) | (refine WC.region ?_))
  all_goals (first | (refine Br.keep ?_) | (refine WL.step (ok_move rfl) rfl rfl rfl ?_))
  all_goals (first | (refine Br.keep ?_) | (refine WL.step (ok_assign rfl) rfl rfl rfl ?_))
  all_goals (first | (refine Br.keep ?_) | (refine WL.nil ?_))
  all_goals (first | (refine Br.keep ?_) | (repeat' (with_reducible first | refine thenP_n ?_ | refine blockP_n ?_)))
  all_goals (first | (refine Br.keep ?_) | (refine WC.seq ?_))
  all_goals (first
               | (refine Br.keep ?_)
               | (obtain ⟨ga, oa, hA, _, hata⟩ := Rd.at_ ra (by omega)
                  obtain ⟨gb, ob, hB, _, hatb⟩ := Rd.at_ rb (by omega)
                  obtain ⟨⟨wa, la⟩, ea⟩ : ∃ y, La[k]? = some y := ⟨_, List.getElem?_eq_getElem (by omega)⟩
                  obtain ⟨⟨wb, lb⟩, eb⟩ : ∃ y, Lb[k]? = some y := ⟨_, List.getElem?_eq_getElem (by omega)⟩
                  have ca1 := hata.get (p := oa + k * 1) (v := wa) k (by rw [List.getElem?_map, ea]; exact rfl) (by omega)
                  have cb1 := hatb.get (p := ob + k * 1) (v := wb) k (by rw [List.getElem?_map, eb]; exact rfl) (by omega)
                  have epl : la.map Cel.pl = lb.map Cel.pl := by (have q1 := congrArg (·[k]?) (hpa.trans hpb.symm); simpa [ea, eb, Rw.pl] using q1)))
  all_goals (first | (refine Br.keep ?_) | (refine WC.drawE fol (by kernel_rfl) ?_))
  all_goals (first | (refine Br.keep ?_) | (refine WQ.stepE (ok_move rfl) rfl rfl rfl ?_))
  all_goals (first | (refine Br.keep ?_) | (refine WQ.stepE (ok_move rfl) rfl rfl rfl ?_))
  all_goals (first | (refine Br.keep ?_) | (refine WQ.stepE (ok_idxAddrA Try.underlying37 (fun w => Try.sizeOf36 w) rfl rfl rfl (by omega) (by first | rfl | assumption)) rfl rfl rfl ?_))
  all_goals (first | (refine Br.keep ?_) | (refine WQ.stepE (ok_load (fun w => Try.isAgg36 w) rfl (by first | assumption | exact cell_blk (by assumption) rfl)) rfl rfl rfl ?_))
  all_goals (first | (refine Br.keep ?_) | (refine WQ.stepE (ok_move rfl) rfl rfl rfl ?_))
  all_goals (first | (refine Br.keep ?_) | (refine WQ.stepE (ok_move rfl) rfl rfl rfl ?_))
  all_goals (first | (refine Br.keep ?_) | (refine WQ.stepE (ok_idxAddrA Try.underlying37 (fun w => Try.sizeOf36 w) rfl rfl rfl (by omega) (by first | rfl | assumption)) rfl rfl rfl ?_))
  all_goals (first | (refine Br.keep ?_) | (refine WQ.stepE (ok_load (fun w => Try.isAgg36 w) rfl (by first | assumption | exact cell_blk (by assumption) rfl)) rfl rfl rfl ?_))
  all_goals (first | (refine Br.keep ?_) | (refine WQ.callE (vs := [_, _]) rfl (fun a w => Try.call23 a w) rfl ((cells_ref la lb (rowsa _ (List.mem_of_getElem? ea)) (rowsb _ (List.mem_of_getElem? eb))).as (congrArg Value.bool (decide_eq_true epl))) rfl rfl rfl ?_))
  all_goals (first | (refine Br.keep ?_) | (refine WQ.stepE (ok_not rfl) rfl rfl rfl ?_))
  all_goals (first | (refine Br.keep ?_) | (refine WQ.nil ?_))
  all_goals (first | (refine Br.keep ?_) | (repeat' (with_reducible first | refine thenP_n ?_ | refine blockP_n ?_)))
  all_goals (first | (refine Br.keep ?_) | (refine WC.sub [(0, _), (1, _), (5, _), (6, _), (23, _), (24, _), (36, _)] ⟨rfl, rfl, rfl, rfl, rfl, rfl, rfl, trivial⟩ ?_))
  all_goals (first | (refine Br.keep ?_) | (first | refine WC.condB_t 7 rfl ?_ | refine WC.condB_f 8 rfl ?_ | (refine WC.condB 7 8 rfl (fun hb => ?_) (fun hb => ?_) <;> (first | replace hb := of_decide_eq_true hb | replace hb := of_decide_eq_false hb | replace hb := of_decide_eq_false (nt hb) | replace hb := of_decide_eq_true (nf hb) | skip))))
  all_goals (first
    | (fail_if_success (refine Br.mk (i := 7) ?_))
    | (refine Br.mk (i := 7) ?_
       all_goals (refine WC.seq ?_)
       all_goals (refine WC.region ?_)
       all_goals (refine WL.step (ok_assign rfl) rfl rfl rfl ?_)
       all_goals (refine WL.nil ?_)
       all_goals (repeat' (with_reducible first | refine thenP_n ?_ | refine blockP_n ?_))
       all_goals (refine WC.sub [(4, _)] ⟨rfl, trivial⟩ ?_)
       all_goals (refine WC.ret ?_)
       all_goals (repeat' (with_reducible first | refine thenP_r ?_ | refine blockP_r ?_))
       all_goals (refine retP_1 _ ⟨rfl, trivial⟩ ?_)
       all_goals (exact ⟨rfl, hE12.trans X20⟩)
       skip))
  all_goals (first
    | (fail_if_success (refine Br.mk (i := 8) ?_))
    | (refine Br.mk (i := 8) ?_
       all_goals (refine WC.skip ?_)
       skip))
  all_goals (first | (refine Br.keep ?_) | (repeat' (with_reducible first | refine thenP_n ?_ | refine blockP_n ?_)))
  all_goals (first | (refine Br.keep ?_) | (refine WC.region ?_))
  all_goals (first | (refine Br.keep ?_) | (first | (refine WL.step (ok_addI rfl rfl (by omega)) rfl rfl rfl ?_) | (refine WL.step (ok_add rfl rfl) rfl rfl rfl ?_)))
  all_goals (first | (refine Br.keep ?_) | (refine WL.step (ok_move rfl) rfl rfl rfl ?_))
  all_goals (first | (refine Br.keep ?_) | (refine WL.nil ?_))
  all_goals (first | (refine Br.keep ?_) | (repeat' (with_reducible first | refine thenP_n ?_ | refine blockP_n ?_)))
  all_goals (first | (refine Br.keep ?_) | (exact ⟨k + 1, ⟨rfl, rfl, rfl, rfl, rfl, rfl, trivial⟩, (by exact ⟨rfl, by omega⟩), (by omega)⟩))
  all_goals (try (refine Br.mk (i := 1000) ?_))
  all_goals (repeat' (with_reducible first | refine thenP_n ?_ | refine blockP_n ?_))
  all_goals (refine WC.sub [(0, _), (1, _)] ⟨rfl, rfl, trivial⟩ ?_)
  all_goals (refine WC.seq ?_)
  all_goals (refine WC.region ?_)
  all_goals (refine WL.step (ok_move rfl) rfl rfl rfl ?_)
  all_goals (refine WL.call (vs := [_]) rfl (fun a w => Try.call24 a w) rfl (cols_ref n) rfl rfl rfl ?_
             rintro vr h3 ⟨hor, hxr, hfr⟩)
  all_goals (obtain ⟨Ar, cr, rfl, _⟩ := hor.slice)
  all_goals (refine WL.step (ok_buildF (vs := [_, _]) (cs := [_, _, _, _, _, _, _, _, _, _, _]) (fun | [a0, a8] => [a0, (.int .u8 0), (St []), (St []), (St []), (.int .i64 0), (.int .i64 0), (.slice none 0 0), a8, (.slice none 0 0), (.slice none 0 0)] | _ => []) rfl rfl (by kernel_rfl)) rfl rfl rfl ?_)
  all_goals (refine WL.stepR (okE_alloc (fun w => Try.zeroValue45 w)) rfl rfl rfl ?_
             rintro _ h11 ⟨b12, rfl, hg11, hb11, hx11⟩)
  all_goals (refine WL.stepR0 (okE_storeW (fun w => Try.sizeOf45 w) rfl rfl rfl (by assumption) rfl (by simp [Value.oneCell'])) rfl rfl ?_
             rintro _ h12 ⟨hb12, hx12⟩)
  all_goals (have hE12 := ((hE2.trans hxr).trans hx11).trans' hx12 (fun k hk e => by have := hE2.size; have := hxr.size; omega)
             have okr := colsB_ok hh ((hor.ext hx11 (fun _ _ => nos)).ext hx12 (fun k hk e => by have := hor.lt hk; omega))
             have hcl := hc0.ext0 hE12)
  all_goals (refine WL.nil ?_)
  all_goals (repeat' (with_reducible first | refine thenP_n ?_ | refine blockP_n ?_))
  all_goals (refine WC.seq ?_)
  all_goals (refine WC.drawH (fun h' => Ext No h12 h') 28 29 rfl fol ?_)
  all_goals (refine WH.take 0 rfl (by kernel_rfl) (by kernel_rfl) (by kernel_rfl) (by kernel_rfl) rfl (by first | exact Ext.refl _ _ | assumption) (fun hq hC => ok_move rfl) rfl rfl rfl ?_)
  all_goals (refine WH.take 2 rfl (by kernel_rfl) (by kernel_rfl) (by kernel_rfl) (by kernel_rfl) rfl (by first | exact Ext.refl _ _ | assumption) (fun hq hC => ok_loadN (fun w => Try.isAgg45 w) (fun w => Try.sizeOf45 w) rfl rfl (At.of_block (hC.obj hb12 nos))) rfl rfl rfl ?_)
  all_goals (refine WH.one 1 (by kernel_rfl) ?_)
  all_goals (refine Comes1.call (vs := [_]) rfl rfl (fun a w => Try.call26 a w) rfl (describe_cols n) rfl rfl rfl ?_ (fun _ => by kernel_rfl)
             rintro _ h13 ⟨v13, rfl, ok13, hx13⟩)
  all_goals (refine ⟨fun _ => by first | assumption | trivial, ?_⟩)
  all_goals (refine WH.one 3 (by kernel_rfl) ?_)
  all_goals (refine Comes1.call (vs := [_, _]) rfl rfl (fun a w => Try.call25 a w) rfl (same_true (colsB v13 (heldN n)) (colsB (.slice Ar (heldN n) cr) (heldN n)) ok13 (okr.ext0 hx13) rfl) rfl rfl rfl ?_ (fun _ => by kernel_rfl)
             rintro _ h14 ⟨rfl, hx14⟩)
  all_goals (refine ⟨fun _ => hx13.trans hx14, ?_⟩)
  all_goals (have X14 := hx13.trans hx14)
  all_goals (refine WH.take 4 rfl (by kernel_rfl) (by kernel_rfl) (by kernel_rfl) (by kernel_rfl) rfl (by first | exact Ext.refl _ _ | assumption) (fun hq hC => ok_move rfl) rfl rfl rfl ?_)
  all_goals (try ((fail_if_success (refine WH.part 45 (b := true) rfl (fun _ => ?_) (fun _ => ?_))); (fail_if_success (refine WH.part 45 (b := false) rfl (fun _ => ?_) (fun _ => ?_))); (refine WH.part 45 rfl (fun hb => ?_) (fun hb => ?_))))
  all_goals (first | (refine WH.pass 5 rfl (by kernel_rfl) (by kernel_rfl) (by kernel_rfl) (by kernel_rfl) rfl (by first | exact Ext.refl _ _ | assumption) rfl rfl rfl ?_) | (refine WH.take 5 rfl (by kernel_rfl) (by kernel_rfl) (by kernel_rfl) (by kernel_rfl) rfl (by first | exact Ext.refl _ _ | assumption) (fun hq hC => ok_move rfl) rfl rfl rfl ?_))
  all_goals (first | (refine WH.pass 8 rfl (by kernel_rfl) (by kernel_rfl) (by kernel_rfl) (by kernel_rfl) rfl (by first | exact Ext.refl _ _ | assumption) rfl rfl rfl ?_) | (refine WH.take 8 rfl (by kernel_rfl) (by kernel_rfl) (by kernel_rfl) (by kernel_rfl) rfl (by first | exact Ext.refl _ _ | assumption) (fun hq hC => ok_loadN (fun w => Try.isAgg45 w) (fun w => Try.sizeOf45 w) rfl rfl (At.of_block (hC.obj hb12 nos))) rfl rfl rfl ?_))
  all_goals (refine WH.one 6 (by kernel_rfl) ?_)
  all_goals (refine Comes1.call (vs := [_]) rfl rfl (fun a w => Try.call27 a w) rfl (cols_cols n) rfl rfl rfl ?_ (fun _ => by kernel_rfl)
             rintro v15 h15 ⟨ho15, hx15, _⟩)
  all_goals (refine ⟨fun _ => X14.trans hx15, ?_⟩)
  all_goals (have X15 := X14.trans hx15
             obtain ⟨A15, c15, rfl, _⟩ := ho15.slice)
  all_goals (first | (refine WH.pass 7 rfl (by kernel_rfl) (by kernel_rfl) (by kernel_rfl) (by kernel_rfl) rfl (by first | exact Ext.refl _ _ | assumption) rfl rfl rfl ?_) | (refine WH.take 7 rfl (by kernel_rfl) (by kernel_rfl) (by kernel_rfl) (by kernel_rfl) rfl (by first | exact Ext.refl _ _ | assumption) (fun hq hC => ok_buildF (vs := [_, _]) (cs := [_, _, _, _, _, _, _, _, _, _, _]) (fun | [a0, a8] => [a0, (.int .u8 0), (St []), (St []), (St []), (.int .i64 0), (.int .i64 0), (.slice none 0 0), a8, (.slice none 0 0), (.slice none 0 0)] | _ => []) rfl rfl (by kernel_rfl)) rfl rfl rfl ?_))
  all_goals (refine WH.one 9 (by kernel_rfl) ?_)
  all_goals (refine Comes1.call (vs := [_, _]) rfl rfl (fun a w => Try.call25 a w) rfl (same_true (colsB (.slice A15 (heldN n) c15) (heldN n)) (colsB (.slice Ar (heldN n) cr) (heldN n)) (colsB_ok hh ho15) (okr.ext0 X15) rfl) rfl rfl rfl ?_ (fun _ => by kernel_rfl)
             rintro _ h16 ⟨rfl, hx16⟩)
  all_goals (refine ⟨fun _ => X15.trans hx16, ?_⟩)
  all_goals (have X16 := X15.trans hx16)
  all_goals (first | (refine WH.take 10 rfl (by kernel_rfl) (by kernel_rfl) (by kernel_rfl) (by kernel_rfl) rfl (by first | exact Ext.refl _ _ | assumption) (fun hq hC => ok_pick_t rfl rfl) rfl rfl rfl ?_) | (refine WH.take 10 rfl (by kernel_rfl) (by kernel_rfl) (by kernel_rfl) (by kernel_rfl) rfl (by first | exact Ext.refl _ _ | assumption) (fun hq hC => ok_pick_f rfl rfl) rfl rfl rfl ?_))
  all_goals (refine WH.take 11 rfl (by kernel_rfl) (by kernel_rfl) (by kernel_rfl) (by kernel_rfl) rfl (by first | exact Ext.refl _ _ | assumption) (fun hq hC => ok_move rfl) rfl rfl rfl ?_)
  all_goals (try ((fail_if_success (refine WH.part 52 (b := true) rfl (fun _ => ?_) (fun _ => ?_))); (fail_if_success (refine WH.part 52 (b := false) rfl (fun _ => ?_) (fun _ => ?_))); (refine WH.part 52 rfl (fun hb => ?_) (fun hb => ?_))))
  all_goals (first | (refine WH.pass 12 rfl (by kernel_rfl) (by kernel_rfl) (by kernel_rfl) (by kernel_rfl) rfl (by first | exact Ext.refl _ _ | assumption) rfl rfl rfl ?_) | (refine WH.take 12 rfl (by kernel_rfl) (by kernel_rfl) (by kernel_rfl) (by kernel_rfl) rfl (by first | exact Ext.refl _ _ | assumption) (fun hq hC => ok_move rfl) rfl rfl rfl ?_))
  all_goals (first | (refine WH.pass 14 rfl (by kernel_rfl) (by kernel_rfl) (by kernel_rfl) (by kernel_rfl) rfl (by first | exact Ext.refl _ _ | assumption) rfl rfl rfl ?_) | (refine WH.take 14 rfl (by kernel_rfl) (by kernel_rfl) (by kernel_rfl) (by kernel_rfl) rfl (by first | exact Ext.refl _ _ | assumption) (fun hq hC => ok_move rfl) rfl rfl rfl ?_))
  all_goals (first | (refine WH.pass 15 rfl (by kernel_rfl) (by kernel_rfl) (by kernel_rfl) (by kernel_rfl) rfl (by first | exact Ext.refl _ _ | assumption) rfl rfl rfl ?_) | (refine WH.take 15 rfl (by kernel_rfl) (by kernel_rfl) (by kernel_rfl) (by kernel_rfl) rfl (by first | exact Ext.refl _ _ | assumption) (fun hq hC => ok_buildF (vs := [_, _]) (cs := [_, _, _, _, _, _, _, _, _, _, _]) (fun | [a0, a9] => [a0, (.int .u8 0), (St []), (St []), (St []), (.int .i64 0), (.int .i64 0), (.slice none 0 0), (.slice none 0 0), a9, (.slice none 0 0)] | _ => []) rfl rfl (by kernel_rfl)) rfl rfl rfl ?_))
  all_goals (refine WH.one 13 (by kernel_rfl) ?_)
  all_goals (refine Comes1.call (vs := [_]) rfl rfl (fun a w => Try.call28 a w) rfl (row_told l (hcl.ext0 X16) (by omega)) rfl rfl rfl ?_ (fun _ => by kernel_rfl)
             rintro _ h17 ⟨v17, l17, rfl, hc17, hp17, hx17⟩)
  all_goals (refine ⟨fun _ => X16.trans hx17, ?_⟩)
  all_goals (have X17 := X16.trans hx17)
  all_goals (refine WH.one 16 (by kernel_rfl) ?_)
  all_goals (refine Comes1.call (vs := [_, _]) rfl rfl (fun a w => Try.call25 a w) rfl (same_true (rowB v17 l17) (rowB (.slice A l.length c) l) (rowB_ok hc17) (rowB_ok (hcl.ext0 X17)) (by simp [Bk.pl, rowB, hp17])) rfl rfl rfl ?_ (fun _ => by kernel_rfl)
             rintro _ h18 ⟨rfl, hx18⟩)
  all_goals (refine ⟨fun _ => X17.trans hx18, ?_⟩)
  all_goals (have X18 := X17.trans hx18)
  all_goals (first | (refine WH.take 17 rfl (by kernel_rfl) (by kernel_rfl) (by kernel_rfl) (by kernel_rfl) rfl (by first | exact Ext.refl _ _ | assumption) (fun hq hC => ok_pick_t rfl rfl) rfl rfl rfl ?_) | (refine WH.take 17 rfl (by kernel_rfl) (by kernel_rfl) (by kernel_rfl) (by kernel_rfl) rfl (by first | exact Ext.refl _ _ | assumption) (fun hq hC => ok_pick_f rfl rfl) rfl rfl rfl ?_))
  all_goals (refine WH.take 18 rfl (by kernel_rfl) (by kernel_rfl) (by kernel_rfl) (by kernel_rfl) rfl (by first | exact Ext.refl _ _ | assumption) (fun hq hC => ok_move rfl) rfl rfl rfl ?_)
  all_goals (try ((fail_if_success (refine WH.part 59 (b := true) rfl (fun _ => ?_) (fun _ => ?_))); (fail_if_success (refine WH.part 59 (b := false) rfl (fun _ => ?_) (fun _ => ?_))); (refine WH.part 59 rfl (fun hb => ?_) (fun hb => ?_))))
  all_goals (first | (refine WH.pass 19 rfl (by kernel_rfl) (by kernel_rfl) (by kernel_rfl) (by kernel_rfl) rfl (by first | exact Ext.refl _ _ | assumption) rfl rfl rfl ?_) | (refine WH.take 19 rfl (by kernel_rfl) (by kernel_rfl) (by kernel_rfl) (by kernel_rfl) rfl (by first | exact Ext.refl _ _ | assumption) (fun hq hC => ok_move rfl) rfl rfl rfl ?_))
  all_goals (first | (refine WH.pass 21 rfl (by kernel_rfl) (by kernel_rfl) (by kernel_rfl) (by kernel_rfl) rfl (by first | exact Ext.refl _ _ | assumption) rfl rfl rfl ?_) | (refine WH.take 21 rfl (by kernel_rfl) (by kernel_rfl) (by kernel_rfl) (by kernel_rfl) rfl (by first | exact Ext.refl _ _ | assumption) (fun hq hC => ok_move rfl) rfl rfl rfl ?_))
  all_goals (refine WH.one 20 (by kernel_rfl) ?_)
  all_goals (refine Comes1.call (vs := [_]) rfl rfl (fun a w => Try.call29 a w) rfl (tag_cols n hn0 hn1) rfl rfl rfl ?_ (fun _ => by kernel_rfl)
             rintro _ h19 ⟨rfl, hx19⟩)
  all_goals (refine ⟨fun _ => X18.trans hx19, ?_⟩)
  all_goals (have X19 := X18.trans hx19)
  all_goals (refine WH.one 22 (by kernel_rfl) ?_)
  all_goals (refine Comes1.call (vs := [_]) rfl rfl (fun a w => Try.call30 a w) rfl (tag_ref n hn0 hn1) rfl rfl rfl ?_ (fun _ => by kernel_rfl)
             rintro _ hz ⟨rfl, _⟩
             subst hz)
  all_goals (refine ⟨fun _ => by first | assumption | trivial, ?_⟩)
  all_goals (first | (refine WH.pass 23 rfl (by kernel_rfl) (by kernel_rfl) (by kernel_rfl) (by kernel_rfl) rfl (by first | exact Ext.refl _ _ | assumption) rfl rfl rfl ?_) | (first | (refine WH.take 23 rfl (by kernel_rfl) (by kernel_rfl) (by kernel_rfl) (by kernel_rfl) rfl (by first | exact Ext.refl _ _ | assumption) (fun hq hC => OkP.bool_t (by first | rfl | assumption | decide) (ok_eqlS rfl rfl)) rfl rfl rfl ?_) | (refine WH.take 23 rfl (by kernel_rfl) (by kernel_rfl) (by kernel_rfl) (by kernel_rfl) rfl (by first | exact Ext.refl _ _ | assumption) (fun hq hC => OkP.bool_f (by first | assumption | decide) (ok_eqlS rfl rfl)) rfl rfl rfl ?_) | (refine WH.take 23 rfl (by kernel_rfl) (by kernel_rfl) (by kernel_rfl) (by kernel_rfl) rfl (by first | exact Ext.refl _ _ | assumption) (fun hq hC => ok_eqlS rfl rfl) rfl rfl rfl ?_)))
  all_goals (first | (refine WH.take 24 rfl (by kernel_rfl) (by kernel_rfl) (by kernel_rfl) (by kernel_rfl) rfl (by first | exact Ext.refl _ _ | assumption) (fun hq hC => ok_pick_t rfl rfl) rfl rfl rfl ?_) | (refine WH.take 24 rfl (by kernel_rfl) (by kernel_rfl) (by kernel_rfl) (by kernel_rfl) rfl (by first | exact Ext.refl _ _ | assumption) (fun hq hC => ok_pick_f rfl rfl) rfl rfl rfl ?_))
  all_goals (refine WH.take 25 rfl (by kernel_rfl) (by kernel_rfl) (by kernel_rfl) (by kernel_rfl) rfl (by first | exact Ext.refl _ _ | assumption) (fun hq hC => ok_move rfl) rfl rfl rfl ?_)
  all_goals (refine WH.one 26 (by kernel_rfl) ?_)
  all_goals (refine Comes1.call (vs := []) rfl rfl (fun a w => Try.call20 a w) rfl (awake10) rfl rfl rfl ?_ (fun _ => by kernel_rfl)
             rintro _ h20 ⟨rfl, hx20⟩)
  all_goals (refine ⟨fun _ => X19.trans hx20, ?_⟩)
  all_goals (have X20 := X19.trans hx20)
  all_goals (first | (refine WH.take 27 rfl (by kernel_rfl) (by kernel_rfl) (by kernel_rfl) (by kernel_rfl) rfl (by first | exact Ext.refl _ _ | assumption) (fun hq hC => ok_pick_t rfl rfl) rfl rfl rfl ?_) | (refine WH.take 27 rfl (by kernel_rfl) (by kernel_rfl) (by kernel_rfl) (by kernel_rfl) rfl (by first | exact Ext.refl _ _ | assumption) (fun hq hC => ok_pick_f rfl rfl) rfl rfl rfl ?_))
  all_goals (refine WH.one 28 (by kernel_rfl) ?_)
  all_goals (refine Comes1.run rfl (OkP.r (ok_assign rfl)) rfl rfl rfl ?_ (fun _ => by kernel_rfl)
             rintro _ hz ⟨rfl, _⟩
             subst hz)
  all_goals (refine ⟨fun e => (by cases e), ?_⟩)
  all_goals (refine WH.done (by kernel_rfl) ?_)
  all_goals (repeat' (with_reducible first | refine thenP_n ?_ | refine blockP_n ?_))
  all_goals (refine WC.sub [(4, _)] ⟨rfl, trivial⟩ ?_)
  all_goals (refine WC.ret ?_)
  all_goals (repeat' (with_reducible first | refine thenP_r ?_ | refine blockP_r ?_))
  all_goals (refine retP_1 _ ⟨rfl, trivial⟩ ?_)
  all_goals (exact ⟨rfl, hE12.trans X20⟩)
theorem tell_all {h : Heap} {v : Value} (n : Int) (l : List Cel) (h0 : -9223372036854775808 ≤ n) (h1 : n ≤ 9223372036854775807) (hc : Cels h v l) :
    CallsH Try.prog 4 ⟨[In n, v]⟩ h fun u h' => u = .bool true ∧ Ext No h h' := by
  by_cases hl : l.length ≤ 50
  · exact tell_law n l h0 h1 hc hl
  · exact tell_few n l h0 h1 hc (by omega)

namespace LColsTell
open Go.ChangeShapes Go.WideShapes Go.ChangeAt Go.RowKit
open Go.ChangeMaps (open_string shut_string)
theorem own : ownKnob Try.prog.godebug = none := by kernel_rfl
theorem laidOut : laidOutB Try.prog = true := by kernel_rfl
set_option maxRecDepth 100000 in
theorem lifted (os : Os) (started : os.Started) (H : Type) (enc : TypeId × Value → H) :
    ReturnsInHanded {} Try.checked os 4 .any (Rows.colsTellSpec.pre6 enc Try.prog Try.f4 Rows.colsTellRow.domain false) (Rows.colsTellSpec.post enc Try.prog Try.f4 false true false false) := by
  refine returnsInHanded_of_change_sized (C := Try.checked) own started (by kernel_rfl) Try.func4
    (ChangeSpec.witness6 (enc := enc) (C := Try.checked) false ⟨#[], #[.int .i64 0, .slice none 0 0], []⟩ 8 (by kernel_rfl) (by kernel_rfl) (by kernel_rfl) (by kernel_rfl)) ?_
  intro W base args ds gs before hval0 hW hcnd hsz0 _
  have hval : ∀ (j : Nat) t v, Try.f4.params[j]? = some t → args[j]? = some v → Value.okWide Try.prog W .any base t v := hval0
  have hsz := hsz0
  rw [Try.params4] at hsz
  clear hsz0
  have hW' := hW
  obtain ⟨p, q, hA0, hV, rfl, hfz, hnd⟩ := hW
  have hA : DataW.TrodAll enc Try.prog W 0 (fun _ => true) true Try.f4.params.toList args.toList ds p := hA0
  rw [Try.params4] at hA hval
  obtain ⟨v0, vs0, d0, ds0, p0, q0, hargs, rfl, rfl, h0, r0⟩ := trodAll_cons hA
  obtain ⟨v1, vs1, d1, ds1, p1, q1, rfl, rfl, rfl, h1, r1⟩ := trodAll_cons r0
  obtain ⟨rfl, rfl, rfl⟩ := trodAll_nil r1
  obtain rfl : args = #[v0, v1] := by cases args; simp_all
  obtain ⟨rfl, rfl⟩ := trodVars_none hV
  have hz0 : ∀ n ∈ d0.weights Try.prog 3, n ≤ reachBytes := fun n hn => by simpa using List.all_eq_true.1 hsz n (DataW.weights_mem_each (j := 0) rfl rfl n hn)
  have k0 := h0
  have lt0 : ∀ x ∈ p0, x.block < W.heap.size := by obtain ⟨m, hm⟩ := k0; exact DataW.trod_lt m _ _ _ hm
  obtain ⟨a0, rfl, e0, _, w0⟩ := open_int Try.underlying3 (hval 0 3 v0 rfl rfl) h0
  have hz1 : ∀ n ∈ d1.weights Try.prog 36, n ≤ reachBytes := fun n hn => by simpa using List.all_eq_true.1 hsz n (DataW.weights_mem_each (j := 1) rfl rfl n hn)
  have k1 := h1
  have lt1 : ∀ x ∈ p1, x.block < W.heap.size := by obtain ⟨m, hm⟩ := k1; exact DataW.trod_lt m _ _ _ hm
  obtain ⟨A1, n1, c1, rfl⟩ := okWide_slice Try.underlying36 (hval 1 36 v1 rfl rfl)
  obtain ⟨fu1, hf1⟩ := h1
  obtain ⟨⟨v1, l1⟩, e1, w1⟩ := opens_cells W _ _ _ _ _ _ _ _ hf1 hz1
  obtain rfl : .slice A1 n1 c1 = v1 := by simpa [Value.cells] using e1
  clear hA0 hval0
  have hb0 : -9223372036854775808 ≤ a0 ∧ a0 ≤ 9223372036854775807 := by simpa [Lit.wf, IntKind.signed, IntKind.bits, IntKind.max, IntKind.min] using w0
  refine (law_calls (tell_all a0 l1 hb0.1 hb0.2 w1)).mono fun e W' ⟨he, bel⟩ => ?_
  subst he
  exact ⟨_, rfl, _, _, _, [], _, [], hW', trodAll_mk1 (shut_bool Try.underlying4 _), (trodAll_cons_mk (Below.trod laidOut (by kernel_rfl) (of_decide_eq_true (by kernel_rfl)) k0 bel lt0) (trodAll_cons_mk (Below.trod laidOut (by kernel_rfl) (of_decide_eq_true (by kernel_rfl)) k1 bel lt1) trodAll_mk0)), rfl, bel.frame _, fun h => by cases h⟩
theorem over : Rows.colsTellRow.holds Try.pinned (OpenSpec.ofChange Rows.colsTellSpec) :=
  OpenClaim.holds_of_wide 4 Try.f4 rfl rfl rfl rfl rfl rfl rfl ⟨rfl, rfl, rfl, rfl, rfl⟩ rfl rfl rfl rfl rfl (by kernel_rfl) Try.func4 (by kernel_rfl)
    (of_decide_eq_true (by kernel_rfl)) (by unfold Func.isWrapper; first | (rw [if_pos (by decide +kernel)]; kernel_rfl) | (rw [if_neg (by decide +kernel)]; exact ⟨rfl, rfl⟩))
    (fun os started H enc _ => lifted os started H enc)
end LColsTell
theorem colsTell_proved : Rows.ColsTellSaid := LColsTell.over
#print axioms colsTell_proved
end Go.Proofs.Ytgfbilmlgibbfaa

