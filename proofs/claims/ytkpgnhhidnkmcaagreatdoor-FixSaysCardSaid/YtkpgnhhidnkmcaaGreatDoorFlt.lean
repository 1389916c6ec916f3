/-
  FAULTS (layer 8): fields of messages: found, set, made.
-/
import Derived.Test.YtkpgnhhidnkmcaaGreatDoorBkChk2
import Derived.Test.YtkpgnhhidnkmcaaGreatDoorK25
namespace Go.Proofs.YtkpgnhhidnkmcaaGreatDoor
open Go Go.RK

abbrev atP (c : Int) (f : FieldD) : Bool := decide (f.k = c)
set_option maxRecDepth 100000 in
theorem atf {h : Heap} {b : Nat} {ty : TypeId} (x : FieldD) (c : Int) (hb : h[b]? = some (.cells ⟨[.int .u8 c]⟩ ty (0, 0))) : CallsH Tryz.prog 66 ⟨[.agg ⟨x.cells⟩, .pointer (some ⟨b, 0, none⟩)]⟩ h fun u h' => u = .bool (atP c x) ∧ Ext No h h' := by
  obtain ⟨k, t⟩ := x
  dsimp only [FieldD.cells, atP]
  refine calls [(0, _), (1, _)] Tryz.func66 rfl Tryz.ntmps66 rfl ⟨rfl, rfl, trivial⟩ ?_
  all_goals (refine WC.seq ?_)
  all_goals (refine WC.region ?_)
  all_goals (refine WL.stepR (okE_box rfl) rfl rfl rfl ?_
             rintro _ h1 ⟨b1, rfl, hg1, hb1, hx1⟩)
  all_goals (refine WL.step (ok_assign rfl) rfl rfl rfl ?_)
  all_goals (refine WL.nil ?_)
  all_goals (repeat' (with_reducible first | refine thenP_n ?_ | refine blockP_n ?_))
  all_goals (refine WC.seq ?_)
  all_goals (refine WC.region ?_)
  all_goals (refine WL.step (ok_fieldAddr rfl Tryz.underlying60 rfl (fun w => Tryz.sizeOf5 w)) rfl rfl rfl ?_)
  all_goals (refine WL.step (ok_load (fun w => Tryz.isAgg5 w) rfl (by first | assumption | exact cell_blk (by assumption) rfl)) rfl rfl rfl ?_)
  all_goals (refine WL.step (ok_load (fun w => Tryz.isAgg5 w) rfl (by first | exact cell_blk (hx1.obj hb nos) rfl | assumption | exact cell_blk (by assumption) rfl)) rfl rfl rfl ?_)
  all_goals (refine WL.step (ok_eql rfl rfl) rfl rfl rfl ?_)
  all_goals (refine WL.step (ok_assign rfl) rfl rfl rfl ?_)
  all_goals (refine WL.nil ?_)
  all_goals (repeat' (with_reducible first | refine thenP_n ?_ | refine blockP_n ?_))
  all_goals (refine WC.sub [(3, _)] ⟨rfl, trivial⟩ ?_)
  all_goals (refine WC.ret ?_)
  all_goals (repeat' (with_reducible first | refine thenP_r ?_ | refine blockP_r ?_))
  all_goals (refine retP_1 _ ⟨rfl, trivial⟩ ?_)
  all_goals (exact ⟨rfl, hx1⟩)
set_option maxRecDepth 100000 in
theorem at_v {h : Heap} {v : Value} (F : List FieldD) (c : Int) (hr : Rd h v 2 F.length (F.flatMap FieldD.cells)) (hm : F.length ≤ maxLen) : CallsH Tryz.prog 43 ⟨[v, .int .u8 c]⟩ h fun u h' => u = In (idxP (atP c) F) ∧ Ext No h h' := by
  refine calls [(0, _), (1, _)] Tryz.func43 rfl Tryz.ntmps43 rfl ⟨rfl, rfl, trivial⟩ ?_
  all_goals (refine WC.seq ?_)
  all_goals (refine WC.region ?_)
  all_goals (refine WL.stepR (okE_box rfl) rfl rfl rfl ?_
             rintro _ h1 ⟨b1, rfl, hg1, hb1, hx1⟩)
  all_goals (refine WL.step (ok_assign rfl) rfl rfl rfl ?_)
  all_goals (refine WL.nil ?_)
  all_goals (repeat' (with_reducible first | refine thenP_n ?_ | refine blockP_n ?_))
  all_goals (refine WC.seq ?_)
  all_goals (refine WC.region ?_)
  all_goals (refine WL.step (ok_move rfl) rfl rfl rfl ?_)
  all_goals (refine WL.step (ok_makeFunc (vs := []) (us := [_]) rfl rfl) rfl rfl rfl ?_)
  all_goals (refine WL.call (vs := [_, _]) rfl (fun a w => Tryz.call51 a w) rfl (indexFunc_fld F (atP c) (fun a w => Tryz.call66 a w) (fs := []) (us := [.pointer (some ⟨b1, 0, none⟩)]) (hr.ext0 hx1) hm (fun x hx h' hx' => atf x c (hx'.obj hb1 nos))) rfl rfl rfl ?_
             rintro _ h2 ⟨rfl, hx2⟩)
  all_goals (refine WL.step (ok_assign rfl) rfl rfl rfl ?_)
  all_goals (refine WL.nil ?_)
  all_goals (repeat' (with_reducible first | refine thenP_n ?_ | refine blockP_n ?_))
  all_goals (refine WC.sub [(4, _)] ⟨rfl, trivial⟩ ?_)
  all_goals (refine WC.ret ?_)
  all_goals (repeat' (with_reducible first | refine thenP_r ?_ | refine blockP_r ?_))
  all_goals (refine retP_1 _ ⟨rfl, trivial⟩ ?_)
  all_goals (exact ⟨rfl, hx1.trans hx2⟩)
def getT (c : Int) (F : List FieldD) : Option (List UInt8) := (F.find? (atP c)).map (·.t)
theorem getT_at {c : Int} {F : List FieldD} {k : Nat} {y : FieldD} (h1 : F[k]? = some y) (h2 : atP c y = true) (h3 : ∀ x ∈ F.take k, atP c x = false) : getT c F = some y.t := by
  have hk := (List.getElem?_eq_some_iff.1 h1)
  have e : F = F.take k ++ y :: F.drop (k + 1) := by
    conv => lhs; rw [← List.take_append_drop k F]
    rw [List.drop_eq_getElem_cons hk.1, hk.2]
  unfold getT
  rw [e, List.find?_append, List.find?_eq_none.2 (fun x hx => by rw [h3 x hx]; decide), Option.none_or, List.find?_cons, h2]
  rfl
theorem getT_no {c : Int} {F : List FieldD} (h : ∀ x ∈ F, atP c x = false) : getT c F = none := by
  unfold getT
  rw [List.find?_eq_none.2 (fun x hx => by rw [h x hx]; decide)]
  rfl
set_option maxRecDepth 100000 in
theorem get_v {h : Heap} {v : Value} (F : List FieldD) (c : Int) (hr : Rd h v 2 F.length (F.flatMap FieldD.cells)) (hm : F.length ≤ maxLen) : CallsH Tryz.prog 16 ⟨[v, .int .u8 c]⟩ h fun u h' => u = .tuple ⟨[St ((getT c F).getD []), .bool (getT c F).isSome]⟩ ∧ Ext No h h' := by
  have ka := at_v F c hr hm
  obtain ⟨A, cc, rfl, _⟩ := id hr
  rcases idxP_cases (atP c) F with ⟨e, hno⟩ | ⟨k, y, e, hy, hp, hn⟩
  · rw [e] at ka
    rw [getT_no hno]
    refine calls [(0, _), (1, _)] Tryz.func16 rfl Tryz.ntmps16 rfl ⟨rfl, rfl, trivial⟩ ?_
    all_goals (refine WC.seq ?_)
    all_goals (refine WC.region ?_)
    all_goals (refine WL.step (ok_assign rfl) rfl rfl rfl ?_)
    all_goals (refine WL.step (ok_assign rfl) rfl rfl rfl ?_)
    all_goals (refine WL.nil ?_)
    all_goals (repeat' (with_reducible first | refine thenP_n ?_ | refine blockP_n ?_))
    all_goals (refine WC.seq ?_)
    all_goals (refine WC.region ?_)
    all_goals (refine WL.step (ok_move rfl) rfl rfl rfl ?_)
    all_goals (refine WL.step (ok_move rfl) rfl rfl rfl ?_)
    all_goals (refine WL.call (vs := [_, _]) rfl (fun a w => Tryz.call43 a w) rfl (ka) rfl rfl rfl ?_
               rintro _ h1 ⟨rfl, hx1⟩)
    all_goals (refine WL.step (ok_assign rfl) rfl rfl rfl ?_)
    all_goals (refine WL.nil ?_)
    all_goals (repeat' (with_reducible first | refine thenP_n ?_ | refine blockP_n ?_))
    all_goals (refine WC.sub [(0, _), (6, _)] ⟨rfl, rfl, trivial⟩ ?_)
    all_goals (refine WC.seq ?_)
    all_goals (refine WC.seq ?_)
    all_goals (refine WC.region ?_)
    all_goals (refine WL.step (ok_move rfl) rfl rfl rfl ?_)
    all_goals (first | (refine WL.step (OkP.bool_t (by omega) (ok_lss rfl rfl)) rfl rfl rfl ?_) | (refine WL.step (OkP.bool_f (by omega) (ok_lss rfl rfl)) rfl rfl rfl ?_) | (refine WL.step (ok_lss rfl rfl) rfl rfl rfl ?_))
    all_goals (refine WL.nil ?_)
    all_goals (repeat' (with_reducible first | refine thenP_n ?_ | refine blockP_n ?_))
    all_goals (first | refine WC.condB_t 1 rfl ?_ | refine WC.condB_f 2 rfl ?_ | (refine WC.condB 1 2 rfl (fun hb => ?_) (fun hb => ?_) <;> (first | replace hb := of_decide_eq_true hb | replace hb := of_decide_eq_false hb | replace hb := of_decide_eq_false (nt hb) | replace hb := of_decide_eq_true (nf hb) | skip)))
    all_goals (first
      | (fail_if_success (refine Br.mk (i := 1) ?_))
      | (refine Br.mk (i := 1) ?_
         all_goals (refine WC.seq ?_)
         all_goals (refine WC.region ?_)
         all_goals (refine WL.step (ok_assign rfl) rfl rfl rfl ?_)
         all_goals (refine WL.step (ok_assign rfl) rfl rfl rfl ?_)
         all_goals (refine WL.nil ?_)
         all_goals (repeat' (with_reducible first | refine thenP_n ?_ | refine blockP_n ?_))
         all_goals (refine WC.sub [(4, _), (5, _)] ⟨rfl, rfl, trivial⟩ ?_)
         all_goals (refine WC.ret ?_)
         all_goals (repeat' (with_reducible first | refine thenP_r ?_ | refine blockP_r ?_))
         all_goals (refine retP_2 _ _ ⟨rfl, rfl, trivial⟩ ?_)
         all_goals (exact ⟨rfl, hx1⟩)
         skip))
    all_goals (first
      | (fail_if_success (refine Br.mk (i := 2) ?_))
      | (refine Br.mk (i := 2) ?_
         all_goals (refine WC.skip ?_)
         skip))
    all_goals (repeat' (with_reducible first | refine thenP_n ?_ | refine blockP_n ?_))
    all_goals (refine WC.seq ?_)
    all_goals (refine WC.region ?_)
    all_goals (refine WL.step (ok_move rfl) rfl rfl rfl ?_)
    all_goals (refine WL.step (ok_move rfl) rfl rfl rfl ?_)
    all_goals (refine WL.step (ok_idxAddrA Tryz.underlying30 (fun w => Tryz.sizeOf60 w) rfl rfl rfl (by omega) (by first | rfl | assumption)) rfl rfl rfl ?_)
    all_goals (refine WL.step (ok_fieldAddr rfl Tryz.underlying60 rfl (fun w => Tryz.sizeOf9 w)) rfl rfl rfl ?_)
    all_goals (refine WL.step (ok_load (fun w => Tryz.isAgg9 w) rfl (by first | assumption | exact cell_blk (by assumption) rfl)) rfl rfl rfl ?_)
    all_goals (refine WL.step (ok_assign rfl) rfl rfl rfl ?_)
    all_goals (refine WL.step (ok_assign rfl) rfl rfl rfl ?_)
    all_goals (refine WL.nil ?_)
    all_goals (repeat' (with_reducible first | refine thenP_n ?_ | refine blockP_n ?_))
    all_goals (refine WC.sub [(4, _), (5, _)] ⟨rfl, rfl, trivial⟩ ?_)
    all_goals (refine WC.ret ?_)
    all_goals (repeat' (with_reducible first | refine thenP_r ?_ | refine blockP_r ?_))
    all_goals (refine retP_2 _ _ ⟨rfl, rfl, trivial⟩ ?_)
    all_goals (exact ⟨rfl, hx1⟩)
  · rw [e] at ka
    rw [getT_at hy hp hn]
    have hkl := (List.getElem?_eq_some_iff.1 hy).1
    obtain ⟨bL, oL, hA, hbL, hat⟩ := Rd.at_ hr (by omega)
    have hc : At h bL (oL + k * 2) [.int .u8 y.k, St y.t] := At.elem FieldD.len hat hy
    refine calls [(0, _), (1, _)] Tryz.func16 rfl Tryz.ntmps16 rfl ⟨rfl, rfl, trivial⟩ ?_
    all_goals (refine WC.seq ?_)
    all_goals (refine WC.region ?_)
    all_goals (refine WL.step (ok_assign rfl) rfl rfl rfl ?_)
    all_goals (refine WL.step (ok_assign rfl) rfl rfl rfl ?_)
    all_goals (refine WL.nil ?_)
    all_goals (repeat' (with_reducible first | refine thenP_n ?_ | refine blockP_n ?_))
    all_goals (refine WC.seq ?_)
    all_goals (refine WC.region ?_)
    all_goals (refine WL.step (ok_move rfl) rfl rfl rfl ?_)
    all_goals (refine WL.step (ok_move rfl) rfl rfl rfl ?_)
    all_goals (refine WL.call (vs := [_, _]) rfl (fun a w => Tryz.call43 a w) rfl (ka) rfl rfl rfl ?_
               rintro _ h1 ⟨rfl, hx1⟩)
    all_goals (refine WL.step (ok_assign rfl) rfl rfl rfl ?_)
    all_goals (refine WL.nil ?_)
    all_goals (repeat' (with_reducible first | refine thenP_n ?_ | refine blockP_n ?_))
    all_goals (refine WC.sub [(0, _), (6, _)] ⟨rfl, rfl, trivial⟩ ?_)
    all_goals (refine WC.seq ?_)
    all_goals (refine WC.seq ?_)
    all_goals (refine WC.region ?_)
    all_goals (refine WL.step (ok_move rfl) rfl rfl rfl ?_)
    all_goals (first | (refine WL.step (OkP.bool_t (by omega) (ok_lss rfl rfl)) rfl rfl rfl ?_) | (refine WL.step (OkP.bool_f (by omega) (ok_lss rfl rfl)) rfl rfl rfl ?_) | (refine WL.step (ok_lss rfl rfl) rfl rfl rfl ?_))
    all_goals (refine WL.nil ?_)
    all_goals (repeat' (with_reducible first | refine thenP_n ?_ | refine blockP_n ?_))
    all_goals (first | refine WC.condB_t 1 rfl ?_ | refine WC.condB_f 2 rfl ?_ | (refine WC.condB 1 2 rfl (fun hb => ?_) (fun hb => ?_) <;> (first | replace hb := of_decide_eq_true hb | replace hb := of_decide_eq_false hb | replace hb := of_decide_eq_false (nt hb) | replace hb := of_decide_eq_true (nf hb) | skip)))
    all_goals (first
      | (fail_if_success (refine Br.mk (i := 1) ?_))
      | (refine Br.mk (i := 1) ?_
         all_goals (refine WC.seq ?_)
         all_goals (refine WC.region ?_)
         all_goals (refine WL.step (ok_assign rfl) rfl rfl rfl ?_)
         all_goals (refine WL.step (ok_assign rfl) rfl rfl rfl ?_)
         all_goals (refine WL.nil ?_)
         all_goals (repeat' (with_reducible first | refine thenP_n ?_ | refine blockP_n ?_))
         all_goals (refine WC.sub [(4, _), (5, _)] ⟨rfl, rfl, trivial⟩ ?_)
         all_goals (refine WC.ret ?_)
         all_goals (repeat' (with_reducible first | refine thenP_r ?_ | refine blockP_r ?_))
         all_goals (refine retP_2 _ _ ⟨rfl, rfl, trivial⟩ ?_)
         all_goals (exact ⟨rfl, hx1⟩)
         skip))
    all_goals (first
      | (fail_if_success (refine Br.mk (i := 2) ?_))
      | (refine Br.mk (i := 2) ?_
         all_goals (refine WC.skip ?_)
         skip))
    all_goals (repeat' (with_reducible first | refine thenP_n ?_ | refine blockP_n ?_))
    all_goals (refine WC.seq ?_)
    all_goals (refine WC.region ?_)
    all_goals (refine WL.step (ok_move rfl) rfl rfl rfl ?_)
    all_goals (refine WL.step (ok_move rfl) rfl rfl rfl ?_)
    all_goals (refine WL.step (ok_idxAddrA Tryz.underlying30 (fun w => Tryz.sizeOf60 w) rfl rfl rfl (by omega) (by first | rfl | assumption)) rfl rfl rfl ?_)
    all_goals (refine WL.step (ok_fieldAddr rfl Tryz.underlying60 rfl (fun w => Tryz.sizeOf9 w)) rfl rfl rfl ?_)
    all_goals (refine WL.step (ok_load (fun w => Tryz.isAgg9 w) rfl (by first | exact (hc.ext hx1 nos).get 1 rfl rfl | assumption | exact cell_blk (by assumption) rfl)) rfl rfl rfl ?_)
    all_goals (refine WL.step (ok_assign rfl) rfl rfl rfl ?_)
    all_goals (refine WL.step (ok_assign rfl) rfl rfl rfl ?_)
    all_goals (refine WL.nil ?_)
    all_goals (repeat' (with_reducible first | refine thenP_n ?_ | refine blockP_n ?_))
    all_goals (refine WC.sub [(4, _), (5, _)] ⟨rfl, rfl, trivial⟩ ?_)
    all_goals (refine WC.ret ?_)
    all_goals (repeat' (with_reducible first | refine thenP_r ?_ | refine blockP_r ?_))
    all_goals (refine retP_2 _ _ ⟨rfl, rfl, trivial⟩ ?_)
    all_goals (exact ⟨rfl, hx1⟩)
theorem fld_one {l : List FieldD} : ∀ v ∈ l.flatMap FieldD.cells, v.oneCell' = true := fun v hv => by
  obtain ⟨p, _, hp⟩ := List.mem_flatMap.1 hv
  simp only [FieldD.cells, List.mem_cons, List.not_mem_nil, or_false] at hp
  rcases hp with rfl | rfl <;> rfl
set_option maxRecDepth 100000 in
theorem clone_fld {h : Heap} {A : Option Addr} {c : Nat} (F : List FieldD) (hr : Rd h (.slice A F.length c) 2 F.length (F.flatMap FieldD.cells)) (hm : F.length ≤ 1000000) :
    CallsH Tryz.prog 54 ⟨[.slice A F.length c]⟩ h fun u h' => Own h' u 60 2 F.length (F.flatMap FieldD.cells) ∧ Ext No h h' ∧ (∀ k, u.ownBlock = some k → h.size ≤ k) := by
  cases A with
  | none =>
    have h0 : F = [] := by
      cases F with
      | nil => rfl
      | cons a l => obtain ⟨b, o, e, _⟩ := Rd.at_ hr (by simp); cases e
    subst h0
    refine calls [(0, _)] Tryz.func54 rfl Tryz.ntmps54 rfl ⟨rfl, trivial⟩ ?_
    all_goals (refine WC.seq ?_)
    all_goals (refine WC.region ?_)
    all_goals (refine WL.step (ok_assign rfl) rfl rfl rfl ?_)
    all_goals (refine WL.nil ?_)
    all_goals (repeat' (with_reducible first | refine thenP_n ?_ | refine blockP_n ?_))
    all_goals (refine WC.seq ?_)
    all_goals (refine WC.seq ?_)
    all_goals (refine WC.region ?_)
    all_goals (refine WL.step (ok_move rfl) rfl rfl rfl ?_)
    all_goals (refine WL.step (ok_eqlSn Tryz.underlying30 rfl rfl) rfl rfl rfl ?_)
    all_goals (refine WL.nil ?_)
    all_goals (repeat' (with_reducible first | refine thenP_n ?_ | refine blockP_n ?_))
    all_goals (first | refine WC.condB_t 1 rfl ?_ | refine WC.condB_f 2 rfl ?_ | (refine WC.condB 1 2 rfl (fun hb => ?_) (fun hb => ?_) <;> (first | replace hb := of_decide_eq_true hb | replace hb := of_decide_eq_false hb | replace hb := of_decide_eq_false (nt hb) | replace hb := of_decide_eq_true (nf hb) | skip)))
    all_goals (first
      | (fail_if_success (refine Br.mk (i := 1) ?_))
      | (refine Br.mk (i := 1) ?_
         all_goals (refine WC.seq ?_)
         all_goals (refine WC.region ?_)
         all_goals (refine WL.step (ok_assign rfl) rfl rfl rfl ?_)
         all_goals (refine WL.nil ?_)
         all_goals (repeat' (with_reducible first | refine thenP_n ?_ | refine blockP_n ?_))
         all_goals (refine WC.ret ?_)
         all_goals (repeat' (with_reducible first | refine thenP_r ?_ | refine blockP_r ?_))
         all_goals (refine retP_1 _ ⟨rfl, trivial⟩ ?_)
         all_goals (exact ⟨Own.nil _ _ _, .refl _ _, by simp [Value.ownBlock]⟩)
         skip))
    all_goals (first
      | (fail_if_success (refine Br.mk (i := 2) ?_))
      | (refine Br.mk (i := 2) ?_
         all_goals (refine WC.skip ?_)
         skip))
    all_goals (repeat' (with_reducible first | refine thenP_n ?_ | refine blockP_n ?_))
    all_goals (refine WC.seq ?_)
    all_goals (refine WC.region ?_)
    all_goals (refine WL.stepR (okE_buildSlice (vs := []) (cs := []) (fun _ => []) Tryz.underlying30 rfl rfl (by kernel_rfl)) rfl rfl rfl ?_
               rintro _ h1 ⟨b1, rfl, hg1, hb1, hx1⟩)
    all_goals (refine WL.step (ok_move rfl) rfl rfl rfl ?_)
    all_goals (refine WL.stepR (ok_append (sz := 2) (bytes := 24) rfl Tryz.underlying30 (show Tryz.prog.info? 60 = some Tryz.t60 by kernel_rfl) rfl rfl rfl rfl (by decide) rfl rfl (by assumption) (by first | assumption | exact rd_blk (by assumption) rfl) (by simp [Value.oneCell']) (by simp only [maxLen]; omega) (by omega)) rfl rfl rfl ?_
               rintro v1 h1 ⟨ho1, hx1, hl1⟩)
    all_goals (refine WL.step (ok_assign rfl) rfl rfl rfl ?_)
    all_goals (refine WL.nil ?_)
    all_goals (repeat' (with_reducible first | refine thenP_n ?_ | refine blockP_n ?_))
    all_goals (refine WC.sub [(2, _)] ⟨rfl, trivial⟩ ?_)
    all_goals (refine WC.ret ?_)
    all_goals (repeat' (with_reducible first | refine thenP_r ?_ | refine blockP_r ?_))
    all_goals (refine retP_1 _ ⟨rfl, trivial⟩ ?_)
    all_goals (exact ⟨Own.nil _ _ _, .refl _ _, by simp [Value.ownBlock]⟩)
  | some a =>
    refine calls [(0, _)] Tryz.func54 rfl Tryz.ntmps54 rfl ⟨rfl, trivial⟩ ?_
    all_goals (refine WC.seq ?_)
    all_goals (refine WC.region ?_)
    all_goals (refine WL.step (ok_assign rfl) rfl rfl rfl ?_)
    all_goals (refine WL.nil ?_)
    all_goals (repeat' (with_reducible first | refine thenP_n ?_ | refine blockP_n ?_))
    all_goals (refine WC.seq ?_)
    all_goals (refine WC.seq ?_)
    all_goals (refine WC.region ?_)
    all_goals (refine WL.step (ok_move rfl) rfl rfl rfl ?_)
    all_goals (refine WL.step (ok_eqlSn Tryz.underlying30 rfl rfl) rfl rfl rfl ?_)
    all_goals (refine WL.nil ?_)
    all_goals (repeat' (with_reducible first | refine thenP_n ?_ | refine blockP_n ?_))
    all_goals (first | refine WC.condB_t 1 rfl ?_ | refine WC.condB_f 2 rfl ?_ | (refine WC.condB 1 2 rfl (fun hb => ?_) (fun hb => ?_) <;> (first | replace hb := of_decide_eq_true hb | replace hb := of_decide_eq_false hb | replace hb := of_decide_eq_false (nt hb) | replace hb := of_decide_eq_true (nf hb) | skip)))
    all_goals (first
      | (fail_if_success (refine Br.mk (i := 1) ?_))
      | (refine Br.mk (i := 1) ?_
         all_goals (refine WC.seq ?_)
         all_goals (refine WC.region ?_)
         all_goals (refine WL.step (ok_assign rfl) rfl rfl rfl ?_)
         all_goals (refine WL.nil ?_)
         all_goals (repeat' (with_reducible first | refine thenP_n ?_ | refine blockP_n ?_))
         all_goals (refine WC.ret ?_)
         all_goals (repeat' (with_reducible first | refine thenP_r ?_ | refine blockP_r ?_))
         all_goals (refine retP_1 _ ⟨rfl, trivial⟩ ?_)
         all_goals (exact ⟨by simpa using ho2, hx1.trans' hx2 (fun k hk e => by simp [Value.ownBlock] at e; omega), fresh_of hl2 (fun k hk => by simp [Value.ownBlock] at hk; omega) hx1.size⟩)
         skip))
    all_goals (first
      | (fail_if_success (refine Br.mk (i := 2) ?_))
      | (refine Br.mk (i := 2) ?_
         all_goals (refine WC.skip ?_)
         skip))
    all_goals (repeat' (with_reducible first | refine thenP_n ?_ | refine blockP_n ?_))
    all_goals (refine WC.seq ?_)
    all_goals (refine WC.region ?_)
    all_goals (refine WL.stepR (okE_buildSlice (vs := []) (cs := []) (fun _ => []) Tryz.underlying30 rfl rfl (by kernel_rfl)) rfl rfl rfl ?_
               rintro _ h1 ⟨b1, rfl, hg1, hb1, hx1⟩)
    all_goals (refine WL.step (ok_move rfl) rfl rfl rfl ?_)
    all_goals (have hr1 := hr.ext0 hx1)
    all_goals (refine WL.stepR (ok_append (sz := 2) (bytes := 24) rfl Tryz.underlying30 (show Tryz.prog.info? 60 = some Tryz.t60 by kernel_rfl) rfl rfl rfl rfl (by decide) rfl rfl (own_blk hb1 rfl (by simp [maxLen])) hr1 fld_one (by simp only [maxLen]; omega) (by omega)) rfl rfl rfl ?_
               rintro v2 h2 ⟨ho2, hx2, hl2⟩)
    all_goals (refine WL.step (ok_assign rfl) rfl rfl rfl ?_)
    all_goals (refine WL.nil ?_)
    all_goals (repeat' (with_reducible first | refine thenP_n ?_ | refine blockP_n ?_))
    all_goals (refine WC.sub [(2, _)] ⟨rfl, trivial⟩ ?_)
    all_goals (refine WC.ret ?_)
    all_goals (repeat' (with_reducible first | refine thenP_r ?_ | refine blockP_r ?_))
    all_goals (refine retP_1 _ ⟨rfl, trivial⟩ ?_)
    all_goals (exact ⟨by simpa using ho2, hx1.trans' hx2 (fun k hk e => by simp [Value.ownBlock] at e; omega), fresh_of hl2 (fun k hk => by simp [Value.ownBlock] at hk; omega) hx1.size⟩)
/-- The first field of a code has another text. -/
def withF (c : Int) (t : List UInt8) (F : List FieldD) : List FieldD := if idxP (atP c) F < 0 then F else F.set (idxP (atP c) F).toNat ⟨c, t⟩
theorem withF_len (c : Int) (t : List UInt8) (F : List FieldD) : (withF c t F).length = F.length := by unfold withF; split <;> simp
end Go.Proofs.YtkpgnhhidnkmcaaGreatDoor

