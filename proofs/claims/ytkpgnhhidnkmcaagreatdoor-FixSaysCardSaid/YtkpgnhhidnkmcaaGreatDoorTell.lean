/-
  TELL (layer 9): what is said of names, and the document's words.
-/
import Derived.Test.YtkpgnhhidnkmcaaGreatDoorStr
import Derived.Test.YtkpgnhhidnkmcaaGreatDoorDig
namespace Go.Proofs.YtkpgnhhidnkmcaaGreatDoor
open Go Go.RK

def quoteL (n : List UInt8) : List UInt8 := [34] ++ n ++ [34]
def saysL (t n w : List UInt8) : List UInt8 := t ++ [32] ++ quoteL n ++ [32] ++ w
def missL (n : List UInt8) : List UInt8 := if n = [] then ([117, 110, 110, 97, 109, 101, 100, 32, 112, 114, 101, 112, 97, 114, 101, 100, 32, 115, 116, 97, 116, 101, 109, 101, 110, 116, 32, 100, 111, 101, 115, 32, 110, 111, 116, 32, 101, 120, 105, 115, 116] : List UInt8) else saysL ([112, 114, 101, 112, 97, 114, 101, 100, 32, 115, 116, 97, 116, 101, 109, 101, 110, 116] : List UInt8) n ([100, 111, 101, 115, 32, 110, 111, 116, 32, 101, 120, 105, 115, 116] : List UInt8)
def exisL (n : List UInt8) : List UInt8 := saysL ([112, 114, 101, 112, 97, 114, 101, 100, 32, 115, 116, 97, 116, 101, 109, 101, 110, 116] : List UInt8) n ([97, 108, 114, 101, 97, 100, 121, 32, 101, 120, 105, 115, 116, 115] : List UInt8)
def needL (n : List UInt8) : List UInt8 := ([44, 32, 98, 117, 116, 32, 112, 114, 101, 112, 97, 114, 101, 100, 32, 115, 116, 97, 116, 101, 109, 101, 110, 116, 32] : List UInt8) ++ quoteL n ++ ([32, 114, 101, 113, 117, 105, 114, 101, 115, 32] : List UInt8)
def arityL (p : Int) (n : List UInt8) (w : Int) : List UInt8 := ([98, 105, 110, 100, 32, 109, 101, 115, 115, 97, 103, 101, 32, 115, 117, 112, 112, 108, 105, 101, 115, 32] : List UInt8) ++ deci p ++ ([32, 112, 97, 114, 97, 109, 101, 116, 101, 114, 115] : List UInt8) ++ needL n ++ deci w
theorem quote_len (n : List UInt8) : (quoteL n).length = n.length + 2 := by simp [quoteL]
theorem need_len (n : List UInt8) : (needL n).length = n.length + 37 := by simp [needL, quote_len]

set_option maxRecDepth 100000 in
theorem quote_any {h : Heap} (n : List UInt8) (hn : n.length ≤ 1000000) : CallsH Tryz.prog 69 ⟨[St n]⟩ h fun u h' => u = St (quoteL n) ∧ h' = h := by
  refine calls [(0, _)] Tryz.func69 rfl Tryz.ntmps69 rfl ⟨rfl, trivial⟩ ?_
  all_goals (refine WC.seq ?_)
  all_goals (refine WC.region ?_)
  all_goals (refine WL.step (ok_assign rfl) rfl rfl rfl ?_)
  all_goals (refine WL.nil ?_)
  all_goals (repeat' (with_reducible first | refine thenP_n ?_ | refine blockP_n ?_))
  all_goals (refine WC.seq ?_)
  all_goals (refine WC.region ?_)
  all_goals (refine WL.step (ok_move rfl) rfl rfl rfl ?_)
  all_goals (refine WL.step (ok_catS rfl rfl (by first | (simp only [List.length_append, List.length_cons, List.length_nil]; omega) | (simp; omega))) rfl rfl rfl ?_)
  all_goals (refine WL.step (ok_catS rfl rfl (by first | (simp only [List.length_append, List.length_cons, List.length_nil]; omega) | (simp; omega))) rfl rfl rfl ?_)
  all_goals (refine WL.step (ok_assign rfl) rfl rfl rfl ?_)
  all_goals (refine WL.nil ?_)
  all_goals (repeat' (with_reducible first | refine thenP_n ?_ | refine blockP_n ?_))
  all_goals (refine WC.sub [(2, _)] ⟨rfl, trivial⟩ ?_)
  all_goals (refine WC.ret ?_)
  all_goals (repeat' (with_reducible first | refine thenP_r ?_ | refine blockP_r ?_))
  all_goals (refine retP_1 _ ⟨rfl, trivial⟩ ?_)
  all_goals (exact ⟨rfl, rfl⟩)
set_option maxRecDepth 100000 in
theorem quote_ref {h : Heap} (n : List UInt8) (hn : n.length ≤ 1000000) : CallsH Tryz.prog 61 ⟨[St n]⟩ h fun u h' => u = St (quoteL n) ∧ Ext No h h' := by
  refine calls [(0, _)] Tryz.func61 rfl Tryz.ntmps61 rfl ⟨rfl, trivial⟩ ?_
  all_goals (refine WC.seq ?_)
  all_goals (refine WC.region ?_)
  all_goals (refine WL.step (ok_assign rfl) rfl rfl rfl ?_)
  all_goals (refine WL.nil ?_)
  all_goals (repeat' (with_reducible first | refine thenP_n ?_ | refine blockP_n ?_))
  all_goals (refine WC.seq ?_)
  all_goals (refine WC.region ?_)
  all_goals (refine WL.stepR (okE_buildSlice (vs := [_]) (cs := [_]) (fun | [a0] => [a0] | _ => []) Tryz.underlying24 rfl rfl (by kernel_rfl)) rfl rfl rfl ?_
             rintro _ h1 ⟨b1, rfl, hg1, hb1, hx1⟩)
  all_goals (refine WL.step (ok_convBS Tryz.underlying24 Tryz.underlying5 Tryz.underlying9 rfl (show Rd h1 (.slice (some ⟨b1, 0, none⟩) 1 1) 1 ([34] : List UInt8).length (bys [34]) from rd_blk hb1 rfl)) rfl rfl rfl ?_)
  all_goals (refine WL.step (ok_move rfl) rfl rfl rfl ?_)
  all_goals (refine WL.step (ok_catS rfl rfl (by first | (simp only [List.length_append, List.length_cons, List.length_nil]; omega) | (simp; omega))) rfl rfl rfl ?_)
  all_goals (refine WL.stepR (okE_buildSlice (vs := [_]) (cs := [_]) (fun | [a0] => [a0] | _ => []) Tryz.underlying24 rfl rfl (by kernel_rfl)) rfl rfl rfl ?_
             rintro _ h2 ⟨b2, rfl, hg2, hb2, hx2⟩)
  all_goals (refine WL.step (ok_convBS Tryz.underlying24 Tryz.underlying5 Tryz.underlying9 rfl (show Rd h2 (.slice (some ⟨b2, 0, none⟩) 1 1) 1 ([34] : List UInt8).length (bys [34]) from rd_blk hb2 rfl)) rfl rfl rfl ?_)
  all_goals (refine WL.step (ok_catS rfl rfl (by first | (simp only [List.length_append, List.length_cons, List.length_nil]; omega) | (simp; omega))) rfl rfl rfl ?_)
  all_goals (refine WL.step (ok_assign rfl) rfl rfl rfl ?_)
  all_goals (refine WL.nil ?_)
  all_goals (repeat' (with_reducible first | refine thenP_n ?_ | refine blockP_n ?_))
  all_goals (refine WC.sub [(2, _)] ⟨rfl, trivial⟩ ?_)
  all_goals (refine WC.ret ?_)
  all_goals (repeat' (with_reducible first | refine thenP_r ?_ | refine blockP_r ?_))
  all_goals (refine retP_1 _ ⟨rfl, trivial⟩ ?_)
  all_goals (exact ⟨rfl, hx1.trans hx2⟩)
set_option maxRecDepth 100000 in
theorem says_any {h : Heap} (t n w : List UInt8) (ht : t.length ≤ 100) (hn : n.length ≤ 100000) (hw : w.length ≤ 100) : CallsH Tryz.prog 45 ⟨[St t, St n, St w]⟩ h fun u h' => u = St (saysL t n w) ∧ Ext No h h' := by
  have hq := quote_len n
  refine calls [(0, _), (1, _), (2, _)] Tryz.func45 rfl Tryz.ntmps45 rfl ⟨rfl, rfl, rfl, trivial⟩ ?_
  all_goals (refine WC.seq ?_)
  all_goals (refine WC.region ?_)
  all_goals (refine WL.step (ok_assign rfl) rfl rfl rfl ?_)
  all_goals (refine WL.nil ?_)
  all_goals (repeat' (with_reducible first | refine thenP_n ?_ | refine blockP_n ?_))
  all_goals (refine WC.seq ?_)
  all_goals (refine WC.region ?_)
  all_goals (refine WL.step (ok_move rfl) rfl rfl rfl ?_)
  all_goals (refine WL.step (ok_move rfl) rfl rfl rfl ?_)
  all_goals (refine WL.call (vs := [_]) rfl (fun a w => Tryz.call69 a w) rfl (quote_any n (by omega)) rfl rfl rfl ?_
             rintro _ hz ⟨rfl, _⟩
             subst hz)
  all_goals (refine WL.step (ok_move rfl) rfl rfl rfl ?_)
  all_goals (refine WL.stepR (okE_buildSlice (vs := [_, _, _]) (cs := [_, _, _]) (fun | [a0, a1, a2] => [a0, a1, a2] | _ => []) Tryz.underlying96 rfl rfl (by kernel_rfl)) rfl rfl rfl ?_
             rintro _ h1 ⟨b1, rfl, hg1, hb1, hx1⟩)
  all_goals (refine WL.call (vs := [_, _]) rfl (fun a w => Tryz.call68 a w) rfl (join3 t (quoteL n) w hb1 (by omega)) rfl rfl rfl ?_
             rintro _ h2 ⟨rfl, hx2⟩)
  all_goals (refine WL.step (ok_assign rfl) rfl rfl rfl ?_)
  all_goals (refine WL.nil ?_)
  all_goals (repeat' (with_reducible first | refine thenP_n ?_ | refine blockP_n ?_))
  all_goals (refine WC.sub [(6, _)] ⟨rfl, trivial⟩ ?_)
  all_goals (refine WC.ret ?_)
  all_goals (repeat' (with_reducible first | refine thenP_r ?_ | refine blockP_r ?_))
  all_goals (refine retP_1 _ ⟨rfl, trivial⟩ ?_)
  all_goals (exact ⟨rfl, hx1.trans hx2⟩)
set_option maxRecDepth 100000 in
theorem missing_any {h : Heap} (n : List UInt8) (hn : n.length ≤ 100000) : CallsH Tryz.prog 18 ⟨[St n]⟩ h fun u h' => u = St (missL n) ∧ Ext No h h' := by
  by_cases h0 : n = []
  · subst h0
    refine calls [(0, _)] Tryz.func18 rfl Tryz.ntmps18 rfl ⟨rfl, trivial⟩ ?_
    all_goals (refine WC.seq ?_)
    all_goals (refine WC.region ?_)
    all_goals (refine WL.step (ok_assign rfl) rfl rfl rfl ?_)
    all_goals (refine WL.nil ?_)
    all_goals (repeat' (with_reducible first | refine thenP_n ?_ | refine blockP_n ?_))
    all_goals (refine WC.seq ?_)
    all_goals (refine WC.seq ?_)
    all_goals (refine WC.region ?_)
    all_goals (refine WL.step (ok_move rfl) rfl rfl rfl ?_)
    all_goals (first | (refine WL.step (OkP.bool_t (by first | rfl | assumption | decide) (ok_eqlS rfl rfl)) rfl rfl rfl ?_) | (refine WL.step (OkP.bool_f (by first | assumption | decide) (ok_eqlS rfl rfl)) rfl rfl rfl ?_) | (refine WL.step (ok_eqlS rfl rfl) rfl rfl rfl ?_))
    all_goals (refine WL.nil ?_)
    all_goals (repeat' (with_reducible first | refine thenP_n ?_ | refine blockP_n ?_))
    all_goals (first | refine WC.condB_t 1 rfl ?_ | refine WC.condB_f 2 rfl ?_ | (refine WC.condB 1 2 rfl (fun hb => ?_) (fun hb => ?_) <;> (first | replace hb := of_decide_eq_true hb | replace hb := of_decide_eq_false hb | replace hb := of_decide_eq_false (nt hb) | replace hb := of_decide_eq_true (nf hb) | skip)))
    all_goals (first
      | (fail_if_success (refine Br.mk (i := 1) ?_))
      | (refine Br.mk (i := 1) ?_
         all_goals (refine WC.seq ?_)
         all_goals (refine WC.region ?_)
         all_goals (refine WL.step (ok_assign rfl) rfl rfl rfl ?_)
         all_goals (refine WL.nil ?_)
         all_goals (repeat' (with_reducible first | refine thenP_n ?_ | refine blockP_n ?_))
         all_goals (refine WC.ret ?_)
         all_goals (repeat' (with_reducible first | refine thenP_r ?_ | refine blockP_r ?_))
         all_goals (refine retP_1 _ ⟨rfl, trivial⟩ ?_)
         all_goals (exact ⟨rfl, .refl _ _⟩)
         skip))
    all_goals (first
      | (fail_if_success (refine Br.mk (i := 2) ?_))
      | (refine Br.mk (i := 2) ?_
         all_goals (refine WC.skip ?_)
         skip))
    all_goals (repeat' (with_reducible first | refine thenP_n ?_ | refine blockP_n ?_))
    all_goals (refine WC.seq ?_)
    all_goals (refine WC.region ?_)
    all_goals (refine WL.step (ok_move rfl) rfl rfl rfl ?_)
    all_goals (fail "no contract for call of remuda/tell.says at 3.1")
    all_goals (refine WL.step (ok_assign rfl) rfl rfl rfl ?_)
    all_goals (refine WL.nil ?_)
    all_goals (repeat' (with_reducible first | refine thenP_n ?_ | refine blockP_n ?_))
    all_goals (refine WC.sub [(2, _)] ⟨rfl, trivial⟩ ?_)
    all_goals (refine WC.ret ?_)
    all_goals (repeat' (with_reducible first | refine thenP_r ?_ | refine blockP_r ?_))
    all_goals (refine retP_1 _ ⟨rfl, trivial⟩ ?_)
    all_goals (exact ⟨rfl, .refl _ _⟩)
  · rw [missL, if_neg h0]
    refine calls [(0, _)] Tryz.func18 rfl Tryz.ntmps18 rfl ⟨rfl, trivial⟩ ?_
    all_goals (refine WC.seq ?_)
    all_goals (refine WC.region ?_)
    all_goals (refine WL.step (ok_assign rfl) rfl rfl rfl ?_)
    all_goals (refine WL.nil ?_)
    all_goals (repeat' (with_reducible first | refine thenP_n ?_ | refine blockP_n ?_))
    all_goals (refine WC.seq ?_)
    all_goals (refine WC.seq ?_)
    all_goals (refine WC.region ?_)
    all_goals (refine WL.step (ok_move rfl) rfl rfl rfl ?_)
    all_goals (first | (refine WL.step (OkP.bool_t (by first | rfl | assumption | decide) (ok_eqlS rfl rfl)) rfl rfl rfl ?_) | (refine WL.step (OkP.bool_f (by first | assumption | decide) (ok_eqlS rfl rfl)) rfl rfl rfl ?_) | (refine WL.step (ok_eqlS rfl rfl) rfl rfl rfl ?_))
    all_goals (refine WL.nil ?_)
    all_goals (repeat' (with_reducible first | refine thenP_n ?_ | refine blockP_n ?_))
    all_goals (first | refine WC.condB_t 1 rfl ?_ | refine WC.condB_f 2 rfl ?_ | (refine WC.condB 1 2 rfl (fun hb => ?_) (fun hb => ?_) <;> (first | replace hb := of_decide_eq_true hb | replace hb := of_decide_eq_false hb | replace hb := of_decide_eq_false (nt hb) | replace hb := of_decide_eq_true (nf hb) | skip)))
    all_goals (first
      | (fail_if_success (refine Br.mk (i := 1) ?_))
      | (refine Br.mk (i := 1) ?_
         all_goals (refine WC.seq ?_)
         all_goals (refine WC.region ?_)
         all_goals (refine WL.step (ok_assign rfl) rfl rfl rfl ?_)
         all_goals (refine WL.nil ?_)
         all_goals (repeat' (with_reducible first | refine thenP_n ?_ | refine blockP_n ?_))
         all_goals (refine WC.ret ?_)
         all_goals (repeat' (with_reducible first | refine thenP_r ?_ | refine blockP_r ?_))
         all_goals (refine retP_1 _ ⟨rfl, trivial⟩ ?_)
         all_goals (exact ⟨rfl, hx2⟩)
         skip))
    all_goals (first
      | (fail_if_success (refine Br.mk (i := 2) ?_))
      | (refine Br.mk (i := 2) ?_
         all_goals (refine WC.skip ?_)
         skip))
    all_goals (repeat' (with_reducible first | refine thenP_n ?_ | refine blockP_n ?_))
    all_goals (refine WC.seq ?_)
    all_goals (refine WC.region ?_)
    all_goals (refine WL.step (ok_move rfl) rfl rfl rfl ?_)
    all_goals (refine WL.call (vs := [_, _, _]) rfl (fun a w => Tryz.call45 a w) rfl (says_any ([112, 114, 101, 112, 97, 114, 101, 100, 32, 115, 116, 97, 116, 101, 109, 101, 110, 116] : List UInt8) n ([100, 111, 101, 115, 32, 110, 111, 116, 32, 101, 120, 105, 115, 116] : List UInt8) (by simp) hn (by simp)) rfl rfl rfl ?_
               rintro _ h2 ⟨rfl, hx2⟩)
    all_goals (refine WL.step (ok_assign rfl) rfl rfl rfl ?_)
    all_goals (refine WL.nil ?_)
    all_goals (repeat' (with_reducible first | refine thenP_n ?_ | refine blockP_n ?_))
    all_goals (refine WC.sub [(2, _)] ⟨rfl, trivial⟩ ?_)
    all_goals (refine WC.ret ?_)
    all_goals (repeat' (with_reducible first | refine thenP_r ?_ | refine blockP_r ?_))
    all_goals (refine retP_1 _ ⟨rfl, trivial⟩ ?_)
    all_goals (exact ⟨rfl, hx2⟩)
set_option maxRecDepth 100000 in
theorem exists_any {h : Heap} (n : List UInt8) (hn : n.length ≤ 100000) : CallsH Tryz.prog 19 ⟨[St n]⟩ h fun u h' => u = St (exisL n) ∧ Ext No h h' := by
  refine calls [(0, _)] Tryz.func19 rfl Tryz.ntmps19 rfl ⟨rfl, trivial⟩ ?_
  all_goals (refine WC.seq ?_)
  all_goals (refine WC.region ?_)
  all_goals (refine WL.step (ok_assign rfl) rfl rfl rfl ?_)
  all_goals (refine WL.nil ?_)
  all_goals (repeat' (with_reducible first | refine thenP_n ?_ | refine blockP_n ?_))
  all_goals (refine WC.seq ?_)
  all_goals (refine WC.region ?_)
  all_goals (refine WL.step (ok_move rfl) rfl rfl rfl ?_)
  all_goals (refine WL.call (vs := [_, _, _]) rfl (fun a w => Tryz.call45 a w) rfl (says_any ([112, 114, 101, 112, 97, 114, 101, 100, 32, 115, 116, 97, 116, 101, 109, 101, 110, 116] : List UInt8) n ([97, 108, 114, 101, 97, 100, 121, 32, 101, 120, 105, 115, 116, 115] : List UInt8) (by simp) hn (by simp)) rfl rfl rfl ?_
             rintro _ h2 ⟨rfl, hx2⟩)
  all_goals (refine WL.step (ok_assign rfl) rfl rfl rfl ?_)
  all_goals (refine WL.nil ?_)
  all_goals (repeat' (with_reducible first | refine thenP_n ?_ | refine blockP_n ?_))
  all_goals (refine WC.ret ?_)
  all_goals (repeat' (with_reducible first | refine thenP_r ?_ | refine blockP_r ?_))
  all_goals (refine retP_1 _ ⟨rfl, trivial⟩ ?_)
  all_goals (exact ⟨rfl, hx2⟩)
set_option maxRecDepth 100000 in
theorem needs_any {h : Heap} (n : List UInt8) (hn : n.length ≤ 100000) : CallsH Tryz.prog 47 ⟨[St n]⟩ h fun u h' => u = St (needL n) ∧ h' = h := by
  have hq := quote_len n
  refine calls [(0, _)] Tryz.func47 rfl Tryz.ntmps47 rfl ⟨rfl, trivial⟩ ?_
  all_goals (refine WC.seq ?_)
  all_goals (refine WC.region ?_)
  all_goals (refine WL.step (ok_assign rfl) rfl rfl rfl ?_)
  all_goals (refine WL.nil ?_)
  all_goals (repeat' (with_reducible first | refine thenP_n ?_ | refine blockP_n ?_))
  all_goals (refine WC.seq ?_)
  all_goals (refine WC.region ?_)
  all_goals (refine WL.step (ok_move rfl) rfl rfl rfl ?_)
  all_goals (refine WL.call (vs := [_]) rfl (fun a w => Tryz.call69 a w) rfl (quote_any n (by omega)) rfl rfl rfl ?_
             rintro _ hz ⟨rfl, _⟩
             subst hz)
  all_goals (refine WL.step (ok_catS rfl rfl (by first | (simp only [List.length_append, List.length_cons, List.length_nil]; omega) | (simp; omega))) rfl rfl rfl ?_)
  all_goals (refine WL.step (ok_catS rfl rfl (by first | (simp only [List.length_append, List.length_cons, List.length_nil]; omega) | (simp; omega))) rfl rfl rfl ?_)
  all_goals (refine WL.step (ok_assign rfl) rfl rfl rfl ?_)
  all_goals (refine WL.nil ?_)
  all_goals (repeat' (with_reducible first | refine thenP_n ?_ | refine blockP_n ?_))
  all_goals (refine WC.sub [(2, _)] ⟨rfl, trivial⟩ ?_)
  all_goals (refine WC.ret ?_)
  all_goals (repeat' (with_reducible first | refine thenP_r ?_ | refine blockP_r ?_))
  all_goals (refine retP_1 _ ⟨rfl, trivial⟩ ?_)
  all_goals (exact ⟨rfl, rfl⟩)
set_option maxRecDepth 100000 in
theorem arity_any {h : Heap} (p : Int) (n : List UInt8) (w : Int) (hn : n.length ≤ 100000) (hp : -9223372036854775808 ≤ p ∧ p ≤ 9223372036854775807) (hw : -9223372036854775808 ≤ w ∧ w ≤ 9223372036854775807) :
    CallsH Tryz.prog 20 ⟨[In p, St n, In w]⟩ h fun u h' => u = St (arityL p n w) ∧ Ext No h h' := by
  have hq := need_len n
  have hlp := deci_len p (by omega)
  have hlw := deci_len w (by omega)
  refine calls [(0, _), (1, _), (2, _)] Tryz.func20 rfl Tryz.ntmps20 rfl ⟨rfl, rfl, rfl, trivial⟩ ?_
  all_goals (refine WC.seq ?_)
  all_goals (refine WC.region ?_)
  all_goals (refine WL.step (ok_assign rfl) rfl rfl rfl ?_)
  all_goals (refine WL.nil ?_)
  all_goals (repeat' (with_reducible first | refine thenP_n ?_ | refine blockP_n ?_))
  all_goals (refine WC.seq ?_)
  all_goals (refine WC.region ?_)
  all_goals (refine WL.step (ok_move rfl) rfl rfl rfl ?_)
  all_goals (refine WL.call (vs := [_]) rfl (fun a w => Tryz.call46 a w) rfl (text_any p hp.1 hp.2) rfl rfl rfl ?_
             rintro _ h1 ⟨rfl, hx1⟩)
  all_goals (refine WL.step (ok_catS rfl rfl (by first | (simp only [List.length_append, List.length_cons, List.length_nil]; omega) | (simp; omega))) rfl rfl rfl ?_)
  all_goals (refine WL.step (ok_catS rfl rfl (by first | (simp only [List.length_append, List.length_cons, List.length_nil]; omega) | (simp; omega))) rfl rfl rfl ?_)
  all_goals (refine WL.step (ok_move rfl) rfl rfl rfl ?_)
  all_goals (refine WL.call (vs := [_]) rfl (fun a w => Tryz.call47 a w) rfl (needs_any n hn) rfl rfl rfl ?_
             rintro _ hz ⟨rfl, _⟩
             subst hz)
  all_goals (refine WL.step (ok_catS rfl rfl (by first | (simp only [List.length_append, List.length_cons, List.length_nil]; omega) | (simp; omega))) rfl rfl rfl ?_)
  all_goals (refine WL.step (ok_move rfl) rfl rfl rfl ?_)
  all_goals (refine WL.call (vs := [_]) rfl (fun a w => Tryz.call46 a w) rfl (text_any w hw.1 hw.2) rfl rfl rfl ?_
             rintro _ h2 ⟨rfl, hx2⟩)
  all_goals (refine WL.step (ok_catS rfl rfl (by first | (simp only [List.length_append, List.length_cons, List.length_nil]; omega) | (simp; omega))) rfl rfl rfl ?_)
  all_goals (refine WL.step (ok_assign rfl) rfl rfl rfl ?_)
  all_goals (refine WL.nil ?_)
  all_goals (repeat' (with_reducible first | refine thenP_n ?_ | refine blockP_n ?_))
  all_goals (refine WC.sub [(6, _)] ⟨rfl, trivial⟩ ?_)
  all_goals (refine WC.ret ?_)
  all_goals (repeat' (with_reducible first | refine thenP_r ?_ | refine blockP_r ?_))
  all_goals (refine retP_1 _ ⟨rfl, trivial⟩ ?_)
  all_goals (exact ⟨rfl, hx1.trans hx2⟩)

set_option maxRecDepth 100000 in
/-! ### the document's -/
theorem missing_ref {h : Heap} (n : List UInt8) (hn : n.length ≤ 100000) : CallsH Tryz.prog 59 ⟨[St n]⟩ h fun u h' => u = St (missL n) ∧ Ext No h h' := by
  have hq := quote_len n
  by_cases h0 : n = []
  · subst h0
    refine calls [(0, _)] Tryz.func59 rfl Tryz.ntmps59 rfl ⟨rfl, trivial⟩ ?_
    all_goals (refine WC.seq ?_)
    all_goals (refine WC.region ?_)
    all_goals (refine WL.step (ok_assign rfl) rfl rfl rfl ?_)
    all_goals (refine WL.nil ?_)
    all_goals (repeat' (with_reducible first | refine thenP_n ?_ | refine blockP_n ?_))
    all_goals (refine WC.seq ?_)
    all_goals (refine WC.seq ?_)
    all_goals (refine WC.region ?_)
    all_goals (refine WL.step (ok_move rfl) rfl rfl rfl ?_)
    all_goals (first | (refine WL.step (OkP.bool_t (by first | rfl | assumption | decide) (ok_eqlS rfl rfl)) rfl rfl rfl ?_) | (refine WL.step (OkP.bool_f (by first | assumption | decide) (ok_eqlS rfl rfl)) rfl rfl rfl ?_) | (refine WL.step (ok_eqlS rfl rfl) rfl rfl rfl ?_))
    all_goals (refine WL.nil ?_)
    all_goals (repeat' (with_reducible first | refine thenP_n ?_ | refine blockP_n ?_))
    all_goals (first | refine WC.condB_t 1 rfl ?_ | refine WC.condB_f 2 rfl ?_ | (refine WC.condB 1 2 rfl (fun hb => ?_) (fun hb => ?_) <;> (first | replace hb := of_decide_eq_true hb | replace hb := of_decide_eq_false hb | replace hb := of_decide_eq_false (nt hb) | replace hb := of_decide_eq_true (nf hb) | skip)))
    all_goals (first
      | (fail_if_success (refine Br.mk (i := 1) ?_))
      | (refine Br.mk (i := 1) ?_
         all_goals (refine WC.seq ?_)
         all_goals (refine WC.region ?_)
         all_goals (refine WL.step (ok_assign rfl) rfl rfl rfl ?_)
         all_goals (refine WL.nil ?_)
         all_goals (repeat' (with_reducible first | refine thenP_n ?_ | refine blockP_n ?_))
         all_goals (refine WC.ret ?_)
         all_goals (repeat' (with_reducible first | refine thenP_r ?_ | refine blockP_r ?_))
         all_goals (refine retP_1 _ ⟨rfl, trivial⟩ ?_)
         all_goals (exact ⟨rfl, .refl _ _⟩)
         skip))
    all_goals (first
      | (fail_if_success (refine Br.mk (i := 2) ?_))
      | (refine Br.mk (i := 2) ?_
         all_goals (refine WC.skip ?_)
         skip))
    all_goals (repeat' (with_reducible first | refine thenP_n ?_ | refine blockP_n ?_))
    all_goals (refine WC.seq ?_)
    all_goals (refine WC.region ?_)
    all_goals (refine WL.step (ok_move rfl) rfl rfl rfl ?_)
    all_goals (fail "no contract for call of remuda/remudaref02.Quote at 3.1")
    all_goals (refine WL.step (ok_catS rfl rfl (by first | (simp only [List.length_append, List.length_cons, List.length_nil]; omega) | (simp; omega))) rfl rfl rfl ?_)
    all_goals (refine WL.step (ok_catS rfl rfl (by first | (simp only [List.length_append, List.length_cons, List.length_nil]; omega) | (simp; omega))) rfl rfl rfl ?_)
    all_goals (refine WL.step (ok_assign rfl) rfl rfl rfl ?_)
    all_goals (refine WL.nil ?_)
    all_goals (repeat' (with_reducible first | refine thenP_n ?_ | refine blockP_n ?_))
    all_goals (refine WC.sub [(2, _)] ⟨rfl, trivial⟩ ?_)
    all_goals (refine WC.ret ?_)
    all_goals (repeat' (with_reducible first | refine thenP_r ?_ | refine blockP_r ?_))
    all_goals (refine retP_1 _ ⟨rfl, trivial⟩ ?_)
    all_goals (exact ⟨rfl, .refl _ _⟩)
  · rw [missL, if_neg h0]
    refine calls [(0, _)] Tryz.func59 rfl Tryz.ntmps59 rfl ⟨rfl, trivial⟩ ?_
    all_goals (refine WC.seq ?_)
    all_goals (refine WC.region ?_)
    all_goals (refine WL.step (ok_assign rfl) rfl rfl rfl ?_)
    all_goals (refine WL.nil ?_)
    all_goals (repeat' (with_reducible first | refine thenP_n ?_ | refine blockP_n ?_))
    all_goals (refine WC.seq ?_)
    all_goals (refine WC.seq ?_)
    all_goals (refine WC.region ?_)
    all_goals (refine WL.step (ok_move rfl) rfl rfl rfl ?_)
    all_goals (first | (refine WL.step (OkP.bool_t (by first | rfl | assumption | decide) (ok_eqlS rfl rfl)) rfl rfl rfl ?_) | (refine WL.step (OkP.bool_f (by first | assumption | decide) (ok_eqlS rfl rfl)) rfl rfl rfl ?_) | (refine WL.step (ok_eqlS rfl rfl) rfl rfl rfl ?_))
    all_goals (refine WL.nil ?_)
    all_goals (repeat' (with_reducible first | refine thenP_n ?_ | refine blockP_n ?_))
    all_goals (first | refine WC.condB_t 1 rfl ?_ | refine WC.condB_f 2 rfl ?_ | (refine WC.condB 1 2 rfl (fun hb => ?_) (fun hb => ?_) <;> (first | replace hb := of_decide_eq_true hb | replace hb := of_decide_eq_false hb | replace hb := of_decide_eq_false (nt hb) | replace hb := of_decide_eq_true (nf hb) | skip)))
    all_goals (first
      | (fail_if_success (refine Br.mk (i := 1) ?_))
      | (refine Br.mk (i := 1) ?_
         all_goals (refine WC.seq ?_)
         all_goals (refine WC.region ?_)
         all_goals (refine WL.step (ok_assign rfl) rfl rfl rfl ?_)
         all_goals (refine WL.nil ?_)
         all_goals (repeat' (with_reducible first | refine thenP_n ?_ | refine blockP_n ?_))
         all_goals (refine WC.ret ?_)
         all_goals (repeat' (with_reducible first | refine thenP_r ?_ | refine blockP_r ?_))
         all_goals (refine retP_1 _ ⟨rfl, trivial⟩ ?_)
         all_goals (exact ⟨by simp [saysL], hx2⟩)
         skip))
    all_goals (first
      | (fail_if_success (refine Br.mk (i := 2) ?_))
      | (refine Br.mk (i := 2) ?_
         all_goals (refine WC.skip ?_)
         skip))
    all_goals (repeat' (with_reducible first | refine thenP_n ?_ | refine blockP_n ?_))
    all_goals (refine WC.seq ?_)
    all_goals (refine WC.region ?_)
    all_goals (refine WL.step (ok_move rfl) rfl rfl rfl ?_)
    all_goals (refine WL.call (vs := [_]) rfl (fun a w => Tryz.call61 a w) rfl (quote_ref n (by omega)) rfl rfl rfl ?_
               rintro _ h2 ⟨rfl, hx2⟩)
    all_goals (refine WL.step (ok_catS rfl rfl (by first | (simp only [List.length_append, List.length_cons, List.length_nil]; omega) | (simp; omega))) rfl rfl rfl ?_)
    all_goals (refine WL.step (ok_catS rfl rfl (by first | (simp only [List.length_append, List.length_cons, List.length_nil]; omega) | (simp; omega))) rfl rfl rfl ?_)
    all_goals (refine WL.step (ok_assign rfl) rfl rfl rfl ?_)
    all_goals (refine WL.nil ?_)
    all_goals (repeat' (with_reducible first | refine thenP_n ?_ | refine blockP_n ?_))
    all_goals (refine WC.sub [(2, _)] ⟨rfl, trivial⟩ ?_)
    all_goals (refine WC.ret ?_)
    all_goals (repeat' (with_reducible first | refine thenP_r ?_ | refine blockP_r ?_))
    all_goals (refine retP_1 _ ⟨rfl, trivial⟩ ?_)
    all_goals (exact ⟨by simp [saysL], hx2⟩)
set_option maxRecDepth 100000 in
theorem exists_ref {h : Heap} (n : List UInt8) (hn : n.length ≤ 100000) : CallsH Tryz.prog 60 ⟨[St n]⟩ h fun u h' => u = St (exisL n) ∧ Ext No h h' := by
  have hq := quote_len n
  refine calls [(0, _)] Tryz.func60 rfl Tryz.ntmps60 rfl ⟨rfl, trivial⟩ ?_
  all_goals (refine WC.seq ?_)
  all_goals (refine WC.region ?_)
  all_goals (refine WL.step (ok_assign rfl) rfl rfl rfl ?_)
  all_goals (refine WL.nil ?_)
  all_goals (repeat' (with_reducible first | refine thenP_n ?_ | refine blockP_n ?_))
  all_goals (refine WC.seq ?_)
  all_goals (refine WC.region ?_)
  all_goals (refine WL.step (ok_move rfl) rfl rfl rfl ?_)
  all_goals (refine WL.call (vs := [_]) rfl (fun a w => Tryz.call61 a w) rfl (quote_ref n (by omega)) rfl rfl rfl ?_
             rintro _ h2 ⟨rfl, hx2⟩)
  all_goals (refine WL.step (ok_catS rfl rfl (by first | (simp only [List.length_append, List.length_cons, List.length_nil]; omega) | (simp; omega))) rfl rfl rfl ?_)
  all_goals (refine WL.step (ok_catS rfl rfl (by first | (simp only [List.length_append, List.length_cons, List.length_nil]; omega) | (simp; omega))) rfl rfl rfl ?_)
  all_goals (refine WL.step (ok_assign rfl) rfl rfl rfl ?_)
  all_goals (refine WL.nil ?_)
  all_goals (repeat' (with_reducible first | refine thenP_n ?_ | refine blockP_n ?_))
  all_goals (refine WC.sub [(2, _)] ⟨rfl, trivial⟩ ?_)
  all_goals (refine WC.ret ?_)
  all_goals (repeat' (with_reducible first | refine thenP_r ?_ | refine blockP_r ?_))
  all_goals (refine retP_1 _ ⟨rfl, trivial⟩ ?_)
  all_goals (exact ⟨by simp [exisL, saysL], hx2⟩)
end Go.Proofs.YtkpgnhhidnkmcaaGreatDoor

