/-
  SEVERAL TEXTS IN ONE: Dx4, Sx3, Sx4, Dx5, Mpk, Dx6, Dx7, Sx5, StrJ, Dig, Tell, Cols, K25, FltE, Dx8, Dx10, Dx11.
-/
import Derived.Test.YtbokngiajfdanaaGreatDoorPSessSays3
import Derived.Below
/-
  STATEMENTS' TEXTS (layer 26), by the code: Parse; a transaction's status (layer 29).
-/
namespace Go.Proofs.YtbokngiajfdanaaGreatDoor
open Go Go.RK

theorem parseD_v {h : Heap} (s : List UInt8) (most : Int) : CallsH Tryz.prog 186 ⟨[St s, In most]⟩ h fun u h' => u = resD (parseD s most) ∧ h' = h := by
  unfold parseD
  by_cases h1 : s = [] ∨ 10 < s.length
  · rw [if_pos h1]
    exact parse_long s most h1
  · rw [if_neg h1]
    have h1' : s ≠ [] ∧ s.length ≤ 10 := ⟨fun e => h1 (.inl e), by omega⟩
    by_cases h2 : s[0]? = some 48 ∧ 1 < s.length
    · rw [if_pos h2]
      exact parse_zero s most h1' h2
    · rw [if_neg h2]
      exact parse_num s most h1' h2
def bigB (y : UInt8) : Bool := decide (65 ≤ y.toNat) && decide (y.toNat ≤ 90)
def codeB (s : List UInt8) : Bool := decide (s.length = 5) && s.all fun y => digB y || bigB y
set_option maxHeartbeats 2000000 in
set_option maxRecDepth 100000 in
theorem code_v {h : Heap} (s : List UInt8) : CallsH Tryz.prog 187 ⟨[St s]⟩ h fun u h' => u = .bool (codeB s) ∧ Ext No h h' := by
  unfold codeB
  by_cases hl : s.length = 5
  · rw [decide_eq_true hl, Bool.true_and]
    refine calls [(0, _)] Tryz.func187 rfl Tryz.ntmps187 rfl ⟨rfl, trivial⟩ ?_
    all_goals (refine WC.sr ?_; refine Go ?_; refine WC.seq ?_; refine WC.sr ?_; refine Go ?_; refine goC 1 2 ?_ TT.mk; refine goB 2 ?_; refine WC.skip ?_; refine Gn ?_; refine Gs [(0, _)] ?_; refine WC.seq ?_; refine WC.sr ?_; refine Go ?_; refine WL.stepR (okE_convSB Tryz.underlying9 Tryz.underlying85 Tryz.underlying5 rfl) rfl rfl rfl ?_; rintro _ h1 ⟨b1, c1, rfl, hg1, hr1, hx1⟩; refine Go ?_; refine WC.block ?_)
    -- loop 0: slots that turn [13], that stay [11, 12]
    all_goals (refine WC.loopG (X := Nat) (fun x => ([(13, In (x : Int))] : Fr)) [(11, _), (12, _)] (fun x h' => h' = h1 ∧ x ≤ s.length ∧ (s.take x).all (fun y => digB y || bigB y) = true) (fun x => s.length - x) (0) ⟨rfl, rfl, rfl, trivial⟩ (by exact ⟨rfl, Nat.zero_le _, rfl⟩) ?_; rintro j hh ⟨hz, hj, ha⟩; subst hz; refine WC.sub [(13, _), (11, _), (12, _)] ⟨rfl, rfl, rfl, trivial⟩ ?_; refine WC.sr ?_; refine Go ?_; refine WC.seq ?_; refine goC 3 4 (Hb.mk fun hb => ?_) (Hb.mk fun hb => ?_))
    all_goals (first | (fail_if_success refine goB 3 ?_) | (
    refine goB 3 ?_
    all_goals (refine WC.skip ?_)
    skip))
    all_goals (first | (fail_if_success refine goB 4 ?_) | (
    refine goB 4 ?_
    all_goals (refine WC.exit ?_; repeat' (with_reducible first | refine thenP_x ?_ | refine blockP_miss rfl ?_ | refine blockP_hit ?_ | refine blockP_n ?_ | refine thenP_n ?_))
    all_goals (refine Br.out (i := 1000) ?_)
    skip))
    all_goals (refine Gn ?_; first | (refine Br.keep ?_) | (refine WC.seq ?_))
    all_goals (first | (refine Br.keep ?_) | (refine WC.block ?_))
    all_goals (first | (refine Br.keep ?_) | (refine WC.sr ?_))
    all_goals (first
                 | (refine Br.keep ?_)
                 | (obtain ⟨y, hy⟩ : ∃ y, s[j]? = some y := ⟨_, List.getElem?_eq_getElem (by omega)⟩
                    obtain ⟨bL, oL, hA, hbL, hat⟩ := Rd.at_ hr1 (by omega)
                    simp only [Option.some.injEq, Addr.mk.injEq] at hA
                    obtain ⟨rfl, rfl, _⟩ := hA
                    have hc1 := hat.get (p := 0 + j * 1) j (show (bys s)[j]? = some (By y) by simp [bys, hy]) (by omega)
                    have hyl := y.toNat_lt
                    rcases (show (digB y || bigB y) = true ∧ 48 ≤ (y.toNat : Int) ∧ (y.toNat : Int) ≤ 57 ∨ (digB y || bigB y) = true ∧ 65 ≤ (y.toNat : Int) ∧ (y.toNat : Int) ≤ 90 ∨ (digB y || bigB y) = false ∧ (y.toNat : Int) < 48 ∨ (digB y || bigB y) = false ∧ 57 < (y.toNat : Int) ∧ (y.toNat : Int) < 65 ∨ (digB y || bigB y) = false ∧ 90 < (y.toNat : Int) by
                       by_cases e1 : 48 ≤ y.toNat <;> by_cases e2 : y.toNat ≤ 57 <;> by_cases e3 : 65 ≤ y.toNat <;> by_cases e4 : y.toNat ≤ 90 <;> first | omega | exact .inl ⟨by simp [digB, bigB, e1, e2], by omega, by omega⟩ | exact .inr (.inl ⟨by simp [digB, bigB, e3, e4], by omega, by omega⟩) | exact .inr (.inr (.inl ⟨by simp [digB, bigB, e1, e3], by omega⟩)) | exact .inr (.inr (.inr (.inl ⟨by simp [digB, bigB, e2, e3], by omega, by omega⟩))) | exact .inr (.inr (.inr (.inr ⟨by simp [digB, bigB, e2, e4], by omega⟩)))) with ⟨hd, i1, i2⟩ | ⟨hd, i1, i2⟩ | ⟨hd, i1⟩ | ⟨hd, i1, i2⟩ | ⟨hd, i1⟩))
    all_goals (first | (refine Br.keep ?_) | (refine WL.step (ok_idxAddrA Tryz.underlying85 (fun w => Tryz.sizeOf5 w) rfl rfl rfl (by omega) (by first | rfl | assumption)) rfl rfl rfl ?_))
    all_goals (first | (refine Br.keep ?_) | (refine WL.ld rfl (by first | exact hc1 | assumption | exact cell_blk (by assumption) rfl) rfl rfl rfl ?_))
    all_goals (refine Go ?_; first | (refine Br.keep ?_) | (refine WC.sr ?_))
    all_goals (refine Go ?_; first | (refine Br.keep ?_) | (refine goP 19 ?_ TT.mk))
    all_goals (refine Gg ?_; refine Go ?_; first | (refine Br.keep ?_) | (refine goP 25 ?_ TT.mk))
    all_goals (refine Gg ?_; refine Go ?_; first | (refine Br.keep ?_) | (refine Gs [(5, _), (6, _), (11, _), (12, _), (13, _)] ?_))
    all_goals (first | (refine Br.keep ?_) | (refine WC.sr ?_))
    all_goals (refine Go ?_; first | (refine Br.keep ?_) | (refine goP 31 ?_ TT.mk))
    all_goals (refine Gg ?_; refine Go ?_; first | (refine Br.keep ?_) | (refine Gs [(11, _), (12, _), (13, _), (34, _)] ?_))
    all_goals (first | (refine Br.keep ?_) | (refine goC 5 6 ?_ TT.mk))
    all_goals (first | (fail_if_success refine goB 5 ?_) | (
    refine goB 5 ?_
    all_goals (refine WC.sr ?_; refine Go ?_; refine Gs [(2, _)] ?_; refine Gt ?_)
    all_goals (first
                | (refine ⟨congrArg Value.bool ?_, hx1⟩; rw [List.take_of_length_le (by omega)] at ha; exact ha.symm)
                | (refine ⟨congrArg Value.bool ?_, hx1⟩; exact (List.all_eq_false.2 ⟨y, List.mem_of_getElem? hy, by rw [hd]; decide⟩).symm))
    skip))
    all_goals (first | (fail_if_success refine goB 6 ?_) | (
    refine goB 6 ?_
    all_goals (refine WC.skip ?_)
    skip))
    all_goals (refine Gn ?_; first | (refine Br.keep ?_) | (refine WC.region ?_))
    all_goals (refine Go ?_; first | (refine Br.keep ?_) | (exact ⟨j + 1, ⟨rfl, rfl, rfl, trivial⟩, (by exact ⟨rfl, by omega, by rw [List.take_add_one, hy]; simp only [Option.toList_some, List.all_append, ha, List.all_cons, hd, List.all_nil, Bool.and_self]⟩), (by omega)⟩))
    all_goals (try (refine Br.mk (i := 1000) ?_))
    all_goals (refine Gn ?_; refine Gs [] ?_; refine WC.sr ?_; refine Go ?_; refine Gt ?_)
    all_goals (first
                | (refine ⟨congrArg Value.bool ?_, hx1⟩; rw [List.take_of_length_le (by omega)] at ha; exact ha.symm)
                | (refine ⟨congrArg Value.bool ?_, hx1⟩; exact (List.all_eq_false.2 ⟨y, List.mem_of_getElem? hy, by rw [hd]; decide⟩).symm))
  · rw [decide_eq_false hl, Bool.false_and]
    have hl' : (s.length : Int) ≠ 5 := by omega
    refine calls [(0, _)] Tryz.func187 rfl Tryz.ntmps187 rfl ⟨rfl, trivial⟩ ?_
    all_goals (refine WC.sr ?_; refine Go ?_; refine WC.seq ?_; refine WC.sr ?_; refine Go ?_; refine goC 1 2 ?_ TT.mk; refine goB 1 ?_; refine WC.sr ?_; refine Go ?_; refine Gs [(2, _)] ?_; refine Gt ?_; exact ⟨rfl, .refl _ _⟩)
    -- loop 0: slots that turn [13], that stay [11, 12]
structure VeD where
  k : Int
  n : Int
  c : List UInt8
def VeD.cells (v : VeD) : List Value := veC v.k v.n v.c
def pairP (a b : List UInt8) : VeD := if a = ([115, 101, 108, 101, 99, 116] : List UInt8) then (match parseD b 99 with | some n => ⟨5, n, []⟩ | none => ⟨0, 0, []⟩) else if a = ([102, 97, 105, 108] : List UInt8) then (if codeB b = true then ⟨8, 0, b⟩ else ⟨0, 0, []⟩) else ⟨0, 0, []⟩
def verbP (t : List UInt8) : VeD := match wordP (trimP t) with
  | some k => ⟨k, 0, []⟩
  | none => if (cutP (trimP t)).2.2 = true then pairP (cutP (trimP t)).1 (cutP (trimP t)).2.1 else ⟨0, 0, []⟩
set_option maxHeartbeats 2000000 in
set_option maxRecDepth 100000 in
theorem pair_v {h : Heap} (a b : List UInt8) : CallsH Tryz.prog 140 ⟨[St a, St b]⟩ h fun u h' => u = .agg ⟨(pairP a b).cells⟩ ∧ Ext No h h' := by
  have kp := fun h' => parseD_v (h := h') b 99
  have kc := fun h' => code_v (h := h') b
  unfold pairP VeD.cells veC
  by_cases h1 : a = ([115, 101, 108, 101, 99, 116] : List UInt8)
  · subst h1
    rw [if_pos rfl]
    cases hp : parseD b 99
    all_goals
      rw [hp] at kp
      unfold resD at kp
      refine calls [(0, _), (1, _)] Tryz.func140 rfl Tryz.ntmps140 rfl ⟨rfl, rfl, trivial⟩ ?_
      all_goals (refine WC.sr ?_; refine WL.stepR (okE_alloc (fun w => Tryz.zeroValue152 w)) rfl rfl rfl ?_; rintro _ h1 ⟨b1, rfl, hg1, hb1, hx1⟩; refine Gn ?_; refine WC.seq ?_; refine WC.sr ?_; refine Go ?_; refine WC.block ?_; refine WC.sr ?_; refine Go ?_; refine goC 1 2 ?_ TT.mk; refine goB 1 ?_; refine WC.sr ?_; refine Go ?_; refine WL.call (vs := [_, _]) rfl (fun a w => Tryz.call186 a w) rfl (kp _) rfl rfl rfl ?_; rintro _ hq ⟨rfl, hz1⟩; subst hz1; refine Go ?_; refine Gs [(4, _), (5, _), (6, _)] ?_; refine WC.sr ?_; refine Go ?_; refine goC 3 4 ?_ TT.mk)
      all_goals (first | (fail_if_success refine goB 3 ?_) | (
      refine goB 3 ?_
      all_goals (refine WC.sr ?_; refine Go ?_; refine WL.step (ok_buildF (vs := [_, _]) (cs := [_, _, _]) (fun | [a0, a1] => [a0, a1, (St [])] | _ => []) rfl rfl (by kernel_rfl)) rfl rfl rfl ?_; refine WL.stepR0 (okE_storeW (fun w => Tryz.sizeOf152 w) rfl rfl rfl hb1 rfl (by simp [Value.oneCell'])) rfl rfl ?_; rintro _ h3 ⟨hb3, hx3⟩; refine Gn ?_; refine Gs [(4, _)] ?_; refine WC.ret ?_; repeat' (with_reducible first | refine thenP_r ?_ | refine blockP_r ?_))
      all_goals (refine retP_1 _ ⟨⟨_, rfl, ld_blk (fun w => Tryz.isAgg152 w) (fun w => Tryz.sizeOf152 w) (by assumption) rfl⟩, trivial⟩ ?_; exact ⟨rfl, hx1.trans' hx3 (fun q hq e => by omega)⟩)
      skip))
      all_goals (refine goB 4 ?_; refine WC.skip ?_; refine Gn ?_; refine WC.sr ?_; refine WL.step (ok_buildF (vs := []) (cs := [_, _, _]) (fun | [] => [(.int .i64 0), (.int .i64 0), (St [])] | _ => []) rfl rfl (by kernel_rfl)) rfl rfl rfl ?_; refine WL.stepR0 (okE_storeW (fun w => Tryz.sizeOf152 w) rfl rfl rfl hb1 rfl (by simp [Value.oneCell'])) rfl rfl ?_; rintro _ h3 ⟨hb3, hx3⟩; refine Gn ?_; refine WC.ret ?_; repeat' (with_reducible first | refine thenP_r ?_ | refine blockP_r ?_))
      all_goals (refine retP_1 _ ⟨⟨_, rfl, ld_blk (fun w => Tryz.isAgg152 w) (fun w => Tryz.sizeOf152 w) (by assumption) rfl⟩, trivial⟩ ?_; exact ⟨rfl, hx1.trans' hx3 (fun q hq e => by omega)⟩)
  · rw [if_neg h1]
    by_cases h2 : a = ([102, 97, 105, 108] : List UInt8)
    · subst h2
      rw [if_pos rfl]
      cases hp : codeB b
      all_goals
        rw [hp] at kc
        refine calls [(0, _), (1, _)] Tryz.func140 rfl Tryz.ntmps140 rfl ⟨rfl, rfl, trivial⟩ ?_
        all_goals (refine WC.sr ?_; refine WL.stepR (okE_alloc (fun w => Tryz.zeroValue152 w)) rfl rfl rfl ?_; rintro _ h1 ⟨b1, rfl, hg1, hb1, hx1⟩; refine Gn ?_; refine WC.seq ?_; refine WC.sr ?_; refine Go ?_; refine WC.block ?_; refine WC.sr ?_; refine Go ?_; refine goC 1 2 ?_ TT.mk; refine goB 2 ?_; refine WC.sr ?_; refine Go ?_; refine Gs [(1, _), (4, _), (18, _)] ?_; refine goC 5 6 ?_ TT.mk; refine goB 5 ?_; refine WC.sr ?_; refine Go ?_; refine WL.call (vs := [_]) rfl (fun a w => Tryz.call187 a w) rfl (kc _) rfl rfl rfl ?_; rintro _ h2 ⟨rfl, hx2⟩; have hb2 := hx2.obj hb1 nos; have X2 := hx1.trans hx2; refine Gn ?_; refine goC 7 8 ?_ TT.mk)
        all_goals (first | (fail_if_success refine goB 7 ?_) | (
        refine goB 7 ?_
        all_goals (refine WC.sr ?_; refine Go ?_; refine WL.step (ok_buildF (vs := [_, _]) (cs := [_, _, _]) (fun | [a0, a2] => [a0, (.int .i64 0), a2] | _ => []) rfl rfl (by kernel_rfl)) rfl rfl rfl ?_; refine WL.stepR0 (okE_storeW (fun w => Tryz.sizeOf152 w) rfl rfl rfl hb2 rfl (by simp [Value.oneCell'])) rfl rfl ?_; rintro _ h3 ⟨hb3, hx3⟩; refine Gn ?_; refine Gs [(4, _)] ?_; refine WC.ret ?_; repeat' (with_reducible first | refine thenP_r ?_ | refine blockP_r ?_))
        all_goals (refine retP_1 _ ⟨⟨_, rfl, ld_blk (fun w => Tryz.isAgg152 w) (fun w => Tryz.sizeOf152 w) (by assumption) rfl⟩, trivial⟩ ?_; exact ⟨rfl, X2.trans' hx3 (fun q hq e => by omega)⟩)
        skip))
        all_goals (refine goB 8 ?_; refine WC.skip ?_; refine Gn ?_; refine WC.sr ?_; refine WL.step (ok_buildF (vs := []) (cs := [_, _, _]) (fun | [] => [(.int .i64 0), (.int .i64 0), (St [])] | _ => []) rfl rfl (by kernel_rfl)) rfl rfl rfl ?_; refine WL.stepR0 (okE_storeW (fun w => Tryz.sizeOf152 w) rfl rfl rfl hb2 rfl (by simp [Value.oneCell'])) rfl rfl ?_; rintro _ h3 ⟨hb3, hx3⟩; refine Gn ?_; refine WC.ret ?_; repeat' (with_reducible first | refine thenP_r ?_ | refine blockP_r ?_))
        all_goals (refine retP_1 _ ⟨⟨_, rfl, ld_blk (fun w => Tryz.isAgg152 w) (fun w => Tryz.sizeOf152 w) (by assumption) rfl⟩, trivial⟩ ?_; exact ⟨rfl, X2.trans' hx3 (fun q hq e => by omega)⟩)
    · rw [if_neg h2]
      refine calls [(0, _), (1, _)] Tryz.func140 rfl Tryz.ntmps140 rfl ⟨rfl, rfl, trivial⟩ ?_
      all_goals (refine WC.sr ?_; refine WL.stepR (okE_alloc (fun w => Tryz.zeroValue152 w)) rfl rfl rfl ?_; rintro _ h1 ⟨b1, rfl, hg1, hb1, hx1⟩; refine Gn ?_; refine WC.seq ?_; refine WC.sr ?_; refine Go ?_; refine WC.block ?_; refine WC.sr ?_; refine Go ?_; refine goC 1 2 ?_ TT.mk; refine goB 2 ?_; refine WC.sr ?_; refine Go ?_; refine Gs [(1, _), (4, _), (18, _)] ?_; refine goC 5 6 ?_ TT.mk; refine goB 6 ?_; refine WC.skip ?_; refine Gn ?_; refine WC.sr ?_; refine WL.step (ok_buildF (vs := []) (cs := [_, _, _]) (fun | [] => [(.int .i64 0), (.int .i64 0), (St [])] | _ => []) rfl rfl (by kernel_rfl)) rfl rfl rfl ?_; refine WL.stepR0 (okE_storeW (fun w => Tryz.sizeOf152 w) rfl rfl rfl hb1 rfl (by simp [Value.oneCell'])) rfl rfl ?_; rintro _ h3 ⟨hb3, hx3⟩; refine Gn ?_; refine WC.ret ?_; repeat' (with_reducible first | refine thenP_r ?_ | refine blockP_r ?_))
      all_goals (refine retP_1 _ ⟨⟨_, rfl, ld_blk (fun w => Tryz.isAgg152 w) (fun w => Tryz.sizeOf152 w) (by assumption) rfl⟩, trivial⟩ ?_; exact ⟨rfl, hx1.trans' hx3 (fun q hq e => by omega)⟩)
set_option maxHeartbeats 2000000 in
set_option maxRecDepth 100000 in
theorem sql_v {h : Heap} (t : List UInt8) (hm : t.length ≤ 1000000) : CallsH Tryz.prog 89 ⟨[St t]⟩ h fun u h' => u = .agg ⟨(verbP t).cells⟩ ∧ Ext No h h' := by
  have kt := fun h' => trim_v (h := h') t hm
  have kw := fun h' => word_v (h := h') (trimP t)
  have hl : (trimP t).length ≤ 1000000 := Nat.le_trans (Nat.le_trans (trL_len _) (trR_len _)) hm
  have kc := fun h' => cut_v (h := h') (trimP t) hl
  have kp := fun h' => pair_v (h := h') (cutP (trimP t)).1 (cutP (trimP t)).2.1
  unfold verbP
  cases hw : wordP (trimP t)
  · rw [hw] at kw
    dsimp only [Option.getD_none, Option.isSome_none] at kw
    obtain ⟨bc, hc⟩ : ∃ b, (cutP (trimP t)).2.2 = b := ⟨_, rfl⟩
    rw [hc] at kc
    dsimp only
    rw [hc]
    unfold VeD.cells veC at *
    cases bc
    all_goals
      refine calls [(0, _)] Tryz.func89 rfl Tryz.ntmps89 rfl ⟨rfl, trivial⟩ ?_
      all_goals (refine WC.sr ?_; refine WL.stepR (okE_alloc (fun w => Tryz.zeroValue152 w)) rfl rfl rfl ?_; rintro _ h1 ⟨b1, rfl, hg1, hb1, hx1⟩; refine Gn ?_; refine WC.sr ?_; refine Go ?_; refine WL.call (vs := [_, _]) rfl (fun a w => Tryz.call137 a w) rfl (kt _) rfl rfl rfl ?_; rintro _ hq ⟨rfl, hz1⟩; subst hz1; refine Go ?_; refine WC.seq ?_; refine WC.sr ?_; refine Go ?_; refine WL.call (vs := [_]) rfl (fun a w => Tryz.call138 a w) rfl (kw _) rfl rfl rfl ?_; rintro _ hq ⟨rfl, hz1⟩; subst hz1; refine Go ?_; refine Gs [(2, _), (3, _), (4, _), (5, _)] ?_; refine WC.sr ?_; refine Go ?_; refine goC 1 2 ?_ TT.mk; refine goB 2 ?_; refine WC.skip ?_; refine Gn ?_; refine WC.sr ?_; refine Go ?_; refine WL.call (vs := [_, _]) rfl (fun a w => Tryz.call139 a w) rfl (kc _) rfl rfl rfl ?_; rintro _ hq ⟨rfl, hz1⟩; subst hz1; refine Go ?_; refine Gs [(2, _), (6, _), (7, _), (8, _)] ?_; refine WC.seq ?_; refine WC.sr ?_; refine Go ?_; refine goC 3 4 ?_ TT.mk)
      all_goals (first | (fail_if_success refine goB 3 ?_) | (
      refine goB 3 ?_
      all_goals (refine WC.sr ?_; refine WL.step (ok_buildF (vs := []) (cs := [_, _, _]) (fun | [] => [(.int .i64 0), (.int .i64 0), (St [])] | _ => []) rfl rfl (by kernel_rfl)) rfl rfl rfl ?_; refine WL.stepR0 (okE_storeW (fun w => Tryz.sizeOf152 w) rfl rfl rfl hb1 rfl (by simp [Value.oneCell'])) rfl rfl ?_; rintro _ h3 ⟨hb3, hx3⟩; have X3 := hx1.trans' hx3 (fun q hq e => by omega); refine Gn ?_; refine Gs [(2, _)] ?_; refine WC.ret ?_; repeat' (with_reducible first | refine thenP_r ?_ | refine blockP_r ?_))
      all_goals (refine retP_1 _ ⟨⟨_, rfl, ld_blk (fun w => Tryz.isAgg152 w) (fun w => Tryz.sizeOf152 w) (by assumption) rfl⟩, trivial⟩ ?_; exact ⟨rfl, X3⟩)
      skip))
      all_goals (refine goB 4 ?_; refine WC.skip ?_; refine Gn ?_; refine WC.sr ?_; refine Go ?_; refine WL.call (vs := [_, _]) rfl (fun a w => Tryz.call140 a w) rfl (kp _) rfl rfl rfl ?_; rintro _ h2 ⟨rfl, hx2⟩; have hb2 := hx2.obj hb1 nos; refine WL.stepR0 (okE_storeW (fun w => Tryz.sizeOf152 w) rfl rfl rfl hb2 rfl (by simp [Value.oneCell'])) rfl rfl ?_; rintro _ h3 ⟨hb3, hx3⟩; have X3 := (hx1.trans hx2).trans' hx3 (fun q hq e => by omega); refine Gn ?_; refine Gs [(2, _)] ?_; refine WC.ret ?_; repeat' (with_reducible first | refine thenP_r ?_ | refine blockP_r ?_))
      all_goals (refine retP_1 _ ⟨⟨_, rfl, ld_blk (fun w => Tryz.isAgg152 w) (fun w => Tryz.sizeOf152 w) (by assumption) rfl⟩, trivial⟩ ?_; exact ⟨rfl, X3⟩)
  · rw [hw] at kw
    unfold VeD.cells veC
    refine calls [(0, _)] Tryz.func89 rfl Tryz.ntmps89 rfl ⟨rfl, trivial⟩ ?_
    all_goals (refine WC.sr ?_; refine WL.stepR (okE_alloc (fun w => Tryz.zeroValue152 w)) rfl rfl rfl ?_; rintro _ h1 ⟨b1, rfl, hg1, hb1, hx1⟩; refine Gn ?_; refine WC.sr ?_; refine Go ?_; refine WL.call (vs := [_, _]) rfl (fun a w => Tryz.call137 a w) rfl (kt _) rfl rfl rfl ?_; rintro _ hq ⟨rfl, hz1⟩; subst hz1; refine Go ?_; refine WC.seq ?_; refine WC.sr ?_; refine Go ?_; refine WL.call (vs := [_]) rfl (fun a w => Tryz.call138 a w) rfl (kw _) rfl rfl rfl ?_; rintro _ hq ⟨rfl, hz1⟩; subst hz1; refine Go ?_; refine Gs [(2, _), (3, _), (4, _), (5, _)] ?_; refine WC.sr ?_; refine Go ?_; refine goC 1 2 ?_ TT.mk; refine goB 1 ?_; refine WC.sr ?_; refine Go ?_; refine WL.step (ok_buildF (vs := [_]) (cs := [_, _, _]) (fun | [a0] => [a0, (.int .i64 0), (St [])] | _ => []) rfl rfl (by kernel_rfl)) rfl rfl rfl ?_; refine WL.stepR0 (okE_storeW (fun w => Tryz.sizeOf152 w) rfl rfl rfl hb1 rfl (by simp [Value.oneCell'])) rfl rfl ?_; rintro _ h3 ⟨hb3, hx3⟩; refine Gn ?_; refine Gs [(2, _)] ?_; refine WC.ret ?_; repeat' (with_reducible first | refine thenP_r ?_ | refine blockP_r ?_))
    all_goals (refine retP_1 _ ⟨⟨_, rfl, ld_blk (fun w => Tryz.isAgg152 w) (fun w => Tryz.sizeOf152 w) (by assumption) rfl⟩, trivial⟩ ?_; exact ⟨rfl, hx1.trans' hx3 (fun q hq e => by omega)⟩)
end Go.Proofs.YtbokngiajfdanaaGreatDoor


/-
  SESSIONS (layer 30): a P, a B, an E of "begin", and a Z, of a session that is idle.
-/
namespace Go.Proofs.YtbokngiajfdanaaGreatDoor
open Go Go.RK

set_option maxHeartbeats 2000000 in
set_option maxRecDepth 100000 in
theorem eng_ready {h : Heap} {be me : Nat} {cnt : Int} (hb : h[be]? = some (.cells ⟨[.map (some me), In cnt]⟩ 62 (0, 0))) : CallsH Tryz.prog 144 ⟨[.pointer (some ⟨be, 0, none⟩)]⟩ h fun u h' => u = .bool true ∧ h' = h := by
  refine calls [(0, _)] Tryz.func144 rfl Tryz.ntmps144 rfl ⟨rfl, trivial⟩ ?_
  all_goals (refine WC.sr ?_; refine Go ?_; refine WC.sr ?_; refine Go ?_; refine WL.step (ok_neqPn Tryz.underlying27 rfl rfl) rfl rfl rfl ?_; refine Go ?_; refine goP 5 ?_ TT.mk; refine Gg ?_; refine WL.step (ok_nilCheck rfl) rfl rfl rfl ?_; refine Gg ?_; refine Ld ?_; refine WL.step (ok_neqMn Tryz.underlying55 rfl rfl) rfl rfl rfl ?_; refine Go ?_; refine Gs [(2, _)] ?_; refine Gt ?_; exact ⟨rfl, rfl⟩)
section
variable {h : Heap} {bs ms bp mp be me : Nat} {st : Int} {sk ov : Bool} {cnt : Int} {L P R : List (List UInt8 × Value)}
set_option maxHeartbeats 2000000 in
set_option maxRecDepth 100000 in
theorem verdict_begin (k : Se h bs ms bp mp be me 73 sk ov cnt L P []) : CallsH Tryz.prog 128 ⟨[.pointer (some ⟨be, 0, none⟩), St beginL, .int .u8 73]⟩ h fun u h' => u = .tuple ⟨[St [], St [], .bool false]⟩ ∧ Ext No h h' := by
  have kx := fun h' => exit_v (h := h') 2 0 []
  have kr := eng_ready k.eb
  have heb := k.eb
  have hem := k.em
  have kp := fun h' => parse_begin (h := h')
  unfold veC at kx kp
  refine calls [(0, _), (1, _), (2, _)] Tryz.func128 rfl Tryz.ntmps128 rfl ⟨rfl, rfl, rfl, trivial⟩ ?_
  all_goals (refine WC.sr ?_; refine Go ?_; refine WC.seq ?_; refine WC.sr ?_; refine Go ?_; refine WL.call (vs := [_]) rfl (fun a w => Tryz.call144 a w) rfl (kr) rfl rfl rfl ?_; rintro _ hz ⟨rfl, _⟩; subst hz; refine Go ?_; refine Gs [(0, _), (1, _), (2, _), (12, _)] ?_; refine goC 1 2 ?_ TT.mk; refine goB 2 ?_; refine WC.skip ?_; refine Gn ?_; refine WC.sr ?_; refine Go ?_; refine WL.call (vs := [_]) rfl (fun a w => Tryz.call89 a w) rfl (kp _) rfl rfl rfl ?_; rintro _ h1 ⟨rfl, hx1⟩; refine WL.stepR (okE_alloc (fun w => Tryz.zeroValue152 w)) rfl rfl rfl ?_; rintro _ h2 ⟨b9, rfl, hg2, hb2, hx2⟩; refine WL.stepR0 (okE_storeW (fun w => Tryz.sizeOf152 w) rfl rfl rfl hb2 rfl (by simp [Value.oneCell'])) rfl rfl ?_; rintro _ h3 ⟨hb3, hx3⟩; have X3 : Ext No h h3 := hx1.trans (hx2.trans' hx3 (fun q hq e => by omega)); refine Gn ?_; refine WC.seq ?_; refine WC.block ?_; refine WC.sr ?_; refine Go ?_; refine WL.ld rfl (by first | exact cell_blk hb3 rfl | assumption | exact cell_blk (by assumption) rfl) rfl rfl rfl ?_; refine Go ?_; refine Gs [(0, _), (1, _), (2, _), (9, _), (15, _)] ?_; refine goC 3 4 ?_ TT.mk; refine goB 4 ?_; refine WC.sr ?_; refine Go ?_; refine goP 22 ?_ TT.mk; refine WL.pass rfl rfl rfl ?_; refine WL.pass rfl rfl rfl ?_; refine Gg ?_; refine Go ?_; refine Gs [(0, _), (1, _), (9, _), (19, _)] ?_; refine goC 5 6 ?_ TT.mk; refine goB 6 ?_; refine WC.seq ?_; refine WC.sr ?_; refine WL.step (ok_loadN (fun w => Tryz.isAgg152 w) (fun w => Tryz.sizeOf152 w) rfl rfl (by exact At.of_block hb3)) rfl rfl rfl ?_; refine WL.call (vs := [_]) rfl (fun a w => Tryz.call151 a w) rfl (kx _) rfl rfl rfl ?_; rintro _ h4 ⟨rfl, hx4⟩; have X4 := X3.trans hx4; refine Go ?_; refine goC 7 8 ?_ TT.mk; refine goB 8 ?_; refine WC.region ?_; refine Go ?_; refine WL.ld rfl (by first | exact cell_blk (hx4.obj hb3 nos) rfl | assumption | exact cell_blk (by assumption) rfl) rfl rfl rfl ?_; refine Go ?_; refine Gn ?_; refine Gs [(0, _), (1, _), (27, _)] ?_; refine goC 9 10 ?_ TT.mk; refine goB 10 ?_; refine WC.sr ?_; refine Go ?_; refine WL.step (ok_nilCheck rfl) rfl rfl rfl ?_; refine Go ?_; refine WL.ld rfl (by first | exact cell_blk (X4.obj heb nos) rfl | assumption | exact cell_blk (by assumption) rfl) rfl rfl rfl ?_; refine Go ?_; refine WL.step ((ok_lookup_no keyS Tryz.underlying55 Tryz.underlying9 (fun w => Tryz.zeroValue4 w) rfl rfl (hem.ext X4 nos) (by rfl)).2) rfl rfl rfl ?_; refine Go ?_; refine Gs [(33, _)] ?_; refine goC 11 12 ?_ TT.mk; refine goB 12 ?_; refine WC.skip ?_; refine Gn ?_; refine WC.sr ?_; refine Go ?_; refine Gt ?_; exact ⟨rfl, X4⟩)
set_option maxHeartbeats 2000000 in
set_option maxRecDepth 100000 in
theorem refused_begin (k : Se h bs ms bp mp be me 73 sk ov cnt L P []) : CallsH Tryz.prog 78 ⟨[.pointer (some ⟨bs, 0, none⟩), St beginL]⟩ h fun u h' => u = .nilIface ∧ Ext No h h' := by
  have hb := k.blk
  refine calls [(0, _), (1, _)] Tryz.func78 rfl Tryz.ntmps78 rfl ⟨rfl, rfl, trivial⟩ ?_
  all_goals (refine WC.sr ?_; refine Go ?_; refine WC.seq ?_; refine WC.seq ?_; refine WC.drawH (fun h' => Ext No h h') 17 17 rfl fol ?_; refine WH.tk 0 rfl (fun hq hC => ok_move rfl) rfl rfl rfl ?_; refine WH.tk 1 rfl (fun hq hC => ok_nilCheck rfl) rfl rfl rfl ?_; refine WH.tk 2 rfl (fun hq hC => ok_fieldAddr rfl Tryz.underlying54 rfl (fun w => Tryz.sizeOf27 w)) rfl rfl rfl ?_; refine WH.tk 3 rfl (fun hq hC => ok_load (fun w => Tryz.isAgg27 w) rfl (by first | exact hC.cell (by first | exact cell_blk hb rfl | assumption | exact cell_blk (by assumption) rfl) nos)) rfl rfl rfl ?_; refine WH.tk 4 rfl (fun hq hC => ok_move rfl) rfl rfl rfl ?_; refine WH.tk 5 rfl (fun hq hC => ok_move rfl) rfl rfl rfl ?_; refine WH.tk 6 rfl (fun hq hC => ok_nilCheck rfl) rfl rfl rfl ?_; refine WH.tk 7 rfl (fun hq hC => ok_fieldAddr rfl Tryz.underlying54 rfl (fun w => Tryz.sizeOf5 w)) rfl rfl rfl ?_; refine WH.tk 8 rfl (fun hq hC => ok_load (fun w => Tryz.isAgg5 w) rfl (by first | exact hC.cell (by first | exact cell_blk hb rfl | assumption | exact cell_blk (by assumption) rfl) nos)) rfl rfl rfl ?_; refine WH.one 9 (by kernel_rfl) ?_; refine Comes1.call (vs := [_, _, _]) rfl rfl (fun a w => Tryz.call128 a w) rfl (verdict_begin k) rfl rfl rfl ?_ (fun _ => by kernel_rfl); rintro _ h1 ⟨rfl, hx1⟩; refine ⟨fun _ => hx1, ?_⟩; refine WH.tk 10 rfl (fun hq hC => ok_move rfl) rfl rfl rfl ?_; refine WH.tk 11 rfl (fun hq hC => ok_extract rfl rfl) rfl rfl rfl ?_; refine WH.tk 12 rfl (fun hq hC => ok_extract rfl rfl) rfl rfl rfl ?_; refine WH.tk 13 rfl (fun hq hC => ok_extract rfl rfl) rfl rfl rfl ?_; refine WH.tk 14 rfl (fun hq hC => ok_assign rfl) rfl rfl rfl ?_; refine WH.tk 15 rfl (fun hq hC => ok_assign rfl) rfl rfl rfl ?_; refine WH.tk 16 rfl (fun hq hC => ok_assign rfl) rfl rfl rfl ?_; refine WH.done (by kernel_rfl) ?_; refine Gn ?_; refine Gs [(5, _), (6, _), (7, _)] ?_; refine WC.sr ?_; refine Go ?_; refine goC 1 2 ?_ TT.mk; refine goB 2 ?_; refine WC.skip ?_; refine Gn ?_; refine Gs [] ?_; refine WC.sr ?_; refine Go ?_; refine Gt ?_; exact ⟨rfl, by first | exact hx1 | exact hC⟩)
set_option maxHeartbeats 2000000 in
set_option maxRecDepth 100000 in
theorem plain_v (c : Int) : CallsH Tryz.prog 82 ⟨[.int .u8 c]⟩ h fun u h' => ∃ q, u = .slice (some ⟨q, 0, none⟩) 1 1 ∧ h'[q]? = some (.cells ⟨[.int .u8 c, .int .u8 0, St [], St [], St [], In 0, In 0, .slice none 0 0, .slice none 0 0, .slice none 0 0, .slice none 0 0]⟩ 42 (0, 0)) ∧ h.size ≤ q ∧ Ext No h h' := by
  refine calls [(0, _)] Tryz.func82 rfl Tryz.ntmps82 rfl ⟨rfl, trivial⟩ ?_
  all_goals (refine WC.sr ?_; refine Go ?_; refine WC.sr ?_; refine Go ?_; refine WL.step (ok_buildF (vs := [_]) (cs := [_, _, _, _, _, _, _, _, _, _, _]) (fun | [a0] => [a0, (.int .u8 0), (St []), (St []), (St []), (.int .i64 0), (.int .i64 0), (.slice none 0 0), (.slice none 0 0), (.slice none 0 0), (.slice none 0 0)] | _ => []) rfl rfl (by kernel_rfl)) rfl rfl rfl ?_; refine WL.stepR (okE_buildSlice (vs := [_]) (cs := [_, _, _, _, _, _, _, _, _, _, _]) (fun | [.agg ⟨[a0, a1, a2, a3, a4, a5, a6, a7, a8, a9, a10]⟩] => [a0, a1, a2, a3, a4, a5, a6, a7, a8, a9, a10] | _ => []) Tryz.underlying33 rfl rfl (by kernel_rfl)) rfl rfl rfl ?_; rintro _ h1 ⟨b1, rfl, hg1, hb1, hx1⟩; refine Go ?_; refine Gs [(2, _)] ?_; refine Gt ?_; exact ⟨b1, rfl, hb1, hg1, hx1⟩)
abbrev nS : Value := .slice none 0 0
set_option maxHeartbeats 2000000 in
set_option maxRecDepth 100000 in
theorem clone_nil {h : Heap} : CallsH Tryz.prog 81 ⟨[nS]⟩ h fun u h' => u = nS ∧ h' = h := by
  refine calls [(0, _)] Tryz.func81 rfl Tryz.ntmps81 rfl ⟨rfl, trivial⟩ ?_
  all_goals (refine WC.sr ?_; refine Go ?_; refine WC.seq ?_; refine WC.sr ?_; refine Go ?_; refine WL.step (ok_eqlSn Tryz.underlying29 rfl rfl) rfl rfl rfl ?_; refine Gn ?_; refine goC 1 2 ?_ TT.mk; refine goB 1 ?_; refine WC.sr ?_; refine Go ?_; refine Gt ?_; exact ⟨rfl, rfl⟩)
set_option maxHeartbeats 2000000 in
set_option maxRecDepth 100000 in
/-- A P of a name that isn't there. -/
theorem parse_s {n : List UInt8} (hn : n ≠ []) (k : Se h bs ms bp mp be me 73 sk ov cnt [] P []) : CallsH Tryz.prog 46 ⟨[.pointer (some ⟨bs, 0, none⟩), .agg ⟨[.int .u8 80, .int .u8 0, St n, St [], St beginL, nS, nS, nS, nS, In 0]⟩]⟩ h fun u h' =>
    ∃ A m c, u = .tuple ⟨[.slice A m c, .nilIface]⟩ ∧ Se h' bs ms bp mp be me 73 sk ov cnt [(n, .agg ⟨[St beginL, nS]⟩)] P [] ∧ Kf h h' ∧ Ext (fun q => q = ms) h h' := by
  refine calls [(0, _), (1, _)] Tryz.func46 rfl Tryz.ntmps46 rfl ⟨rfl, rfl, trivial⟩ ?_
  all_goals (refine WC.sr ?_; refine WL.stepR (okE_box rfl) rfl rfl rfl ?_; rintro _ h1 ⟨b3, rfl, hg1, hb1, hx1⟩; refine Go ?_; refine WC.seq ?_; refine WC.sr ?_; refine Go ?_; refine WL.ld rfl (by first | exact cell_blk hb1 rfl | assumption | exact cell_blk (by assumption) rfl) rfl rfl rfl ?_; refine Go ?_; refine Gs [(0, _), (3, _), (11, _)] ?_; refine goC 1 2 ?_ TT.mk; refine goB 2 ?_; refine WC.skip ?_; refine Gn ?_; refine WC.seq ?_; refine WC.sr ?_; refine Go ?_; refine WL.ld rfl (by first | exact cell_blk hb1 rfl | assumption | exact cell_blk (by assumption) rfl) rfl rfl rfl ?_; refine WL.call (vs := [_, _]) rfl (fun a w => Tryz.call78 a w) rfl (refused_begin (k.ext0 hx1)) rfl rfl rfl ?_; rintro _ h2 ⟨rfl, hx2⟩; have hb2 := hx2.obj hb1 nos; have k2 := k.ext0 (hx1.trans hx2); have hbs := k2.blk; have hms := k2.stm; refine Go ?_; refine Gs [(0, _), (3, _), (6, _)] ?_; refine WC.sr ?_; refine Go ?_; refine WL.step (ok_neqIn (by kernel_rfl) rfl rfl) rfl rfl rfl ?_; refine Gn ?_; refine goC 3 4 ?_ TT.mk; refine goB 4 ?_; refine WC.skip ?_; refine Gn ?_; refine WC.seq ?_; refine WC.seq ?_; refine WC.drawH (fun h' => Ext No h2 h') 13 13 rfl fol ?_; refine WH.tk 0 rfl (fun hq hC => ok_move rfl) rfl rfl rfl ?_; refine WH.tk 1 rfl (fun hq hC => ok_nilCheck rfl) rfl rfl rfl ?_; refine WH.tk 2 rfl (fun hq hC => ok_fieldAddr rfl Tryz.underlying54 rfl (fun w => Tryz.sizeOf50 w)) rfl rfl rfl ?_; refine WH.tk 3 rfl (fun hq hC => ok_load (fun w => Tryz.isAgg50 w) rfl (by first | exact hC.cell (by first | exact cell_blk hbs rfl | assumption | exact cell_blk (by assumption) rfl) nos)) rfl rfl rfl ?_; refine WH.tk 4 rfl (fun hq hC => ok_fieldAddr rfl Tryz.underlying32 rfl (fun w => Tryz.sizeOf9 w)) rfl rfl rfl ?_; refine WH.tk 5 rfl (fun hq hC => ok_load (fun w => Tryz.isAgg9 w) rfl (by first | exact hC.cell (by first | exact cell_blk hb2 rfl | assumption | exact cell_blk (by assumption) rfl) nos)) rfl rfl rfl ?_; refine WH.tk 6 rfl (fun hq hC => (ok_lookup_no keyS Tryz.underlying50 Tryz.underlying9 (fun w => Tryz.zeroValue135 w) rfl rfl (hms.ext hC nos) (by rfl)).1) rfl rfl rfl ?_; refine WH.tk 7 rfl (fun hq hC => ok_move rfl) rfl rfl rfl ?_; refine WH.tk 8 rfl (fun hq hC => ok_extract rfl rfl) rfl rfl rfl ?_; refine WH.tk 9 rfl (fun hq hC => ok_extract rfl rfl) rfl rfl rfl ?_; refine WH.one 10 (by kernel_rfl) ?_; refine Comes1.run rfl (okE_alloc (fun w => Tryz.zeroValue135 w)) rfl rfl rfl ?_ (fun _ => by kernel_rfl); rintro _ h3 ⟨b7, rfl, hg3, hb3, hx3⟩; refine ⟨fun _ => hx3, ?_⟩; refine WH.one 11 (by kernel_rfl) ?_; refine Comes1.run0 rfl (okE_storeW (fun w => Tryz.sizeOf135 w) rfl rfl rfl hb3 rfl (by simp [Value.oneCell'])) rfl rfl ?_ (fun _ => by kernel_rfl); rintro _ h4 ⟨hb4, hx4⟩; refine ⟨fun _ => hx3.trans' hx4 (fun q hq e => by omega), ?_⟩; have X4 : Ext No h2 h4 := hx3.trans' hx4 (fun q hq e => by omega); have k4 := k2.ext0 X4; have hbs4 := k4.blk; have hms4 := k4.stm; have hb14 := X4.obj hb2 nos; refine WH.tk 12 rfl (fun hq hC => ok_assign rfl) rfl rfl rfl ?_; refine WH.done (by kernel_rfl) ?_; refine Gn ?_; refine Gs [(0, _), (3, _), (8, _)] ?_; refine WC.sr ?_; refine Go ?_; refine goC 5 6 ?_ TT.mk)
  all_goals (refine goB 6 ?_; refine WC.skip ?_; refine Gn ?_; refine WC.seq ?_; refine WC.drawH (fun h' => Ext No h4 h') 12 13 rfl fol ?_; refine WH.tk 0 rfl (fun hq hC => ok_move rfl) rfl rfl rfl ?_; refine WH.tk 1 rfl (fun hq hC => ok_nilCheck rfl) rfl rfl rfl ?_; refine WH.tk 2 rfl (fun hq hC => ok_fieldAddr rfl Tryz.underlying54 rfl (fun w => Tryz.sizeOf50 w)) rfl rfl rfl ?_; refine WH.tk 3 rfl (fun hq hC => ok_load (fun w => Tryz.isAgg50 w) rfl (by first | exact hC.cell (by first | exact cell_blk hbs4 rfl | assumption | exact cell_blk (by assumption) rfl) nos)) rfl rfl rfl ?_; refine WH.tk 4 rfl (fun hq hC => ok_fieldAddr rfl Tryz.underlying32 rfl (fun w => Tryz.sizeOf9 w)) rfl rfl rfl ?_; refine WH.tk 5 rfl (fun hq hC => ok_load (fun w => Tryz.isAgg9 w) rfl (by first | exact hC.cell (by first | exact cell_blk hb14 rfl | assumption | exact cell_blk (by assumption) rfl) nos)) rfl rfl rfl ?_; refine WH.tk 6 rfl (fun hq hC => ok_fieldAddr rfl Tryz.underlying32 rfl (fun w => Tryz.sizeOf9 w)) rfl rfl rfl ?_; refine WH.tk 7 rfl (fun hq hC => ok_load (fun w => Tryz.isAgg9 w) rfl (by first | exact hC.cell (by first | exact cell_blk hb14 rfl | assumption | exact cell_blk (by assumption) rfl) nos)) rfl rfl rfl ?_; refine WH.tk 8 rfl (fun hq hC => ok_fieldAddr rfl Tryz.underlying32 rfl (fun w => Tryz.sizeOf29 w)) rfl rfl rfl ?_; refine WH.tk 9 rfl (fun hq hC => ok_load (fun w => Tryz.isAgg29 w) rfl (by first | exact hC.cell (by first | exact cell_blk hb14 rfl | assumption | exact cell_blk (by assumption) rfl) nos)) rfl rfl rfl ?_; refine WH.one 10 (by kernel_rfl) ?_; refine Comes1.call (vs := [_]) rfl rfl (fun a w => Tryz.call81 a w) rfl (clone_nil) rfl rfl rfl ?_ (fun _ => by kernel_rfl); rintro _ hq ⟨rfl, hz⟩; replace hz := hz.symm; subst hz; refine ⟨fun _ => .refl _ _, ?_⟩; refine WH.tk 11 rfl (fun hq hC => ok_buildF (vs := [_, _]) (cs := [_, _]) (fun | [a0, a1] => [a0, a1] | _ => []) rfl rfl (by kernel_rfl)) rfl rfl rfl ?_; refine WH.one 12 (by kernel_rfl) ?_; refine Comes1.run0 rfl (ok_mapUpdate keyS Tryz.underlying50 Tryz.underlying9 rfl rfl rfl hms4) rfl rfl ?_ (fun _ => by kernel_rfl); rintro _ h5 ⟨hm5, hx5⟩; refine ⟨fun e => (by cases e), ?_⟩; refine WH.done (by kernel_rfl) ?_; refine Gn ?_; refine Gs [] ?_; refine WC.sr ?_; refine WL.call (vs := [_]) rfl (fun a w => Tryz.call82 a w) rfl (plain_v 49) rfl rfl rfl ?_; rintro _ h6 ⟨q, rfl, hq6, hgq, hx6⟩; refine Go ?_; refine Gt ?_; refine ⟨_, _, _, rfl, ?_, (((kf_no hx1).trans (kf_no hx2)).trans (kf_no X4)).trans ((kf_map hms4 hx5).trans (kf_no hx6)), (((hx1.trans hx2).trans X4).mono fun _ _ e => e.elim).trans (hx5.trans (hx6.mono fun _ _ e => e.elim))⟩; have lm := hms4.lt; (have o : ∀ {q : Nat} {cs : Array Value} {TT : TypeId}, h4[q]? = some (.cells cs TT (0, 0)) → ¬ q = ms := fun hq e => by subst e; obtain ⟨_, _, z, _⟩ := hms4; rw [hq] at z; cases z); exact (⟨hx5.obj k4.blk (o k4.blk), hm5, hx5.obj k4.pb (o k4.pb), k4.pm.ext hx5 (fun e => k4.ne.1 e.symm), hx5.obj k4.eb (o k4.eb), k4.em.ext hx5 (fun e => k4.ne.2.1 e.symm), k4.ne⟩ : Se h5 bs ms bp mp be me 73 sk ov cnt [(n, .agg ⟨[St beginL, nS]⟩)] P []).ext0 hx6)
end
end Go.Proofs.YtbokngiajfdanaaGreatDoor


/-
  SESSIONS (layer 30): a B and an E of "begin", and a Z.
-/
namespace Go.Proofs.YtbokngiajfdanaaGreatDoor
open Go Go.RK

section
variable {h h' : Heap} {bs ms bp mp be me : Nat} {st st' : Int} {sk ov : Bool} {cnt : Int} {L P P' R : List (List UInt8 × Value)} {S : Nat → Prop}
theorem mpNo {es : List (List UInt8 × Value)} {m q : Nat} {cs : Array Value} {TT : TypeId} (k : Mp .string St h m es) (hq : h[q]? = some (.cells cs TT (0, 0))) : ¬ q = m := fun e => by
  subst e
  obtain ⟨_, _, z, _⟩ := k
  rw [hq] at z
  cases z
/-- The portals' map turned. -/
theorem Se.turnP (k : Se h bs ms bp mp be me st sk ov cnt L P R) (x : Ext (fun q => q = mp) h h') (hm : Mp .string St h' mp P') : Se h' bs ms bp mp be me st sk ov cnt L P' R :=
  ⟨x.obj k.blk (mpNo k.pm k.blk), k.stm.ext x k.ne.1, x.obj k.pb (mpNo k.pm k.pb), hm, x.obj k.eb (mpNo k.pm k.eb), k.em.ext x (fun e => k.ne.2.2 e.symm), k.ne⟩
/-- A portal turned. -/
theorem Se.turnO (k : Se h bs ms bp mp be me st sk ov cnt L P R) {q : Nat} {cs : Array Value} (hq : h[q]? = some (.cells cs 147 (0, 0))) (x : Ext (fun z => z = q) h h') : Se h' bs ms bp mp be me st sk ov cnt L P R := by
  have o : ∀ {z : Nat} {ds : Array Value} {TT : TypeId}, TT ≠ 147 → h[z]? = some (.cells ds TT (0, 0)) → ¬ z = q := fun hT hz e => by
    subst e
    rw [hq] at hz
    simp only [Option.some.injEq, Obj.cells.injEq] at hz
    exact hT hz.2.1.symm
  exact ⟨x.obj k.blk (o (by decide) k.blk), k.stm.ext x (fun e => mpNo k.stm hq e.symm), x.obj k.pb (o (by decide) k.pb), k.pm.ext x (fun e => mpNo k.pm hq e.symm), x.obj k.eb (o (by decide) k.eb), k.em.ext x (fun e => mpNo k.em hq e.symm), k.ne⟩
/-- The session itself turned. -/
theorem Se.turnS (k : Se h bs ms bp mp be me st sk ov cnt L P R) {sk' ov' : Bool} (x : Ext (fun z => z = bs) h h') (hb : h'[bs]? = some (.cells ⟨[.map (some ms), .pointer (some ⟨bp, 0, none⟩), .pointer (some ⟨be, 0, none⟩), .int .u8 st', .bool sk', .bool ov']⟩ 54 (0, 0))) : Se h' bs ms bp mp be me st' sk' ov' cnt L P R := by
  have hq := k.blk
  have o : ∀ {z : Nat} {ds : Array Value} {TT : TypeId}, TT ≠ 54 → h[z]? = some (.cells ds TT (0, 0)) → ¬ z = bs := fun hT hz e => by
    subst e
    rw [hq] at hz
    simp only [Option.some.injEq, Obj.cells.injEq] at hz
    exact hT hz.2.1.symm
  exact ⟨hb, k.stm.ext x (fun e => mpNo k.stm hq e.symm), x.obj k.pb (o (by decide) k.pb), k.pm.ext x (fun e => mpNo k.pm hq e.symm), x.obj k.eb (o (by decide) k.eb), k.em.ext x (fun e => mpNo k.em hq e.symm), k.ne⟩
set_option maxHeartbeats 2000000 in
set_option maxRecDepth 100000 in
theorem aborted_no {t : List UInt8} {v : Value} (hst : st ≠ 69) (k : Se h bs ms bp mp be me st sk ov cnt L P R) : CallsH Tryz.prog 131 ⟨[.pointer (some ⟨bs, 0, none⟩), .agg ⟨[St t, v]⟩]⟩ h fun u h' => u = .nilIface ∧ Ext No h h' := by
  have hb := k.blk
  refine calls [(0, _), (1, _)] Tryz.func131 rfl Tryz.ntmps131 rfl ⟨rfl, rfl, trivial⟩ ?_
  all_goals (refine WC.sr ?_; refine WL.stepR (okE_box rfl) rfl rfl rfl ?_; rintro _ h1 ⟨b3, rfl, hg1, hb1, hx1⟩; refine Go ?_; refine WC.seq ?_; refine WC.sr ?_; refine Go ?_; refine WL.step (ok_nilCheck rfl) rfl rfl rfl ?_; refine Go ?_; refine WL.ld rfl (by first | exact cell_blk (hx1.obj hb nos) rfl | assumption | exact cell_blk (by assumption) rfl) rfl rfl rfl ?_; refine Go ?_; refine goP 10 ?_ TT.mk; refine Gg ?_; refine WL.pass rfl rfl rfl ?_; refine WL.pass rfl rfl rfl ?_; refine WL.pass rfl rfl rfl ?_; refine Gg ?_; refine Go ?_; refine Gs [(16, _)] ?_; refine goC 1 2 ?_ TT.mk; refine goB 2 ?_; refine WC.skip ?_; refine Gn ?_; refine WC.sr ?_; refine Go ?_; refine Gt ?_; exact ⟨rfl, hx1⟩)
set_option maxHeartbeats 2000000 in
set_option maxRecDepth 100000 in
theorem stmt_s {n t : List UInt8} (hst : st ≠ 69) (hl : alook L n = some (.agg ⟨[St t, nS]⟩)) (k : Se h bs ms bp mp be me st sk ov cnt L P R) : CallsH Tryz.prog 83 ⟨[.pointer (some ⟨bs, 0, none⟩), St n]⟩ h fun u h' => u = .tuple ⟨[.agg ⟨[St t, nS]⟩, .nilIface]⟩ ∧ Ext No h h' := by
  refine calls [(0, _), (1, _)] Tryz.func83 rfl Tryz.ntmps83 rfl ⟨rfl, rfl, trivial⟩ ?_
  all_goals (refine WC.sr ?_; refine WL.stepR (okE_alloc (fun w => Tryz.zeroValue135 w)) rfl rfl rfl ?_; rintro _ h1 ⟨b4, rfl, hg1, hb4, hx1⟩; refine Go ?_; refine WC.sr ?_; have k1 := k.ext0 hx1; have hb := k1.blk; have hms := k1.stm; have l4 := lt_of_some hb4; refine WL.step (ok_move rfl) rfl rfl rfl ?_; refine WL.step (ok_nilCheck rfl) rfl rfl rfl ?_; refine Go ?_; refine WL.ld rfl (by first | exact cell_blk hb rfl | assumption | exact cell_blk (by assumption) rfl) rfl rfl rfl ?_; refine Go ?_; refine WL.step ((ok_lookup keyS Tryz.underlying50 Tryz.underlying9 rfl rfl hms hl).1) rfl rfl rfl ?_; refine Go ?_; refine WL.stepR (okE_alloc (fun w => Tryz.zeroValue135 w)) rfl rfl rfl ?_; rintro _ h2 ⟨b6, rfl, hg2, hb6, hx2⟩; refine WL.stepR0 (okE_storeW (fun w => Tryz.sizeOf135 w) rfl rfl rfl hb6 rfl (by simp [Value.oneCell'])) rfl rfl ?_; rintro _ h3 ⟨hb63, hx3⟩; have X3 : Ext No h1 h3 := hx2.trans' hx3 (fun q hq e => by omega); have k3 := k1.ext0 X3; have hb43 := X3.obj hb4 nos; (have n64 : ¬ b6 = b4 := by omega); refine Go ?_; refine Gs [(0, _), (1, _), (4, _), (6, _), (7, _)] ?_; refine WC.seq ?_; refine WC.sr ?_; refine Go ?_; refine goC 1 2 ?_ TT.mk; refine goB 2 ?_; refine WC.skip ?_; refine Gn ?_; refine Gs [(0, _), (4, _), (6, _)] ?_; refine WC.seq ?_; refine WC.drawH (fun h' => Ext (fun q => q = b4) h3 h') 6 6 rfl fol ?_; refine WH.tk 0 rfl (fun hq hC => ok_loadN (fun w => Tryz.isAgg135 w) (fun w => Tryz.sizeOf135 w) rfl rfl (by exact (At.of_block hb63).ext hC n64)) rfl rfl rfl ?_; refine WH.tk 1 rfl (fun hq hC => ok_move rfl) rfl rfl rfl ?_; refine WH.tk 2 rfl (fun hq hC => ok_loadN (fun w => Tryz.isAgg135 w) (fun w => Tryz.sizeOf135 w) rfl rfl (by exact (At.of_block hb63).ext hC n64)) rfl rfl rfl ?_; refine WH.one 3 (by kernel_rfl) ?_; refine Comes1.call (vs := [_, _]) rfl rfl (fun a w => Tryz.call131 a w) rfl (aborted_no hst k3) rfl rfl rfl ?_ (fun _ => by kernel_rfl); rintro _ h4 ⟨rfl, hx4⟩; refine ⟨fun _ => hx4.mono fun _ _ e => e.elim, ?_⟩; (have hC4 : Ext (fun q => q = b4) h3 h4 := hx4.mono fun _ _ e => e.elim); refine WH.one 4 (by kernel_rfl) ?_; refine Comes1.run0 rfl (okE_storeW (fun w => Tryz.sizeOf135 w) rfl rfl rfl (hx4.obj hb43 nos) rfl (by simp [Value.oneCell'])) rfl rfl ?_ (fun _ => by kernel_rfl); rintro _ h5 ⟨hb5, hx5⟩; refine ⟨fun _ => hC4.trans hx5, ?_⟩; have hC5 := hC4.trans hx5; refine WH.tk 5 rfl (fun hq hC => ok_assign rfl) rfl rfl rfl ?_; refine WH.done (by kernel_rfl) ?_; refine Gn ?_; refine Gs [(4, _), (5, _)] ?_; refine WC.ret ?_; repeat' (with_reducible first | refine thenP_r ?_ | refine blockP_r ?_))
  all_goals (refine retP_2 _ _ ⟨⟨_, rfl, ld_blk (fun w => Tryz.isAgg135 w) (fun w => Tryz.sizeOf135 w) hb5 rfl⟩, rfl, trivial⟩ ?_; exact ⟨rfl, (hx1.trans X3).trans' hC5 (fun q hq e => by omega)⟩)
/-- What a portal of "begin" holds. -/
def pB : List UInt8 × List Int × List (Bool × List UInt8) × List (List (Bool × List UInt8)) × Bool × Bool := (beginL, [], [], [], false, false)
def PDb : PD := ⟨beginL, .slice none 0 0, [], .slice none 0 0, [], .slice none 0 0, [], false, false⟩
theorem pdb_ok (h : Heap) : PDb.ok h := ⟨Rd.nil _ _, by simp [PDb], cels_zero h _, ⟨Rd.nil _ _, ⟨by simp [PDb], _, _, rfl, by decide⟩, by simp [PDb]⟩⟩
set_option maxHeartbeats 2000000 in
set_option maxRecDepth 100000 in
/-- A B of the unnamed portal. -/
theorem bind_s {n : List UInt8} (hst : st ≠ 69) (hl : alook L n = some (.agg ⟨[St beginL, nS]⟩)) (k : Se h bs ms bp mp be me st sk ov cnt L [] R) : CallsH Tryz.prog 47 ⟨[.pointer (some ⟨bs, 0, none⟩), .agg ⟨[.int .u8 66, .int .u8 0, St n, St [], St [], nS, nS, nS, nS, In 0]⟩]⟩ h fun u h' =>
    ∃ A m c p d, u = .tuple ⟨[.slice A m c, .nilIface]⟩ ∧ Se h' bs ms bp mp be me st sk ov cnt L [([], .pointer (some ⟨p, 0, none⟩))] R ∧ h'[p]? = some (.cells ⟨PD.cells d⟩ 147 (0, 0)) ∧ d.ok h' ∧ d.pl = pB ∧ (∀ q, d.F q → q ≠ p) ∧ Kf h h' ∧ Ext (fun q => q = mp) h h' ∧ h.size ≤ p := by
  have kp := fun (g : Heap) (k : Se g bs ms bp mp be me st sk ov cnt L [] R) => put_e [] PDb k.pb k.pm (pdb_ok g) (.inl rfl)
  unfold PDb PD.cells at kp
  refine calls [(0, _), (1, _)] Tryz.func47 rfl Tryz.ntmps47 rfl ⟨rfl, rfl, trivial⟩ ?_
  all_goals (refine WC.sr ?_; refine WL.stepR (okE_box rfl) rfl rfl rfl ?_; rintro _ h1 ⟨b3, rfl, hg1, hb1, hx1⟩; refine Go ?_; refine WC.sr ?_; refine Go ?_; refine WL.ld rfl (by first | exact cell_blk hb1 rfl | assumption | exact cell_blk (by assumption) rfl) rfl rfl rfl ?_; refine WL.call (vs := [_, _]) rfl (fun a w => Tryz.call83 a w) rfl (stmt_s hst hl (k.ext0 hx1)) rfl rfl rfl ?_; rintro _ h2 ⟨rfl, hx2⟩; refine Go ?_; refine WL.stepR (okE_alloc (fun w => Tryz.zeroValue135 w)) rfl rfl rfl ?_; rintro _ h3 ⟨b6, rfl, hg3, hb3, hx3⟩; refine WL.stepR0 (okE_storeW (fun w => Tryz.sizeOf135 w) rfl rfl rfl hb3 rfl (by simp [Value.oneCell'])) rfl rfl ?_; rintro _ h4 ⟨hb4, hx4⟩; have X14 : Ext No h1 h4 := hx2.trans (hx3.trans' hx4 (fun q hq e => by omega)); have hb14 := X14.obj hb1 nos; have k4 := k.ext0 (hx1.trans X14); have hbs := k4.blk; refine Go ?_; refine Gs [(0, _), (3, _), (6, _), (7, _)] ?_; refine WC.seq ?_; refine WC.sr ?_; refine Go ?_; refine WL.step (ok_neqIn (by kernel_rfl) rfl rfl) rfl rfl rfl ?_; refine Gn ?_; refine goC 1 2 ?_ TT.mk; refine goB 2 ?_; refine WC.skip ?_; refine Gn ?_; refine WC.seq ?_; refine WC.seq ?_; refine WC.drawE fol (by kernel_rfl) ?_; refine WQ.stepE (ok_fieldAddr rfl Tryz.underlying32 rfl (fun w => Tryz.sizeOf30 w)) rfl rfl rfl ?_; refine WQ.stepE (ok_load (fun w => Tryz.isAgg30 w) rfl (by first | exact cell_blk hb14 rfl | assumption | exact cell_blk (by assumption) rfl)) rfl rfl rfl ?_; refine WQ.stepE (ok_lenL rfl Tryz.underlying30 rfl) rfl rfl rfl ?_; refine WQ.stepE (ok_fieldAddr rfl Tryz.underlying135 rfl (fun w => Tryz.sizeOf29 w)) rfl rfl rfl ?_; refine WQ.stepE (ok_load (fun w => Tryz.isAgg29 w) rfl (by first | exact cell_blk hb4 rfl | assumption | exact cell_blk (by assumption) rfl)) rfl rfl rfl ?_; refine WQ.stepE (ok_lenL rfl Tryz.underlying29 rfl) rfl rfl rfl ?_; refine WQ.stepE (ok_assign rfl) rfl rfl rfl ?_; refine WQ.stepE (ok_assign rfl) rfl rfl rfl ?_; refine WQ.nil ?_; refine Gn ?_; refine Gs [(0, _), (3, _), (6, _), (8, _), (9, _)] ?_; refine WC.sr ?_; refine Go ?_; refine goC 3 4 ?_ TT.mk; refine goB 4 ?_; refine WC.skip ?_; refine Gn ?_; refine Gs [(0, _), (3, _), (6, _)] ?_; refine WC.seq ?_; refine WC.seq ?_; refine WC.drawT 10 fol (by kernel_rfl) ?_; show WS _ _ _ [_, _, _, _, _, _, _, _, _, _] _ _ _)
  all_goals (refine WS.step (ok_move rfl) rfl rfl rfl ?_; refine WS.step (ok_nilCheck rfl) rfl rfl rfl ?_; refine WS.step (ok_fieldAddr rfl Tryz.underlying54 rfl (fun w => Tryz.sizeOf51 w)) rfl rfl rfl ?_; refine WS.step (ok_load (fun w => Tryz.isAgg51 w) rfl (by first | exact cell_blk hbs rfl | assumption | exact cell_blk (by assumption) rfl)) rfl rfl rfl ?_; refine WS.step (ok_fieldAddr rfl Tryz.underlying32 rfl (fun w => Tryz.sizeOf9 w)) rfl rfl rfl ?_; refine WS.step (ok_load (fun w => Tryz.isAgg9 w) rfl (by first | exact cell_blk hb14 rfl | assumption | exact cell_blk (by assumption) rfl)) rfl rfl rfl ?_; refine WS.step (ok_loadN (fun w => Tryz.isAgg135 w) (fun w => Tryz.sizeOf135 w) rfl rfl (by exact At.of_block hb4)) rfl rfl rfl ?_; refine WS.step (ok_fieldAddr rfl Tryz.underlying32 rfl (fun w => Tryz.sizeOf30 w)) rfl rfl rfl ?_; refine WS.step (ok_load (fun w => Tryz.isAgg30 w) rfl (by first | exact cell_blk hb14 rfl | assumption | exact cell_blk (by assumption) rfl)) rfl rfl rfl ?_; refine WS.step (ok_buildF (vs := [_, _]) (cs := [_, _, _, _, _, _]) (fun | [.agg ⟨[a0, a1]⟩, a2] => [a0, a1, a2, (.slice none 0 0), (.bool false), (.bool false)] | _ => []) rfl rfl (by kernel_rfl)) rfl rfl rfl ?_; refine WS.nil ?_; show WL _ _ _ [_, _] _ _ _)
  all_goals (refine WL.call (vs := [_, _, _]) rfl (fun a w => Tryz.call85 a w) rfl (kp _ k4) rfl rfl rfl ?_; rintro _ h5 ⟨rfl, p, d, hm5, hb5, ok5, pl5, hg5, hf5, hx5⟩; refine WL.step (OkP.nbool_f (by omega) (ok_neq rfl rfl)) rfl rfl rfl ?_; refine WL.nil ?_; refine Gn ?_; refine Gs [(3, _), (46, _)] ?_; refine goC 5 6 ?_ TT.mk; refine goB 6 ?_; refine WC.skip ?_; refine Gn ?_; refine WC.sr ?_; refine WL.call (vs := [_]) rfl (fun a w => Tryz.call82 a w) rfl (plain_v 50) rfl rfl rfl ?_; rintro _ h6 ⟨q, rfl, hq6, hgq, hx6⟩; refine Go ?_; refine Gt ?_; exact ⟨_, _, _, p, d, rfl, (k4.turnP hx5 hm5).ext0 hx6, hx6.obj hb5 nos, ok5.ext hx6 (fun _ _ => nos), pl5, fun q hq => (hf5 q hq).2, ((kf_no hx1).trans (kf_no X14)).trans ((kf_map k4.pm hx5).trans (kf_no hx6)), ((hx1.trans X14).mono fun _ _ e => e.elim).trans (hx5.trans (hx6.mono fun _ _ e => e.elim)), by have := hx1.size; have := X14.size; omega⟩)
set_option maxHeartbeats 2000000 in
set_option maxRecDepth 100000 in
theorem get_f {b m p : Nat} {es : List (List UInt8 × Value)} {name : List UInt8} {d : PD} (r : Pe h b m es p name d) :
    CallsH Tryz.prog 135 ⟨[.pointer (some ⟨b, 0, none⟩), St name]⟩ h fun u h' => (∃ d' : PD, u = .tuple ⟨[.agg ⟨d'.cells⟩, .bool true]⟩ ∧ d'.ok h' ∧ d'.pl = d.pl ∧ ∀ k, d'.F k → h.size ≤ k) ∧ Ext No h h' := by
  refine calls [(0, _), (1, _)] Tryz.func135 rfl Tryz.ntmps135 rfl ⟨rfl, rfl, trivial⟩ ?_
  all_goals (refine WC.sr ?_; refine WL.stepR (okE_alloc (fun w => Tryz.zeroValue147 w)) rfl rfl rfl ?_; rintro _ h1 ⟨b1, rfl, hg1, hb1, hx1⟩; have r1 := r.ext0 hx1; refine Go ?_; refine WC.sr ?_; refine Go ?_; refine WL.call (vs := [_, _]) rfl (fun a w => Tryz.call142 a w) rfl (of_e r1) rfl rfl rfl ?_; rintro _ hz ⟨rfl, _⟩; subst hz; refine Go ?_; refine Gs [(4, _), (6, _), (7, _)] ?_; refine WC.seq ?_; refine WC.sr ?_; refine Go ?_; refine goC 1 2 ?_ TT.mk; refine goB 2 ?_; refine WC.skip ?_; refine Gn ?_; refine WC.sr ?_; refine Go ?_; refine WL.step (ok_nilCheck rfl) rfl rfl rfl ?_; refine WL.step (ok_loadN (fun w => Tryz.isAgg147 w) (fun w => Tryz.sizeOf147 w) rfl rfl (by exact At.of_block r1.blk)) rfl rfl rfl ?_; refine WL.call (vs := [_]) rfl (fun a w => Tryz.call134 a w) rfl (own_port d r1.ok) rfl rfl rfl ?_; rintro _ h2 ⟨d2, rfl, ok2, pl2, hx2, hf2⟩; refine WL.stepR0 (okE_storeW (fun w => Tryz.sizeOf147 w) rfl rfl rfl (hx2.obj hb1 nos) rfl (pd_one ok2)) rfl rfl ?_; rintro _ h3 ⟨hb3, hx3⟩; refine Go ?_; refine Gs [(4, _), (5, _)] ?_; refine WC.ret ?_; repeat' (with_reducible first | refine thenP_r ?_ | refine blockP_r ?_))
  all_goals (refine retP_2 _ _ ⟨⟨_, rfl, ld_blk (fun w => Tryz.isAgg147 w) (fun w => Tryz.sizeOf147 w) (by assumption) rfl⟩, rfl, trivial⟩ ?_; exact ⟨⟨d2, rfl, ok2.ext hx3 (fun k hk e => by have := hf2 k hk; have := lt_of_some hb1; omega), pl2, fun k hk => by have := hf2 k hk; have := hx1.size; omega⟩, (hx1.trans hx2).trans' hx3 (fun k hk e => by omega)⟩)
set_option maxHeartbeats 2000000 in
set_option maxRecDepth 100000 in
theorem portal_s {p : Nat} {d : PD} (hst : st ≠ 69) (k : Se h bs ms bp mp be me st sk ov cnt L [([], .pointer (some ⟨p, 0, none⟩))] R) (hp : h[p]? = some (.cells ⟨PD.cells d⟩ 147 (0, 0))) (ok : d.ok h) (ap : ∀ q, d.F q → q ≠ p) :
    CallsH Tryz.prog 88 ⟨[.pointer (some ⟨bs, 0, none⟩), St []]⟩ h fun u h' => ∃ d' : PD, u = .tuple ⟨[.agg ⟨d'.cells⟩, .nilIface]⟩ ∧ d'.ok h' ∧ d'.pl = d.pl ∧ Ext No h h' := by
  have kg := fun (g : Heap) (k : Se g bs ms bp mp be me st sk ov cnt L [([], .pointer (some ⟨p, 0, none⟩))] R) (hp : g[p]? = some (.cells ⟨PD.cells d⟩ 147 (0, 0))) (ok : d.ok g) => get_f (⟨k.pb, k.pm, rfl, hp, ok, ap⟩ : Pe g bp mp _ p [] d)
  refine calls [(0, _), (1, _)] Tryz.func88 rfl Tryz.ntmps88 rfl ⟨rfl, rfl, trivial⟩ ?_
  all_goals (refine WC.sr ?_; refine WL.stepR (okE_alloc (fun w => Tryz.zeroValue147 w)) rfl rfl rfl ?_; rintro _ h1 ⟨b4, rfl, hg1, hb4, hx1⟩; refine Go ?_; refine WC.sr ?_; have k1 := k.ext0 hx1; have hb := k1.blk; have l4 := lt_of_some hb4; refine WL.step (ok_move rfl) rfl rfl rfl ?_; refine WL.step (ok_nilCheck rfl) rfl rfl rfl ?_; refine Go ?_; refine WL.ld rfl (by first | exact cell_blk hb rfl | assumption | exact cell_blk (by assumption) rfl) rfl rfl rfl ?_; refine Go ?_; refine WL.call (vs := [_, _]) rfl (fun a w => Tryz.call135 a w) rfl (kg _ k1 (hx1.obj hp nos) (ok.ext hx1 (fun _ _ => nos))) rfl rfl rfl ?_; rintro _ h2 ⟨⟨d2, rfl, ok2, pl2, hf2⟩, hx2⟩; refine Go ?_; refine WL.stepR (okE_alloc (fun w => Tryz.zeroValue147 w)) rfl rfl rfl ?_; rintro _ h3 ⟨b6, rfl, hg3, hb6, hx3⟩; refine WL.stepR0 (okE_storeW (fun w => Tryz.sizeOf147 w) rfl rfl rfl hb6 rfl (pd_one ok2)) rfl rfl ?_; rintro _ h4 ⟨hb64, hx4⟩; have X14 : Ext No h1 h4 := hx2.trans (hx3.trans' hx4 (fun q hq e => by omega)); have k4 := k1.ext0 X14; have ok4 := ok2.ext (hx3.trans' (S := No) hx4 (fun q hq e => by omega)) (fun _ _ => nos); have hb44 := X14.obj hb4 nos; (have n64 : ¬ b6 = b4 := by have := hx2.size; omega); obtain ⟨text, vo, oids, vp, ps, vr, rs, ran, over⟩ := d2; dsimp only [PD.cells] at hb64)
  all_goals (refine Go ?_; refine Gs [(0, _), (1, _), (4, _), (6, _), (7, _)] ?_; refine WC.seq ?_; refine WC.sr ?_; refine Go ?_; refine goC 1 2 ?_ TT.mk; refine goB 2 ?_; refine WC.skip ?_; refine Gn ?_; refine Gs [(0, _), (4, _), (6, _)] ?_; refine WC.seq ?_; refine WC.drawH (fun h' => Ext (fun q => q = b4) h4 h') 7 7 rfl fol ?_; refine WH.tk 0 rfl (fun hq hC => ok_loadN (fun w => Tryz.isAgg147 w) (fun w => Tryz.sizeOf147 w) rfl rfl (by exact (At.of_block hb64).ext hC n64)) rfl rfl rfl ?_; refine WH.tk 1 rfl (fun hq hC => ok_move rfl) rfl rfl rfl ?_; refine WH.tk 2 rfl (fun hq hC => ok_fieldAddr rfl Tryz.underlying147 rfl (fun w => Tryz.sizeOf135 w)) rfl rfl rfl ?_; refine WH.tk 3 rfl (fun hq hC => ok_loadN (fun w => Tryz.isAgg135 w) (fun w => Tryz.sizeOf135 w) rfl rfl (by exact At.pre (xs := [_, _]) (ys := [_, _, _, _]) ((At.of_block hb64).ext hC n64))) rfl rfl rfl ?_; refine WH.one 4 (by kernel_rfl) ?_; refine Comes1.call (vs := [_, _]) rfl rfl (fun a w => Tryz.call131 a w) rfl (aborted_no hst k4) rfl rfl rfl ?_ (fun _ => by kernel_rfl); rintro _ h5 ⟨rfl, hx5⟩; refine ⟨fun _ => hx5.mono fun _ _ e => e.elim, ?_⟩; (have hC5 : Ext (fun q => q = b4) h4 h5 := hx5.mono fun _ _ e => e.elim); refine WH.one 5 (by kernel_rfl) ?_; refine Comes1.run0 rfl (okE_storeW (fun w => Tryz.sizeOf147 w) rfl rfl rfl (hx5.obj hb44 nos) rfl (pd_one ok4)) rfl rfl ?_ (fun _ => by kernel_rfl); rintro _ h6 ⟨hb6', hx6⟩; refine ⟨fun _ => hC5.trans hx6, ?_⟩; have hC6 := hC5.trans hx6; refine WH.tk 6 rfl (fun hq hC => ok_assign rfl) rfl rfl rfl ?_; refine WH.done (by kernel_rfl) ?_; refine Gn ?_; refine Gs [(4, _), (5, _)] ?_; refine WC.ret ?_; repeat' (with_reducible first | refine thenP_r ?_ | refine blockP_r ?_))
  all_goals (refine retP_2 _ _ ⟨⟨_, rfl, ld_blk (fun w => Tryz.isAgg147 w) (fun w => Tryz.sizeOf147 w) hb6' rfl⟩, rfl, trivial⟩ ?_; exact ⟨⟨text, vo, oids, vp, ps, vr, rs, ran, over⟩, rfl, (ok4.ext hx5 (fun _ _ => nos)).ext hx6 (fun q hq e => by subst e; have := hf2 _ hq; omega), pl2, (hx1.trans X14).trans' hC6 (fun q hq e => by omega)⟩)
end
end Go.Proofs.YtbokngiajfdanaaGreatDoor


/-
  SESSIONS (layers 26, 27, 29), by the code: what may be; a transaction's status.
-/
namespace Go.Proofs.YtbokngiajfdanaaGreatDoor
open Go Go.RK

def exitB (v : VeD) : Bool := decide (v.k = 3 ∨ v.k = 4)
def rowsB (v : VeD) : Bool := decide (v.k = 5 ∨ v.k = 6 ∨ v.k = 7)
theorem exitD_v {h : Heap} (v : VeD) : CallsH Tryz.prog 151 ⟨[.agg ⟨v.cells⟩]⟩ h fun u h' => u = .bool (exitB v) ∧ Ext No h h' := exit_v v.k v.n v.c
theorem rowsD_v {h : Heap} (v : VeD) : CallsH Tryz.prog 90 ⟨[.agg ⟨v.cells⟩]⟩ h fun u h' => u = .bool (rowsB v) ∧ Ext No h h' := rowsV_v v.k v.n v.c
/-- A status. -/
def StOk (st : Int) : Prop := st = 73 ∨ st = 84 ∨ st = 69
set_option maxHeartbeats 2000000 in
set_option maxRecDepth 100000 in
theorem heldD_v {h : Heap} {st : Int} (hs : StOk st) : CallsH Tryz.prog 102 ⟨[.int .u8 st]⟩ h fun u h' => u = .int .u8 st ∧ h' = h := by
  have kr : CallsH Tryz.prog 153 ⟨[.int .u8 st]⟩ h fun u h' => u = .bool true ∧ h' = h := by
    rcases hs with rfl | rfl | rfl
    all_goals
      refine calls [(0, _)] Tryz.func153 rfl Tryz.ntmps153 rfl ⟨rfl, trivial⟩ ?_
      all_goals (refine WC.sr ?_; refine Go ?_; refine WC.seq ?_; refine WC.sr ?_; refine Go ?_; refine WC.block ?_; refine WC.seq ?_; refine WC.sr ?_; refine Go ?_; refine goC 1 2 ?_ TT.mk)
      all_goals (first | (fail_if_success refine goB 1 ?_) | (
      refine goB 1 ?_
      all_goals (refine WC.skip ?_)
      skip))
      all_goals (first | (fail_if_success refine goB 2 ?_) | (
      refine goB 2 ?_
      all_goals (refine WC.sr ?_; refine Go ?_; refine Gs [(3, _), (4, _)] ?_; refine goC 3 4 ?_ TT.mk)
      all_goals (first | (fail_if_success refine goB 3 ?_) | (
      refine goB 3 ?_
      all_goals (refine WC.skip ?_)
      skip))
      all_goals (first | (fail_if_success refine goB 4 ?_) | (
      refine goB 4 ?_
      all_goals (refine WC.region ?_; refine Go ?_)
      skip))
      skip))
      all_goals (refine Gn ?_; refine goC 5 6 ?_ TT.mk; refine goB 5 ?_; refine WC.sr ?_; refine Go ?_; refine Gt ?_; exact ⟨rfl, rfl⟩)
  refine calls [(0, _)] Tryz.func102 rfl Tryz.ntmps102 rfl ⟨rfl, trivial⟩ ?_
  all_goals (refine WC.sr ?_; refine Go ?_; refine WC.seq ?_; refine WC.sr ?_; refine Go ?_; refine WL.call (vs := [_]) rfl (fun a w => Tryz.call153 a w) rfl (kr) rfl rfl rfl ?_; rintro _ hz ⟨rfl, _⟩; subst hz; refine Go ?_; refine goC 1 2 ?_ TT.mk; refine goB 2 ?_; refine WC.skip ?_; refine Gn ?_; refine Gs [(0, _)] ?_; refine WC.sr ?_; refine Go ?_; refine Gt ?_; exact ⟨rfl, rfl⟩)
def failP (st : Int) : Int := if st = 84 then 69 else st
theorem failP_ok {st : Int} (hs : StOk st) : StOk (failP st) := by
  rcases hs with rfl | rfl | rfl
  · exact .inl rfl
  · exact .inr (.inr rfl)
  · exact .inr (.inr rfl)
set_option maxHeartbeats 2000000 in
set_option maxRecDepth 100000 in
theorem txfail_v {h : Heap} {st : Int} (hs : StOk st) : CallsH Tryz.prog 56 ⟨[.int .u8 st]⟩ h fun u h' => u = .int .u8 (failP st) ∧ h' = h := by
  have kh := fun h' => heldD_v (h := h') hs
  rcases hs with rfl | rfl | rfl
  all_goals
    refine calls [(0, _)] Tryz.func56 rfl Tryz.ntmps56 rfl ⟨rfl, trivial⟩ ?_
    all_goals (refine WC.sr ?_; refine Go ?_; refine WC.seq ?_; refine WC.sr ?_; refine Go ?_; refine WL.call (vs := [_]) rfl (fun a w => Tryz.call102 a w) rfl (kh _) rfl rfl rfl ?_; rintro _ hz ⟨rfl, _⟩; subst hz; refine Go ?_; refine WC.sr ?_; refine Go ?_; refine Gs [(0, _), (6, _)] ?_; refine goC 1 2 ?_ TT.mk)
    all_goals (first | (fail_if_success refine goB 1 ?_) | (
    refine goB 1 ?_
    all_goals (refine WC.sr ?_; refine Go ?_; refine Gt ?_; exact ⟨rfl, rfl⟩)
    skip))
    all_goals (refine goB 2 ?_; refine WC.skip ?_; refine Gn ?_; refine WC.sr ?_; refine Go ?_; refine Gt ?_; exact ⟨rfl, rfl⟩)
def endP (st : Int) (v : VeD) : List UInt8 := if v.k = 4 ∨ st = 69 then ([82, 79, 76, 76, 66, 65, 67, 75] : List UInt8) else ([67, 79, 77, 77, 73, 84] : List UInt8)
set_option maxHeartbeats 2000000 in
set_option maxRecDepth 100000 in
theorem txend_v {h : Heap} {st : Int} (v : VeD) : CallsH Tryz.prog 195 ⟨[.int .u8 st, .agg ⟨v.cells⟩]⟩ h fun u h' => u = St (endP st v) ∧ Ext No h h' := by
  unfold VeD.cells veC
  rcases (show endP st v = ([82, 79, 76, 76, 66, 65, 67, 75] : List UInt8) ∧ v.k = 4 ∨ endP st v = ([82, 79, 76, 76, 66, 65, 67, 75] : List UInt8) ∧ v.k ≠ 4 ∧ st = 69 ∨ endP st v = ([67, 79, 77, 77, 73, 84] : List UInt8) ∧ v.k ≠ 4 ∧ st ≠ 69 by
    unfold endP
    by_cases e1 : v.k = 4
    · exact .inl ⟨if_pos (.inl e1), e1⟩
    · by_cases e2 : st = 69
      · exact .inr (.inl ⟨if_pos (.inr e2), e1, e2⟩)
      · exact .inr (.inr ⟨if_neg (fun e => e.elim e1 e2), e1, e2⟩)) with ⟨e, h1⟩ | ⟨e, h1, h2⟩ | ⟨e, h1, h2⟩
  all_goals
    refine calls [(0, _), (1, _)] Tryz.func195 rfl Tryz.ntmps195 rfl ⟨rfl, rfl, trivial⟩ ?_
    all_goals (refine WC.sr ?_; refine WL.stepR (okE_box rfl) rfl rfl rfl ?_; rintro _ g1 ⟨b1, rfl, hg1, hb1, hx1⟩; refine Go ?_; refine WC.seq ?_; refine WC.sr ?_; refine Go ?_; refine Ld ?_; refine Go ?_; refine goP 8 ?_ TT.mk; refine Gg ?_; refine Go ?_; refine Gs [(11, _)] ?_; refine goC 1 2 ?_ TT.mk)
    all_goals (first | (fail_if_success refine goB 1 ?_) | (
    refine goB 1 ?_
    all_goals (refine WC.sr ?_; refine Go ?_; refine Gt ?_; exact ⟨by rw [e], hx1⟩)
    skip))
    all_goals (refine goB 2 ?_; refine WC.skip ?_; refine Gn ?_; refine WC.sr ?_; refine Go ?_; refine Gt ?_; exact ⟨by rw [e], hx1⟩)
def nextP (st : Int) (v : VeD) : Int × List UInt8 := if exitB v = true then (73, endP st v) else if v.k ≠ 2 then (st, []) else (if st = 73 then 84 else st, ([66, 69, 71, 73, 78] : List UInt8))
theorem nextP_ok {st : Int} (hs : StOk st) (v : VeD) : StOk (nextP st v).1 := by
  unfold nextP
  split
  · exact .inl rfl
  · split
    · exact hs
    · dsimp only
      split
      · exact .inr (.inl rfl)
      · exact hs
set_option maxHeartbeats 2000000 in
set_option maxRecDepth 100000 in
theorem txnext_v {h : Heap} {st : Int} (hs : StOk st) (v : VeD) : CallsH Tryz.prog 150 ⟨[.int .u8 st, .agg ⟨v.cells⟩]⟩ h fun u h' => u = .tuple ⟨[.int .u8 (nextP st v).1, St (nextP st v).2]⟩ ∧ Ext No h h' := by
  have kh := fun h' => heldD_v (h := h') hs
  have kx := fun h' => exitD_v (h := h') v
  have ke := fun h' => txend_v (h := h') (st := st) v
  unfold VeD.cells veC at *
  rcases (show exitB v = true ∧ nextP st v = (73, endP st v) ∨ exitB v = false ∧ v.k ≠ 2 ∧ nextP st v = (st, []) ∨ exitB v = false ∧ v.k = 2 ∧ st = 73 ∧ nextP st v = (84, ([66, 69, 71, 73, 78] : List UInt8)) ∨ exitB v = false ∧ v.k = 2 ∧ st ≠ 73 ∧ nextP st v = (st, ([66, 69, 71, 73, 78] : List UInt8)) by
    unfold nextP
    cases e1 : exitB v
    · by_cases e2 : v.k = 2
      · by_cases e3 : st = 73
        · exact .inr (.inr (.inl ⟨rfl, e2, e3, by simp [e2, e3]⟩))
        · exact .inr (.inr (.inr ⟨rfl, e2, e3, by simp [e2, e3]⟩))
      · exact .inr (.inl ⟨rfl, e2, by simp [e2]⟩)
    · exact .inl ⟨rfl, by simp⟩) with ⟨e, e4⟩ | ⟨e, h1, e4⟩ | ⟨e, h1, h2, e4⟩ | ⟨e, h1, h2, e4⟩
  all_goals
    rw [e] at kx
    refine calls [(0, _), (1, _)] Tryz.func150 rfl Tryz.ntmps150 rfl ⟨rfl, rfl, trivial⟩ ?_
    all_goals (refine WC.sr ?_; refine WL.stepR (okE_box rfl) rfl rfl rfl ?_; rintro _ g1 ⟨b1, rfl, hg1, hb1, hx1⟩; refine Go ?_; refine WC.sr ?_; refine Go ?_; refine WL.call (vs := [_]) rfl (fun a w => Tryz.call102 a w) rfl (kh _) rfl rfl rfl ?_; rintro _ hz ⟨rfl, _⟩; subst hz; refine Go ?_; refine Gs [(0, _), (3, _)] ?_; refine WC.seq ?_; refine WC.sr ?_; refine WL.step (ok_loadN (fun w => Tryz.isAgg152 w) (fun w => Tryz.sizeOf152 w) rfl rfl (by exact At.of_block hb1)) rfl rfl rfl ?_; refine WL.call (vs := [_]) rfl (fun a w => Tryz.call151 a w) rfl (kx _) rfl rfl rfl ?_; rintro _ g2 ⟨rfl, hx2⟩; have hb2 := hx2.obj hb1 nos; have X2 := hx1.trans hx2; refine Gn ?_; refine goC 1 2 ?_ TT.mk)
    all_goals (first | (fail_if_success refine goB 1 ?_) | (
    refine goB 1 ?_
    all_goals (refine WC.sr ?_; refine Go ?_; refine WL.step (ok_loadN (fun w => Tryz.isAgg152 w) (fun w => Tryz.sizeOf152 w) rfl rfl (by exact At.of_block hb2)) rfl rfl rfl ?_; refine WL.call (vs := [_, _]) rfl (fun a w => Tryz.call195 a w) rfl (ke _) rfl rfl rfl ?_; rintro _ g3 ⟨rfl, hx3⟩; have X2 := X2.trans hx3; refine Go ?_; refine Gs [(4, _), (5, _)] ?_; refine Gt ?_; exact ⟨by rw [e4], X2⟩)
    skip))
    all_goals (refine goB 2 ?_; refine WC.skip ?_; refine Gn ?_; refine WC.seq ?_; refine WC.sr ?_; refine Go ?_; refine WL.ld rfl (by first | exact cell_blk hb2 rfl | assumption | exact cell_blk (by assumption) rfl) rfl rfl rfl ?_; refine Go ?_; refine Gs [(0, _), (15, _)] ?_; refine goC 3 4 ?_ TT.mk)
    all_goals (first | (fail_if_success refine goB 3 ?_) | (
    refine goB 3 ?_
    all_goals (refine WC.sr ?_; refine Go ?_; refine Gt ?_; exact ⟨by rw [e4], X2⟩)
    skip))
    all_goals (refine goB 4 ?_; refine WC.skip ?_; refine Gn ?_; refine WC.seq ?_; refine WC.sr ?_; refine Go ?_; refine goC 5 6 ?_ TT.mk)
    all_goals (first | (fail_if_success refine goB 5 ?_) | (
    refine goB 5 ?_
    all_goals (refine WC.region ?_; refine Go ?_)
    skip))
    all_goals (first | (fail_if_success refine goB 6 ?_) | (
    refine goB 6 ?_
    all_goals (refine WC.skip ?_)
    skip))
    all_goals (refine Gn ?_; refine WC.sr ?_; refine Go ?_; refine Gs [(4, _), (5, _)] ?_; refine Gt ?_; exact ⟨by rw [e4], X2⟩)
def colN (v : VeD) (oids : Nat) : Int := if v.k = 6 then ((min oids 1000 : Nat) : Int) else if rowsB v = true then 1 else 0
set_option maxHeartbeats 2000000 in
set_option maxRecDepth 100000 in
theorem columns_v {h : Heap} (v : VeD) (oids : Nat) : CallsH Tryz.prog 98 ⟨[.agg ⟨v.cells⟩, In (oids : Int)]⟩ h fun u h' => u = In (colN v oids) ∧ Ext No h h' := by
  have kx := fun h' => rowsD_v (h := h') v
  unfold VeD.cells veC at *
  rcases (show v.k = 6 ∧ colN v oids = ((min oids 1000 : Nat) : Int) ∨ v.k ≠ 6 ∧ rowsB v = true ∧ colN v oids = 1 ∨ v.k ≠ 6 ∧ rowsB v = false ∧ colN v oids = 0 by
    unfold colN
    by_cases e2 : v.k = 6
    · exact .inl ⟨e2, if_pos e2⟩
    · cases e1 : rowsB v
      · exact .inr (.inr ⟨e2, rfl, by simp [e2]⟩)
      · exact .inr (.inl ⟨e2, rfl, by simp [e2]⟩)) with ⟨h1, e4⟩ | ⟨h1, e, e4⟩ | ⟨h1, e, e4⟩
  all_goals
    try rw [e] at kx
    refine calls [(0, _), (1, _)] Tryz.func98 rfl Tryz.ntmps98 rfl ⟨rfl, rfl, trivial⟩ ?_
    all_goals (refine WC.sr ?_; refine WL.stepR (okE_box rfl) rfl rfl rfl ?_; rintro _ g1 ⟨b1, rfl, hg1, hb1, hx1⟩; refine Go ?_; refine WC.seq ?_; refine WC.block ?_; refine WC.sr ?_; refine Go ?_; refine Ld ?_; refine Go ?_; refine Gs [(1, _), (2, _), (5, _)] ?_; refine goC 1 2 ?_ TT.mk)
    all_goals (first | (fail_if_success refine goB 1 ?_) | (
    refine goB 1 ?_
    all_goals (refine WC.sr ?_; refine Go ?_; refine WL.step (ok_max2 rfl rfl) rfl rfl rfl ?_; refine WL.step (ok_min2 rfl rfl) rfl rfl rfl ?_; refine Go ?_; refine Gs [(4, _)] ?_; refine Gt ?_; refine ⟨by rw [e4] <;> (congr 1; omega), hx1⟩)
    skip))
    all_goals (refine goB 2 ?_; refine WC.sr ?_; refine WL.step (ok_loadN (fun w => Tryz.isAgg152 w) (fun w => Tryz.sizeOf152 w) rfl rfl (by exact At.of_block hb1)) rfl rfl rfl ?_; refine WL.call (vs := [_]) rfl (fun a w => Tryz.call90 a w) rfl (kx _) rfl rfl rfl ?_; rintro _ g2 ⟨rfl, hx2⟩; replace hx1 := hx1.trans hx2; refine Go ?_; refine Gs [(12, _)] ?_; refine goC 3 4 ?_ TT.mk)
    all_goals (first | (fail_if_success refine goB 3 ?_) | (
    refine goB 3 ?_
    all_goals (refine WC.sr ?_; refine Go ?_; refine Gt ?_; refine ⟨by rw [e4] <;> (congr 1; omega), hx1⟩)
    skip))
    all_goals (refine goB 4 ?_; refine WC.skip ?_; refine Gn ?_; refine WC.sr ?_; refine Go ?_; refine Gt ?_; refine ⟨by rw [e4] <;> (congr 1; omega), hx1⟩)
end Go.Proofs.YtbokngiajfdanaaGreatDoor


/-
  MAPS AND LISTS OF PAIRS, in plain Lean, at whatever key: what is set, let go and found is alike in both.
-/
namespace Go.Proofs.YtbokngiajfdanaaGreatDoor
open Go Go.RK

section
variable {κ α : Type} [DecidableEq κ]
def getK (L : List (κ × α)) (n : κ) : Option α := (L.find? fun p => decide (p.1 = n)).map (·.2)
def delK (L : List (κ × α)) (n : κ) : List (κ × α) := L.filter fun p => decide (p.1 ≠ n)
theorem getK_cons (p : κ × α) (L : List (κ × α)) (n : κ) : getK (p :: L) n = if p.1 = n then some p.2 else getK L n := by
  unfold getK
  rw [List.find?_cons]
  by_cases h : p.1 = n <;> simp [h]
theorem getK_mem {L : List (κ × α)} {n : κ} {v : α} (h : getK L n = some v) : (n, v) ∈ L := by
  unfold getK at h
  obtain ⟨p, hp, rfl⟩ := Option.map_eq_some_iff.1 h
  have h1 := List.find?_some hp
  simp at h1
  rw [← h1]
  exact List.mem_of_find?_eq_some hp
theorem getK_no {L : List (κ × α)} {n : κ} (h : getK L n = none) : ∀ p ∈ L, p.1 ≠ n := by
  unfold getK at h
  rw [Option.map_eq_none_iff, List.find?_eq_none] at h
  exact fun p hp e => h p hp (by simp [e])
theorem getK_none {L : List (κ × α)} {n : κ} (h : ∀ p ∈ L, p.1 ≠ n) : getK L n = none := by
  rcases hg : getK L n with _ | v
  · rfl
  · exact absurd rfl (h _ (getK_mem hg))
theorem getK_of {L : List (κ × α)} (hn : (L.map (·.1)).Nodup) {n : κ} {v : α} (h : (n, v) ∈ L) : getK L n = some v := by
  induction L with
  | nil => cases h
  | cons a L ih =>
    rw [getK_cons]
    simp only [List.map_cons, List.nodup_cons, List.mem_map, not_exists, not_and] at hn
    rcases List.mem_cons.1 h with rfl | h
    · rw [if_pos rfl]
    · rw [if_neg (fun e => hn.1 (n, v) h e.symm)]
      exact ih hn.2 h
theorem getK_keys {L : List (κ × α)} {n : κ} : (getK L n).isSome = true ↔ n ∈ L.map (·.1) := by
  constructor
  · intro h
    obtain ⟨v, hv⟩ := Option.isSome_iff_exists.1 h
    exact List.mem_map.2 ⟨_, getK_mem hv, rfl⟩
  · intro h
    obtain ⟨p, hp, rfl⟩ := List.mem_map.1 h
    rcases hg : getK L p.1 with _ | v
    · exact absurd rfl (getK_no hg p hp)
    · rfl
/-! ### maps -/
def encK (f : α → Value) (E : List (κ × α)) : List (κ × Value) := E.map fun p => (p.1, f p.2)
theorem alook_encK (f : α → Value) (E : List (κ × α)) (n : κ) : alook (encK f E) n = (getK E n).map f := by
  unfold alook encK getK
  induction E with
  | nil => rfl
  | cons a E ih =>
    simp only [List.map_cons, List.find?_cons]
    by_cases h : a.1 = n <;> simp [h] at ih ⊢
    exact ih
/-- What the map has behind a set. -/
def putK (E : List (κ × α)) (n : κ) (v : α) : List (κ × α) := if (getK E n).isSome = true then E.map (fun p => if p.1 = n then (n, v) else p) else E ++ [(n, v)]
theorem aput_encK (f : α → Value) (E : List (κ × α)) (n : κ) (v : α) : aput (encK f E) n (f v) = encK f (putK E n v) := by
  unfold aput putK
  rw [alook_encK]
  rcases getK E n with _ | w
  · simp [encK]
  · simp only [Option.map_some, Option.isSome_some, if_true, encK, List.map_map]
    refine List.map_congr_left fun p _ => ?_
    simp only [Function.comp]
    split <;> rfl
theorem adel_encK (f : α → Value) (E : List (κ × α)) (n : κ) : adel (encK f E) n = encK f (delK E n) := by
  unfold adel encK delK
  rw [List.filter_map]
  rfl
omit [DecidableEq κ] in
theorem encK_keys (f : α → Value) (E : List (κ × α)) : (encK f E).map (·.1) = E.map (·.1) := by simp [encK, List.map_map, Function.comp_def]
theorem putK_keys (L : List (κ × α)) (n : κ) (v : α) : (putK L n v).map (·.1) = if n ∈ L.map (·.1) then L.map (·.1) else L.map (·.1) ++ [n] := by
  unfold putK
  by_cases h : (getK L n).isSome = true
  · rw [if_pos h, if_pos (getK_keys.1 h), List.map_map]
    refine List.map_congr_left fun p _ => ?_
    simp only [Function.comp]
    split
    · rename_i e; exact e.symm
    · rfl
  · rw [if_neg h, if_neg (fun e => h (getK_keys.2 e))]
    simp
theorem putK_nd {L : List (κ × α)} (hn : (L.map (·.1)).Nodup) (n : κ) (v : α) : ((putK L n v).map (·.1)).Nodup := by
  rw [putK_keys]
  split
  · exact hn
  · rename_i h
    rw [List.nodup_append]
    exact ⟨hn, by simp, fun a ha b hb => by rw [List.mem_singleton.1 hb]; exact fun e => h (e ▸ ha)⟩
theorem getK_put {L : List (κ × α)} (hn : (L.map (·.1)).Nodup) (n m : κ) (v : α) : getK (putK L n v) m = if m = n then some v else getK L m := by
  by_cases e : m = n
  · subst e
    rw [if_pos rfl]
    refine getK_of (putK_nd hn m v) ?_
    unfold putK
    split
    · rename_i h
      obtain ⟨w, hw⟩ := Option.isSome_iff_exists.1 h
      exact List.mem_map.2 ⟨_, getK_mem hw, by simp⟩
    · simp
  · rw [if_neg e]
    rcases h : getK L m with _ | w
    · refine getK_none fun p hp e2 => ?_
      have : m ∈ (putK L n v).map (·.1) := e2 ▸ List.mem_map.2 ⟨p, hp, rfl⟩
      have hm : m ∉ L.map (·.1) := fun hm => by have := getK_keys.2 hm; rw [h] at this; cases this
      rw [putK_keys] at this
      split at this
      · exact hm this
      · rcases List.mem_append.1 this with h1 | h1
        · exact hm h1
        · exact e (List.mem_singleton.1 h1)
    · refine getK_of (putK_nd hn n v) ?_
      have := getK_mem h
      unfold putK
      split
      · exact List.mem_map.2 ⟨_, this, by simp [e]⟩
      · exact List.mem_append_left _ this
theorem getK_del (L : List (κ × α)) (n m : κ) : getK (delK L n) m = if m = n then none else getK L m := by
  induction L with
  | nil => simp [delK, getK]
  | cons a L ih =>
    unfold delK at ih ⊢
    rw [List.filter_cons]
    by_cases h : a.1 = n
    · rw [if_neg (by simp [h]), ih, getK_cons]
      by_cases e : m = n
      · simp [e]
      · rw [if_neg e, if_neg e, if_neg (fun e2 => e (by rw [← e2, h]))]
    · rw [if_pos (by simp [h]), getK_cons, getK_cons, ih]
      by_cases e : a.1 = m
      · rw [if_pos e, if_pos e, if_neg (fun e2 => h (by rw [e, e2]))]
      · rw [if_neg e, if_neg e]
end
end Go.Proofs.YtbokngiajfdanaaGreatDoor


/-
  SESSIONS (layer 30), by the code: what any session has; how it turns.
-/
namespace Go.Proofs.YtbokngiajfdanaaGreatDoor
open Go Go.RK

structure StD where
  text : List UInt8
  vo : Value
  oids : List Int
structure ItD where
  p : Nat
  d : PD
def stE (s : StD) : Value := .agg ⟨[St s.text, s.vo]⟩
def pcE (i : ItD) : Value := .pointer (some ⟨i.p, 0, none⟩)
/-- Where a session's parts are. -/
structure Ad where
  bs : Nat
  ms : Nat
  bp : Nat
  mp : Nat
  be : Nat
  me : Nat
/-- The blocks that are turned. -/
def Mu (A : Ad) (P : List (List UInt8 × ItD)) (q : Nat) : Prop := q = A.bs ∨ q = A.ms ∨ q = A.mp ∨ q = A.be ∨ ∃ r ∈ P, q = r.2.p
structure Ss (h : Heap) (A : Ad) (st : Int) (sk ov : Bool) (cnt : Int) (L : List (List UInt8 × StD)) (P : List (List UInt8 × ItD)) : Prop where
  se : Se h A.bs A.ms A.bp A.mp A.be A.me st sk ov cnt (encK stE L) (encK pcE P) []
  sok : ∀ q ∈ L, Rd h q.2.vo 1 q.2.oids.length (ints q.2.oids) ∧ q.2.oids.length ≤ 20000 ∧ ∀ k, 0 < q.2.oids.length → q.2.vo.ownBlock = some k → ¬ Mu A P k
  pok : ∀ q ∈ P, h[q.2.p]? = some (.cells ⟨q.2.d.cells⟩ 147 (0, 0)) ∧ q.2.d.ok h ∧ ∀ k, q.2.d.F k → ¬ Mu A P k
  dis : ∀ q ∈ P, ∀ r ∈ P, q.1 ≠ r.1 → q.2.p ≠ r.2.p
  sto : StOk st
  cok : 0 ≤ cnt ∧ cnt ≤ 1000000
/-- What was turned, and what is turned from now on. -/
def Tn (A : Ad) (P : List (List UInt8 × ItD)) (h h' : Heap) (P' : List (List UInt8 × ItD)) : Prop := Ext (Mu A P) h h' ∧ ∀ q, q < h.size → Mu A P' q → Mu A P q
theorem Tn.trans {A : Ad} {P P' P'' : List (List UInt8 × ItD)} {h h' h'' : Heap} (a : Tn A P h h' P') (b : Tn A P' h' h'' P'') : Tn A P h h'' P'' :=
  ⟨a.1.trans' b.1 (fun q hq e => a.2 q hq e), fun q hq e => a.2 q hq (b.2 q (by have := a.1.size; omega) e)⟩
theorem Tn.no {A : Ad} {P : List (List UInt8 × ItD)} {h h' : Heap} (x : Ext No h h') : Tn A P h h' P := ⟨x.mono fun _ _ e => e.elim, fun _ _ e => e⟩
theorem Tn.same {A : Ad} {P : List (List UInt8 × ItD)} {h h' : Heap} {S : Nat → Prop} (x : Ext S h h') (hS : ∀ q, S q → Mu A P q) : Tn A P h h' P := ⟨x.mono fun _ _ e => hS _ e, fun _ _ e => e⟩
theorem mem_putK {κ α : Type} [DecidableEq κ] {E : List (κ × α)} {n : κ} {v : α} {q : κ × α} (h : q ∈ putK E n v) : q = (n, v) ∨ (q ∈ E ∧ q.1 ≠ n) := by
  unfold putK at h
  split at h
  · obtain ⟨p, hp, rfl⟩ := List.mem_map.1 h
    by_cases e : p.1 = n
    · rw [if_pos e]; exact .inl rfl
    · rw [if_neg e]; exact .inr ⟨hp, e⟩
  · rename_i hg
    rcases List.mem_append.1 h with h | h
    · exact .inr ⟨h, fun e => hg (getK_keys.2 (List.mem_map.2 ⟨q, h, e⟩))⟩
    · exact .inl (List.mem_singleton.1 h)
theorem mem_delK {κ α : Type} [DecidableEq κ] {E : List (κ × α)} {n : κ} {q : κ × α} (h : q ∈ delK E n) : q ∈ E ∧ q.1 ≠ n := by
  unfold delK at h
  obtain ⟨h1, h2⟩ := List.mem_filter.1 h
  exact ⟨h1, by simpa using h2⟩
theorem cells_ne {h : Heap} {a b : Nat} {c d : Array Value} {T U : TypeId} {y z : Nat × Nat} (ha : h[a]? = some (.cells c T y)) (hb : h[b]? = some (.cells d U z)) (hT : T ≠ U) : a ≠ b := fun e => by
  subst e
  rw [ha] at hb
  simp only [Option.some.injEq, Obj.cells.injEq] at hb
  exact hT hb.2.1
section
variable {h h' : Heap} {A : Ad} {st st' : Int} {sk ov sk' ov' : Bool} {cnt cnt' : Int} {L : List (List UInt8 × StD)} {P : List (List UInt8 × ItD)} {S : Nat → Prop}
/-- Blocks of other types are none that is turned. -/
theorem Ss.not (k : Ss h A st sk ov cnt L P) {q : Nat} {cs : Array Value} {T : TypeId} (hq : h[q]? = some (.cells cs T (0, 0))) (h1 : T ≠ 54) (h2 : T ≠ 62) (h3 : T ≠ 147) : ¬ Mu A P q := fun e => by
  rcases e with e | e | e | e | ⟨r, hr, e⟩
  · exact cells_ne hq k.se.blk h1 e
  · exact mpNo k.se.stm hq e
  · exact mpNo k.se.pm hq e
  · exact cells_ne hq k.se.eb h2 e
  · exact cells_ne hq (k.pok r hr).1 h3 e
theorem Ss.notOwn (k : Ss h A st sk ov cnt L P) {v : Value} {T : TypeId} {sz n : Nat} {xs : List Value} (ho : Own h v T sz n xs) (h1 : T ≠ 54) (h2 : T ≠ 62) (h3 : T ≠ 147) : ∀ q, v.ownBlock = some q → ¬ Mu A P q := fun q hq => by
  obtain ⟨_, ⟨rfl, _⟩ | ⟨g, cap, cur, rfl, hg, _⟩⟩ := ho
  · cases hq
  · simp only [Value.ownBlock, Option.some.injEq] at hq
    subst hq
    exact k.not hg h1 h2 h3
theorem Ss.lt (k : Ss h A st sk ov cnt L P) {q : Nat} (e : Mu A P q) : q < h.size := by
  rcases e with e | e | e | e | ⟨r, hr, e⟩
  · exact e ▸ lt_of_some k.se.blk
  · exact e ▸ k.se.stm.lt
  · exact e ▸ k.se.pm.lt
  · exact e ▸ lt_of_some k.se.eb
  · exact e ▸ lt_of_some (k.pok r hr).1
theorem Ss.ext0 (k : Ss h A st sk ov cnt L P) (x : Ext No h h') : Ss h' A st sk ov cnt L P :=
  ⟨k.se.ext0 x, fun q hq => ⟨(k.sok q hq).1.ext0 x, (k.sok q hq).2⟩, fun q hq => ⟨x.obj (k.pok q hq).1 nos, (k.pok q hq).2.1.ext x (fun _ _ => nos), (k.pok q hq).2.2⟩, k.dis, k.sto, k.cok⟩
/-- The session itself turned. -/
theorem Ss.turnS (k : Ss h A st sk ov cnt L P) (x : Ext (fun z => z = A.bs) h h') (hb : h'[A.bs]? = some (.cells ⟨[.map (some A.ms), .pointer (some ⟨A.bp, 0, none⟩), .pointer (some ⟨A.be, 0, none⟩), .int .u8 st', .bool sk', .bool ov']⟩ 54 (0, 0))) (hs : StOk st') : Ss h' A st' sk' ov' cnt L P ∧ Tn A P h h' P :=
  ⟨⟨k.se.turnS x hb, fun q hq => ⟨(k.sok q hq).1.ext' x (fun z h0 hz e => (k.sok q hq).2.2 z h0 hz (.inl e)), (k.sok q hq).2⟩, fun q hq => ⟨x.obj (k.pok q hq).1 (fun e => cells_ne (k.pok q hq).1 k.se.blk (by decide) e), (k.pok q hq).2.1.ext x (fun z hz e => (k.pok q hq).2.2 z hz (.inl e)), (k.pok q hq).2.2⟩, k.dis, hs, k.cok⟩, Tn.same x (fun q e => .inl e)⟩
/-- The statements' map turned. -/
theorem Ss.turnL (k : Ss h A st sk ov cnt L P) {L' : List (List UInt8 × StD)} (x : Ext (fun z => z = A.ms) h h') (hm : Mp .string St h' A.ms (encK stE L')) (hL : ∀ q ∈ L', q ∈ L ∨ (Rd h q.2.vo 1 q.2.oids.length (ints q.2.oids) ∧ q.2.oids.length ≤ 20000 ∧ ∀ k, 0 < q.2.oids.length → q.2.vo.ownBlock = some k → ¬ Mu A P k)) : Ss h' A st sk ov cnt L' P ∧ Tn A P h h' P := by
  have e := k.se
  refine ⟨⟨⟨x.obj e.blk (mpNo e.stm e.blk), hm, x.obj e.pb (mpNo e.stm e.pb), e.pm.ext x (fun z => e.ne.1 z.symm), x.obj e.eb (mpNo e.stm e.eb), e.em.ext x (fun z => e.ne.2.1 z.symm), e.ne⟩, fun q hq => ?_, fun q hq => ⟨x.obj (k.pok q hq).1 (mpNo e.stm (k.pok q hq).1), (k.pok q hq).2.1.ext x (fun z hz e => (k.pok q hq).2.2 z hz (.inr (.inl e))), (k.pok q hq).2.2⟩, k.dis, k.sto, k.cok⟩, Tn.same x (fun q e => .inr (.inl e))⟩
  have := (hL q hq).elim (fun z => k.sok q z) id
  exact ⟨this.1.ext' x (fun z h0 hz e => this.2.2 z h0 hz (.inr (.inl e))), this.2⟩
/-- Portals let go. -/
theorem Ss.turnP (k : Ss h A st sk ov cnt L P) {P' : List (List UInt8 × ItD)} (x : Ext (fun z => z = A.mp) h h') (hm : Mp .string St h' A.mp (encK pcE P')) (hP : ∀ q ∈ P', q ∈ P) : Ss h' A st sk ov cnt L P' ∧ Tn A P h h' P' := by
  have e := k.se
  have hmu : ∀ q, Mu A P' q → Mu A P q := fun q z => by
    rcases z with z | z | z | z | ⟨r, hr, z⟩
    · exact .inl z
    · exact .inr (.inl z)
    · exact .inr (.inr (.inl z))
    · exact .inr (.inr (.inr (.inl z)))
    · exact .inr (.inr (.inr (.inr ⟨r, hP r hr, z⟩)))
  exact ⟨⟨⟨x.obj e.blk (mpNo e.pm e.blk), e.stm.ext x e.ne.1, x.obj e.pb (mpNo e.pm e.pb), hm, x.obj e.eb (mpNo e.pm e.eb), e.em.ext x (fun z => e.ne.2.2 z.symm), e.ne⟩,
    fun q hq => ⟨(k.sok q hq).1.ext' x (fun z h0 hz e => (k.sok q hq).2.2 z h0 hz (.inr (.inr (.inl e)))), (k.sok q hq).2.1, fun z h0 hz e => (k.sok q hq).2.2 z h0 hz (hmu _ e)⟩,
    fun q hq => ⟨x.obj (k.pok q (hP q hq)).1 (mpNo e.pm (k.pok q (hP q hq)).1), (k.pok q (hP q hq)).2.1.ext x (fun z hz e => (k.pok q (hP q hq)).2.2 z hz (.inr (.inr (.inl e)))), fun z hz e => (k.pok q (hP q hq)).2.2 z hz (hmu _ e)⟩,
    fun q hq r hr => k.dis q (hP q hq) r (hP r hr), k.sto, k.cok⟩, x.mono (fun q _ e => .inr (.inr (.inl e))), fun q _ => hmu q⟩
/-- A portal put. -/
theorem Ss.putP (k : Ss h A st sk ov cnt L P) {n : List UInt8} {p : Nat} {d : PD} (x : Ext (fun z => z = A.mp) h h') (hm : Mp .string St h' A.mp (encK pcE (putK P n ⟨p, d⟩))) (hp : h'[p]? = some (.cells ⟨d.cells⟩ 147 (0, 0))) (hd : d.ok h') (hg : h.size ≤ p) (hF : ∀ z, d.F z → h.size ≤ z ∧ z ≠ p) : Ss h' A st sk ov cnt L (putK P n ⟨p, d⟩) ∧ Tn A P h h' (putK P n ⟨p, d⟩) := by
  have e := k.se
  have hmu : ∀ q, Mu A (putK P n ⟨p, d⟩) q → Mu A P q ∨ q = p := fun q z => by
    rcases z with z | z | z | z | ⟨r, hr, z⟩
    · exact .inl (.inl z)
    · exact .inl (.inr (.inl z))
    · exact .inl (.inr (.inr (.inl z)))
    · exact .inl (.inr (.inr (.inr (.inl z))))
    · rcases mem_putK hr with rfl | ⟨hr, _⟩
      · exact .inr z
      · exact .inl (.inr (.inr (.inr (.inr ⟨r, hr, z⟩))))
  refine ⟨⟨⟨x.obj e.blk (mpNo e.pm e.blk), e.stm.ext x e.ne.1, x.obj e.pb (mpNo e.pm e.pb), hm, x.obj e.eb (mpNo e.pm e.eb), e.em.ext x (fun z => e.ne.2.2 z.symm), e.ne⟩,
    fun q hq => ⟨(k.sok q hq).1.ext' x (fun z h0 hz e => (k.sok q hq).2.2 z h0 hz (.inr (.inr (.inl e)))), (k.sok q hq).2.1, fun z h0 hz e => ?_⟩, fun q hq => ?_, fun q hq r hr hne => ?_, k.sto, k.cok⟩, x.mono (fun q _ e => .inr (.inr (.inl e))), fun q hq z => (hmu q z).resolve_right (fun e => by omega)⟩
  · rcases hmu z e with e | e
    · exact (k.sok q hq).2.2 z h0 hz e
    · have := (k.sok q hq).1.lt h0 hz; omega
  · rcases mem_putK hq with rfl | ⟨hq, hn⟩
    · refine ⟨hp, hd, fun z hz e => ?_⟩
      rcases hmu z e with e | e
      · have := k.lt e; have := (hF z hz).1; omega
      · exact (hF z hz).2 e
    · refine ⟨x.obj (k.pok q hq).1 (mpNo e.pm (k.pok q hq).1), (k.pok q hq).2.1.ext x (fun z hz e => (k.pok q hq).2.2 z hz (.inr (.inr (.inl e)))), fun z hz e => ?_⟩
      rcases hmu z e with e | e
      · exact (k.pok q hq).2.2 z hz e
      · have := (k.pok q hq).2.1.lt hz; omega
  · rcases mem_putK hq with rfl | ⟨hq, hn⟩ <;> rcases mem_putK hr with rfl | ⟨hr, hm⟩
    · exact absurd rfl hne
    · have := lt_of_some (k.pok r hr).1
      show p ≠ r.2.p
      omega
    · have := lt_of_some (k.pok q hq).1
      show q.2.p ≠ p
      omega
    · exact k.dis q hq r hr hne
/-- A portal turned. -/
theorem Ss.updP (k : Ss h A st sk ov cnt L P) {n : List UInt8} {i : ItD} {d : PD} (hi : getK P n = some i) (x : Ext (fun z => z = i.p) h h') (hp : h'[i.p]? = some (.cells ⟨d.cells⟩ 147 (0, 0))) (hd : d.ok h') (hF : ∀ z, d.F z → i.d.F z ∨ h.size ≤ z) : Ss h' A st sk ov cnt L (putK P n ⟨i.p, d⟩) ∧ Tn A P h h' (putK P n ⟨i.p, d⟩) := by
  have e := k.se
  have him := getK_mem hi
  have hip := k.pok _ him
  have hmi : Mu A P i.p := .inr (.inr (.inr (.inr ⟨_, him, rfl⟩)))
  have hmu : ∀ q, Mu A (putK P n ⟨i.p, d⟩) q → Mu A P q := fun q z => by
    rcases z with z | z | z | z | ⟨r, hr, z⟩
    · exact .inl z
    · exact .inr (.inl z)
    · exact .inr (.inr (.inl z))
    · exact .inr (.inr (.inr (.inl z)))
    · rcases mem_putK hr with rfl | ⟨hr, _⟩
      · exact z ▸ hmi
      · exact .inr (.inr (.inr (.inr ⟨r, hr, z⟩)))
  have hen : encK pcE (putK P n ⟨i.p, d⟩) = encK pcE P := by
    unfold putK
    rw [if_pos (by rw [hi]; rfl)]
    unfold encK
    rw [List.map_map]
    refine List.map_congr_left fun q hq => ?_
    simp only [Function.comp]
    by_cases hqn : q.1 = n
    · rw [if_pos hqn]
      have hnd : ((encK pcE P).map (·.1)).Nodup := Mp.nodup keyS e.pm
      rw [encK_keys] at hnd
      have := getK_of hnd (show (q.1, q.2) ∈ P from hq)
      rw [hqn, hi] at this
      simp only [Option.some.injEq] at this
      rw [← this, hqn]
      rfl
    · rw [if_neg hqn]
  refine ⟨⟨?_, fun q hq => ⟨(k.sok q hq).1.ext' x (fun z h0 hz e => (k.sok q hq).2.2 z h0 hz (e ▸ hmi)), (k.sok q hq).2.1, fun z h0 hz e => (k.sok q hq).2.2 z h0 hz (hmu _ e)⟩, fun q hq => ?_, fun q hq r hr hne => ?_, k.sto, k.cok⟩, x.mono (fun q _ e => e ▸ hmi), fun q _ => hmu q⟩
  · rw [hen]
    exact e.turnO hip.1 x
  · rcases mem_putK hq with rfl | ⟨hq, hn⟩
    · exact ⟨hp, hd, fun z hz e => (hF z hz).elim (fun y => hip.2.2 z y (hmu _ e)) (fun y => by have := k.lt (hmu _ e); omega)⟩
    · exact ⟨x.obj (k.pok q hq).1 (k.dis q hq _ him hn), (k.pok q hq).2.1.ext x (fun z hz e => (k.pok q hq).2.2 z hz (e ▸ hmi)), fun z hz e => (k.pok q hq).2.2 z hz (hmu _ e)⟩
  · rcases mem_putK hq with rfl | ⟨hq, hn⟩ <;> rcases mem_putK hr with rfl | ⟨hr, hm⟩
    · exact absurd rfl hne
    · exact fun e => k.dis _ him r hr (fun y => hm y.symm) e
    · exact fun e => k.dis q hq _ him hn e
    · exact k.dis q hq r hr hne
end
end Go.Proofs.YtbokngiajfdanaaGreatDoor


/-
  SESSIONS (layer 30), by the code: what is refused.
-/
namespace Go.Proofs.YtbokngiajfdanaaGreatDoor
open Go Go.RK

/-- What is wrong: a code and a text, as the code tells it. -/
def erV (o : Option (List UInt8 × List UInt8)) : Value := match o with
  | none => .nilIface
  | some (a, c) => .iface 69 (.agg ⟨[St a, St c]⟩)
abbrev abortL : List UInt8 := ([99, 117, 114, 114, 101, 110, 116, 32, 116, 114, 97, 110, 115, 97, 99, 116, 105, 111, 110, 32, 105, 115, 32, 97, 98, 111, 114, 116, 101, 100, 44, 32, 99, 111, 109, 109, 97, 110, 100, 115, 32, 105, 103, 110, 111, 114, 101, 100, 32, 117, 110, 116, 105, 108, 32, 101, 110, 100, 32, 111, 102, 32, 116, 114, 97, 110, 115, 97, 99, 116, 105, 111, 110, 32, 98, 108, 111, 99, 107] : List UInt8)
set_option maxHeartbeats 2000000 in
set_option maxRecDepth 100000 in
theorem stop_v {h : Heap} (a c : List UInt8) : CallsH Tryz.prog 79 ⟨[St a, St c]⟩ h fun u h' => u = erV (some (a, c)) ∧ h' = h := by
  refine calls [(0, _), (1, _)] Tryz.func79 rfl Tryz.ntmps79 rfl ⟨rfl, rfl, trivial⟩ ?_
  all_goals (refine WC.sr ?_; refine Go ?_; refine WC.sr ?_; refine Go ?_; refine WL.step (ok_buildF (vs := [_, _]) (cs := [_, _]) (fun | [a0, a1] => [a0, a1] | _ => []) rfl rfl (by kernel_rfl)) rfl rfl rfl ?_; refine WL.step (ok_mkIface ⟨_, Tryz.underlying69, fun _ h => by cases h⟩ rfl) rfl rfl rfl ?_; refine Go ?_; refine Gs [(4, _)] ?_; refine Gt ?_; exact ⟨rfl, rfl⟩)
def refP (t : List UInt8) (st : Int) : Option (List UInt8 × List UInt8) := if (verbP t).k = 0 then some (([52, 50, 54, 48, 49] : List UInt8), ([115, 121, 110, 116, 97, 120, 32, 101, 114, 114, 111, 114] : List UInt8)) else if st = 69 ∧ exitB (verbP t) = false then some (([50, 53, 80, 48, 50] : List UInt8), abortL) else none
def abortP (t : List UInt8) (st : Int) : Option (List UInt8 × List UInt8) := if st = 69 ∧ exitB (verbP t) = false then some (([50, 53, 80, 48, 50] : List UInt8), abortL) else none
set_option maxHeartbeats 2000000 in
set_option maxRecDepth 100000 in
theorem abort_text {h : Heap} : CallsH Tryz.prog 173 ⟨[]⟩ h fun u h' => u = St abortL ∧ h' = h := by
  refine calls [] Tryz.func173 rfl Tryz.ntmps173 rfl trivial ?_
  all_goals (refine WC.sr ?_; refine Go ?_; refine WC.sr ?_; refine Go ?_; refine Gt ?_; exact ⟨rfl, rfl⟩)
section
variable {h : Heap} {A : Ad} {st : Int} {sk ov : Bool} {cnt : Int} {L : List (List UInt8 × StD)} {P : List (List UInt8 × ItD)}
set_option maxHeartbeats 2000000 in
set_option maxRecDepth 100000 in
theorem verdict_v (k : Ss h A st sk ov cnt L P) (t : List UInt8) (hm : t.length ≤ 1000000) : CallsH Tryz.prog 128 ⟨[.pointer (some ⟨A.be, 0, none⟩), St t, .int .u8 st]⟩ h fun u h' => u = .tuple ⟨[St ((refP t st).getD ([], [])).1, St ((refP t st).getD ([], [])).2, .bool (refP t st).isSome]⟩ ∧ Ext No h h' := by
  have kx := fun h' => exitD_v (h := h') (verbP t)
  have kr := eng_ready k.se.eb
  have heb := k.se.eb
  have hem := k.se.em
  have kp := fun h' => sql_v (h := h') t hm
  unfold refP
  obtain ⟨v, hv⟩ : ∃ v, verbP t = v := ⟨_, rfl⟩
  rw [hv] at kx kp ⊢
  unfold VeD.cells veC at kx kp
  rcases (show v.k = 0 ∨ v.k ≠ 0 ∧ st = 69 ∧ exitB v = false ∨ v.k ≠ 0 ∧ st = 69 ∧ exitB v = true ∨ v.k ≠ 0 ∧ st ≠ 69 ∧ exitB v = true ∨ v.k ≠ 0 ∧ st ≠ 69 ∧ exitB v = false ∧ v.k = 1 ∨ v.k ≠ 0 ∧ st ≠ 69 ∧ exitB v = false ∧ v.k ≠ 1 by
    by_cases e1 : v.k = 0
    · exact .inl e1
    · by_cases e2 : st = 69 <;> cases e3 : exitB v
      · exact .inr (.inl ⟨e1, e2, rfl⟩)
      · exact .inr (.inr (.inl ⟨e1, e2, rfl⟩))
      · by_cases e4 : v.k = 1
        · exact .inr (.inr (.inr (.inr (.inl ⟨e1, e2, rfl, e4⟩))))
        · exact .inr (.inr (.inr (.inr (.inr ⟨e1, e2, rfl, e4⟩))))
      · exact .inr (.inr (.inr (.inl ⟨e1, e2, rfl⟩)))) with e1 | ⟨e1, e2, e3⟩ | ⟨e1, e2, e3⟩ | ⟨e1, e2, e3⟩ | ⟨e1, e2, e3, e4⟩ | ⟨e1, e2, e3, e4⟩
  all_goals
    try rw [e3] at kx
    refine calls [(0, _), (1, _), (2, _)] Tryz.func128 rfl Tryz.ntmps128 rfl ⟨rfl, rfl, rfl, trivial⟩ ?_
    all_goals (refine WC.sr ?_; refine Go ?_; refine WC.seq ?_; refine WC.sr ?_; refine Go ?_; refine WL.call (vs := [_]) rfl (fun a w => Tryz.call144 a w) rfl (kr) rfl rfl rfl ?_; rintro _ hz ⟨rfl, _⟩; subst hz; refine Go ?_; refine Gs [(0, _), (1, _), (2, _), (12, _)] ?_; refine goC 1 2 ?_ TT.mk; refine goB 2 ?_; refine WC.skip ?_; refine Gn ?_; refine WC.sr ?_; refine Go ?_; refine WL.call (vs := [_]) rfl (fun a w => Tryz.call89 a w) rfl (kp _) rfl rfl rfl ?_; rintro _ h1 ⟨rfl, hx1⟩; refine WL.stepR (okE_alloc (fun w => Tryz.zeroValue152 w)) rfl rfl rfl ?_; rintro _ h2 ⟨b9, rfl, hg2, hb2, hx2⟩; refine WL.stepR0 (okE_storeW (fun w => Tryz.sizeOf152 w) rfl rfl rfl hb2 rfl (by simp [Value.oneCell'])) rfl rfl ?_; rintro _ h3 ⟨hb3, hx3⟩; have X3 : Ext No h h3 := hx1.trans (hx2.trans' hx3 (fun q hq e => by omega)); refine Gn ?_; refine WC.seq ?_; refine WC.block ?_; refine WC.sr ?_; refine Go ?_; refine WL.ld rfl (by first | exact cell_blk hb3 rfl | assumption | exact cell_blk (by assumption) rfl) rfl rfl rfl ?_; refine Go ?_; refine Gs [(0, _), (1, _), (2, _), (9, _), (15, _)] ?_; refine goC 3 4 ?_ TT.mk)
    all_goals (first | (fail_if_success refine goB 3 ?_) | (
    refine goB 3 ?_
    all_goals (refine WC.sr ?_; refine Go ?_; refine Gs [(6, _), (7, _), (8, _)] ?_; refine Gt ?_; refine ⟨?_, X3⟩; first | (rw [if_pos e1]; rfl) | (rw [if_neg e1, if_pos ⟨e2, e3⟩]; rfl) | (rw [if_neg e1, if_neg (fun y => by rw [e3] at y; exact absurd y.2 (by decide))]; rfl) | (rw [if_neg e1, if_neg (fun y => e2 y.1)]; rfl))
    skip))
    all_goals (refine goB 4 ?_; refine WC.sr ?_; refine Go ?_; refine goP 22 ?_ TT.mk; first | (refine WL.pass rfl rfl rfl ?_) | (refine WL.step (ok_loadN (fun w => Tryz.isAgg152 w) (fun w => Tryz.sizeOf152 w) rfl rfl (by exact At.of_block hb3)) rfl rfl rfl ?_))
    all_goals (first
                 | (refine WL.pass rfl rfl rfl ?_)
                 | (refine WL.call (vs := [_]) rfl (fun a w => Tryz.call151 a w) rfl (kx _) rfl rfl rfl ?_
                    rintro _ h4 ⟨rfl, hx4⟩
                    have hb3 := hx4.obj hb3 nos
                    have X3 := X3.trans hx4))
    all_goals (refine Gg ?_; refine Go ?_; refine Gs [(0, _), (1, _), (9, _), (19, _)] ?_; refine goC 5 6 ?_ TT.mk)
    all_goals (first | (fail_if_success refine goB 5 ?_) | (
    refine goB 5 ?_
    all_goals (refine WC.sr ?_; refine Go ?_; refine Gs [(6, _), (7, _), (8, _)] ?_; refine Gt ?_; refine ⟨?_, X3⟩; first | (rw [if_pos e1]; rfl) | (rw [if_neg e1, if_pos ⟨e2, e3⟩]; rfl) | (rw [if_neg e1, if_neg (fun y => by rw [e3] at y; exact absurd y.2 (by decide))]; rfl) | (rw [if_neg e1, if_neg (fun y => e2 y.1)]; rfl))
    skip))
    all_goals (refine goB 6 ?_; refine WC.seq ?_; refine WC.sr ?_; refine WL.step (ok_loadN (fun w => Tryz.isAgg152 w) (fun w => Tryz.sizeOf152 w) rfl rfl (by exact At.of_block hb3)) rfl rfl rfl ?_; refine WL.call (vs := [_]) rfl (fun a w => Tryz.call151 a w) rfl (kx _) rfl rfl rfl ?_; rintro _ h4 ⟨rfl, hx4⟩; have hb3 := hx4.obj hb3 nos; have X3 := X3.trans hx4; refine Go ?_; refine goC 7 8 ?_ TT.mk)
    all_goals (first | (fail_if_success refine goB 7 ?_) | (
    refine goB 7 ?_
    all_goals (refine WC.skip ?_)
    skip))
    all_goals (first | (fail_if_success refine goB 8 ?_) | (
    refine goB 8 ?_
    all_goals (refine WC.region ?_; refine Go ?_; refine WL.ld rfl (by first | exact cell_blk hb3 rfl | assumption | exact cell_blk (by assumption) rfl) rfl rfl rfl ?_; refine Go ?_)
    skip))
    all_goals (refine Gn ?_; refine Gs [(0, _), (1, _), (27, _)] ?_; refine goC 9 10 ?_ TT.mk)
    all_goals (first | (fail_if_success refine goB 9 ?_) | (
    refine goB 9 ?_
    all_goals (refine WC.skip ?_)
    skip))
    all_goals (first | (fail_if_success refine goB 10 ?_) | (
    refine goB 10 ?_
    all_goals (refine WC.sr ?_; refine Go ?_; refine WL.step (ok_nilCheck rfl) rfl rfl rfl ?_; refine Go ?_; refine WL.ld rfl (by first | exact cell_blk (X3.obj heb nos) rfl | assumption | exact cell_blk (by assumption) rfl) rfl rfl rfl ?_; refine Go ?_; refine WL.step ((ok_lookup_no keyS Tryz.underlying55 Tryz.underlying9 (fun w => Tryz.zeroValue4 w) rfl rfl (hem.ext X3 nos) (by rfl)).2) rfl rfl rfl ?_; refine Go ?_; refine Gs [(33, _)] ?_; refine goC 11 12 ?_ TT.mk; refine goB 12 ?_; refine WC.skip ?_)
    skip))
    all_goals (refine Gn ?_; refine WC.sr ?_; refine Go ?_; refine Gt ?_; refine ⟨?_, X3⟩; first | (rw [if_pos e1]; rfl) | (rw [if_neg e1, if_pos ⟨e2, e3⟩]; rfl) | (rw [if_neg e1, if_neg (fun y => by rw [e3] at y; exact absurd y.2 (by decide))]; rfl) | (rw [if_neg e1, if_neg (fun y => e2 y.1)]; rfl))
set_option maxHeartbeats 2000000 in
set_option maxRecDepth 100000 in
theorem refused_v (k : Ss h A st sk ov cnt L P) (t : List UInt8) (hm : t.length ≤ 1000000) : CallsH Tryz.prog 78 ⟨[.pointer (some ⟨A.bs, 0, none⟩), St t]⟩ h fun u h' => u = erV (refP t st) ∧ Ext No h h' := by
  have hb := k.se.blk
  have kv := verdict_v k t hm
  cases hr : refP t st
  all_goals
    rw [hr] at kv
    dsimp only [Option.getD_none, Option.getD_some, Option.isSome_none, Option.isSome_some] at kv
    refine calls [(0, _), (1, _)] Tryz.func78 rfl Tryz.ntmps78 rfl ⟨rfl, rfl, trivial⟩ ?_
    all_goals (refine WC.sr ?_; refine Go ?_; refine WC.seq ?_; refine WC.seq ?_; refine WC.drawH (fun h' => Ext No h h') 17 17 rfl fol ?_; refine WH.tk 0 rfl (fun hq hC => ok_move rfl) rfl rfl rfl ?_; refine WH.tk 1 rfl (fun hq hC => ok_nilCheck rfl) rfl rfl rfl ?_; refine WH.tk 2 rfl (fun hq hC => ok_fieldAddr rfl Tryz.underlying54 rfl (fun w => Tryz.sizeOf27 w)) rfl rfl rfl ?_; refine WH.tk 3 rfl (fun hq hC => ok_load (fun w => Tryz.isAgg27 w) rfl (by first | exact hC.cell (by first | exact cell_blk hb rfl | assumption | exact cell_blk (by assumption) rfl) nos)) rfl rfl rfl ?_; refine WH.tk 4 rfl (fun hq hC => ok_move rfl) rfl rfl rfl ?_; refine WH.tk 5 rfl (fun hq hC => ok_move rfl) rfl rfl rfl ?_; refine WH.tk 6 rfl (fun hq hC => ok_nilCheck rfl) rfl rfl rfl ?_; refine WH.tk 7 rfl (fun hq hC => ok_fieldAddr rfl Tryz.underlying54 rfl (fun w => Tryz.sizeOf5 w)) rfl rfl rfl ?_; refine WH.tk 8 rfl (fun hq hC => ok_load (fun w => Tryz.isAgg5 w) rfl (by first | exact hC.cell (by first | exact cell_blk hb rfl | assumption | exact cell_blk (by assumption) rfl) nos)) rfl rfl rfl ?_; refine WH.one 9 (by kernel_rfl) ?_; refine Comes1.call (vs := [_, _, _]) rfl rfl (fun a w => Tryz.call128 a w) rfl (kv) rfl rfl rfl ?_ (fun _ => by kernel_rfl); rintro _ h1 ⟨rfl, hx1⟩; refine ⟨fun _ => hx1, ?_⟩; refine WH.tk 10 rfl (fun hq hC => ok_move rfl) rfl rfl rfl ?_; refine WH.tk 11 rfl (fun hq hC => ok_extract rfl rfl) rfl rfl rfl ?_; refine WH.tk 12 rfl (fun hq hC => ok_extract rfl rfl) rfl rfl rfl ?_; refine WH.tk 13 rfl (fun hq hC => ok_extract rfl rfl) rfl rfl rfl ?_; refine WH.tk 14 rfl (fun hq hC => ok_assign rfl) rfl rfl rfl ?_; refine WH.tk 15 rfl (fun hq hC => ok_assign rfl) rfl rfl rfl ?_; refine WH.tk 16 rfl (fun hq hC => ok_assign rfl) rfl rfl rfl ?_; refine WH.done (by kernel_rfl) ?_; refine Gn ?_; refine Gs [(5, _), (6, _), (7, _)] ?_; refine WC.sr ?_; refine Go ?_; refine goC 1 2 ?_ TT.mk)
    all_goals (first | (fail_if_success refine goB 1 ?_) | (
    refine goB 1 ?_
    all_goals (refine WC.sr ?_; refine Go ?_; refine WL.call (vs := [_, _]) rfl (fun a w => Tryz.call79 a w) rfl (stop_v _ _) rfl rfl rfl ?_; rintro _ hq ⟨rfl, hz⟩; replace hz := hz.symm; subst hz; refine Go ?_; refine Gs [(4, _)] ?_; refine Gt ?_; exact ⟨rfl, by first | exact hx1 | exact hC⟩)
    skip))
    all_goals (refine goB 2 ?_; refine WC.skip ?_; refine Gn ?_; refine Gs [] ?_; refine WC.sr ?_; refine Go ?_; refine Gt ?_; exact ⟨rfl, by first | exact hx1 | exact hC⟩)
set_option maxHeartbeats 2000000 in
set_option maxRecDepth 100000 in
theorem aborted_v (k : Ss h A st sk ov cnt L P) (t : List UInt8) {v : Value} (hm : t.length ≤ 1000000) (hv : ∃ B n c, v = .slice B n c) : CallsH Tryz.prog 131 ⟨[.pointer (some ⟨A.bs, 0, none⟩), .agg ⟨[St t, v]⟩]⟩ h fun u h' => u = erV (abortP t st) ∧ Ext No h h' := by
  have hb := k.se.blk
  have kx := fun h' => exitD_v (h := h') (verbP t)
  have kp := fun h' => sql_v (h := h') t hm
  obtain ⟨B, n, c, rfl⟩ := hv
  unfold abortP
  obtain ⟨w, hw⟩ : ∃ w, verbP t = w := ⟨_, rfl⟩
  rw [hw] at kx kp ⊢
  unfold VeD.cells veC at kx kp
  rcases (show st = 69 ∧ exitB w = false ∨ st = 69 ∧ exitB w = true ∨ st ≠ 69 by
    by_cases e1 : st = 69 <;> cases e3 : exitB w
    · exact .inl ⟨e1, rfl⟩
    · exact .inr (.inl ⟨e1, rfl⟩)
    · exact .inr (.inr e1)
    · exact .inr (.inr e1)) with ⟨e1, e3⟩ | ⟨e1, e3⟩ | e1
  all_goals
    try rw [e3] at kx
    refine calls [(0, _), (1, _)] Tryz.func131 rfl Tryz.ntmps131 rfl ⟨rfl, rfl, trivial⟩ ?_
    all_goals (refine WC.sr ?_; refine WL.stepR (okE_box rfl) rfl rfl rfl ?_; rintro _ h1 ⟨b3, rfl, hg1, hb1, hx1⟩; refine Go ?_; refine WC.seq ?_; refine WC.sr ?_; refine Go ?_; refine WL.step (ok_nilCheck rfl) rfl rfl rfl ?_; refine Go ?_; refine WL.ld rfl (by first | exact cell_blk (hx1.obj hb nos) rfl | assumption | exact cell_blk (by assumption) rfl) rfl rfl rfl ?_; refine Go ?_; refine goP 10 ?_ TT.mk; refine Gg ?_; first | (refine WL.pass rfl rfl rfl ?_) | (refine WL.ld rfl (by first | exact cell_blk hb1 rfl | assumption | exact cell_blk (by assumption) rfl) rfl rfl rfl ?_))
    all_goals (first
                 | (refine WL.pass rfl rfl rfl ?_)
                 | (refine WL.call (vs := [_]) rfl (fun a w => Tryz.call89 a w) rfl (kp _) rfl rfl rfl ?_
                    rintro _ h2 ⟨rfl, hx2⟩))
    all_goals (first
                 | (refine WL.pass rfl rfl rfl ?_)
                 | (refine WL.call (vs := [_]) rfl (fun a w => Tryz.call151 a w) rfl (kx _) rfl rfl rfl ?_
                    rintro _ h3 ⟨rfl, hx3⟩
                    replace hx1 := (hx1.trans hx2).trans hx3))
    all_goals (refine Gg ?_; refine Go ?_; refine Gs [(16, _)] ?_; refine goC 1 2 ?_ TT.mk)
    all_goals (first | (fail_if_success refine goB 1 ?_) | (
    refine goB 1 ?_
    all_goals (refine WC.sr ?_; refine WL.call (vs := []) rfl (fun a w => Tryz.call173 a w) rfl (abort_text) rfl rfl rfl ?_; rintro _ hq ⟨rfl, hz⟩; replace hz := hz.symm; subst hz; refine WL.call (vs := [_, _]) rfl (fun a w => Tryz.call79 a w) rfl (stop_v _ _) rfl rfl rfl ?_; rintro _ hq ⟨rfl, hz⟩; replace hz := hz.symm; subst hz; refine Go ?_; refine Gt ?_)
    all_goals (refine ⟨?_, hx1⟩
               first
                | exact congrArg erV (if_pos (show st = 69 ∧ exitB w = false from ⟨e1, e3⟩)).symm
                | exact (show Value.nilIface = erV none from rfl).trans (congrArg erV (if_neg (show ¬ (st = 69 ∧ exitB w = false) from fun y => absurd (e3.symm.trans y.2) (by decide))).symm)
                | exact (show Value.nilIface = erV none from rfl).trans (congrArg erV (if_neg (show ¬ (st = 69 ∧ exitB w = false) from fun y => e1 y.1)).symm))
    skip))
    all_goals (refine goB 2 ?_; refine WC.skip ?_; refine Gn ?_; refine WC.sr ?_; refine Go ?_; refine Gt ?_)
    all_goals (refine ⟨?_, hx1⟩
               first
                | exact congrArg erV (if_pos (show st = 69 ∧ exitB w = false from ⟨e1, e3⟩)).symm
                | exact (show Value.nilIface = erV none from rfl).trans (congrArg erV (if_neg (show ¬ (st = 69 ∧ exitB w = false) from fun y => absurd (e3.symm.trans y.2) (by decide))).symm)
                | exact (show Value.nilIface = erV none from rfl).trans (congrArg erV (if_neg (show ¬ (st = 69 ∧ exitB w = false) from fun y => e1 y.1)).symm))
end
end Go.Proofs.YtbokngiajfdanaaGreatDoor


/-
  SESSIONS (layer 30): an E of "begin"; what is said of a message that is in its place.
-/
namespace Go.Proofs.YtbokngiajfdanaaGreatDoor
open Go Go.RK

section
variable {h h' : Heap} {bs ms bp mp be me : Nat} {st st' : Int} {sk ov : Bool} {cnt : Int} {L P P' R : List (List UInt8 × Value)} {S : Nat → Prop}
def bkC (k st : Int) (tag : List UInt8) : List Value := [.int .u8 k, .int .u8 st, St tag, St [], St [], In 0, In 0, .slice none 0 0, .slice none 0 0, .slice none 0 0, .slice none 0 0]
theorem celsF_nil {v : Value} {b : Nat} {l : List Cel} (e : l = []) : ¬ CelsF v l b := fun h => by subst e; rcases h with ⟨z, _⟩ | ⟨c, hc, _⟩; simp at z; cases hc
theorem rwsF_nil {v : Value} {b : Nat} {l : List Rw} (e : l = []) : ¬ RwsF v l b := fun h => by subst e; rcases h with ⟨z, _⟩ | ⟨c, hc, _⟩; simp at z; cases hc
set_option maxHeartbeats 2000000 in
set_option maxRecDepth 100000 in
theorem turn_begin (k : Se h bs ms bp mp be me 73 sk ov cnt L P R) : CallsH Tryz.prog 95 ⟨[.pointer (some ⟨bs, 0, none⟩), .agg ⟨veC 2 0 []⟩]⟩ h fun u h' =>
    ∃ q, u = .tuple ⟨[.slice (some ⟨q, 0, none⟩) 1 1, .nilIface]⟩ ∧ h'[q]? = some (.cells ⟨bkC 67 0 ([66, 69, 71, 73, 78] : List UInt8)⟩ 42 (0, 0)) ∧ Se h' bs ms bp mp be me 84 sk ov cnt L P R ∧ Ext (fun q => q = bs) h h' := by
  have kn := fun h' => next_begin (h := h')
  have ke := fun h' => exit_v (h := h') 2 0 []
  unfold veC at *
  have lb := lt_of_some k.blk
  refine calls [(0, _), (1, _)] Tryz.func95 rfl Tryz.ntmps95 rfl ⟨rfl, rfl, trivial⟩ ?_
  all_goals (refine WC.sr ?_; refine WL.stepR (okE_box rfl) rfl rfl rfl ?_; rintro _ h1 ⟨b3, rfl, hg1, hb1, hx1⟩; have k1 := k.ext0 hx1; have hb := k1.blk; (have n3 : ¬ b3 = bs := by omega); refine Go ?_; refine WC.seq ?_; refine WC.sr ?_; refine Go ?_; refine WL.ld rfl (by first | exact cell_blk hb1 rfl | assumption | exact cell_blk (by assumption) rfl) rfl rfl rfl ?_; refine Gn ?_; refine Gs [(0, _), (3, _), (8, _)] ?_; refine WC.block ?_; refine WC.sr ?_; refine Go ?_; refine goC 1 2 ?_ TT.mk; refine goB 2 ?_; refine WC.sr ?_; refine Go ?_; refine Gs [(0, _), (3, _), (12, _)] ?_; refine goC 3 4 ?_ TT.mk; refine goB 4 ?_; refine WC.skip ?_; refine Gn ?_; refine WC.sr ?_; refine Go ?_; refine WC.seq ?_; refine WC.drawH (fun h' => Ext (fun q => q = bs) h1 h') 14 14 rfl fol ?_; refine WH.tk 0 rfl (fun hq hC => ok_move rfl) rfl rfl rfl ?_; refine WH.tk 1 rfl (fun hq hC => ok_move rfl) rfl rfl rfl ?_; refine WH.tk 2 rfl (fun hq hC => ok_nilCheck rfl) rfl rfl rfl ?_; refine WH.tk 3 rfl (fun hq hC => ok_fieldAddr rfl Tryz.underlying54 rfl (fun w => Tryz.sizeOf5 w)) rfl rfl rfl ?_; refine WH.tk 5 rfl (fun hq hC => ok_loadN (fun w => Tryz.isAgg152 w) (fun w => Tryz.sizeOf152 w) rfl rfl (by exact (At.of_block hb1).ext hC n3)) rfl rfl rfl ?_; refine WH.one 4 (by kernel_rfl) ?_; refine Comes1.run rfl (OkP.r (ok_load (fun w => Tryz.isAgg5 w) rfl (by first | exact cell_blk hb rfl | assumption | exact cell_blk (by assumption) rfl))) rfl rfl rfl ?_ (fun _ => by kernel_rfl); rintro _ hz ⟨rfl, _⟩; subst hz; refine ⟨fun _ => .refl _ _, ?_⟩; refine WH.one 6 (by kernel_rfl) ?_; refine Comes1.call (vs := [_, _]) rfl rfl (fun a w => Tryz.call150 a w) rfl (kn _) rfl rfl rfl ?_ (fun _ => by kernel_rfl); rintro _ h2 ⟨rfl, hx2⟩; refine ⟨fun _ => hx2.mono fun _ _ e => e.elim, ?_⟩; (have hC2 : Ext (fun q => q = bs) h1 h2 := hx2.mono fun _ _ e => e.elim); have hbs2 := hx2.obj hb nos; refine WH.tk 7 rfl (fun hq hC => ok_move rfl) rfl rfl rfl ?_; refine WH.tk 8 rfl (fun hq hC => ok_extract rfl rfl) rfl rfl rfl ?_; refine WH.tk 9 rfl (fun hq hC => ok_extract rfl rfl) rfl rfl rfl ?_; refine WH.tk 10 rfl (fun hq hC => ok_nilCheck rfl) rfl rfl rfl ?_; refine WH.tk 11 rfl (fun hq hC => ok_fieldAddr rfl Tryz.underlying54 rfl (fun w => Tryz.sizeOf5 w)) rfl rfl rfl ?_; refine WH.one 12 (by kernel_rfl) ?_; refine Comes1.run0 rfl (okE_store (fun w => Tryz.sizeOf5 w) rfl rfl hbs2 (Nat.le_of_ble_eq_true rfl) rfl rfl) rfl rfl ?_ (fun _ => by kernel_rfl); rintro _ h3 ⟨hb3, hx3⟩; refine ⟨fun _ => hC2.trans hx3, ?_⟩; have hC3 := hC2.trans hx3; have k3 := (k1.ext0 hx2).turnS hx3 hb3; refine WH.tk 13 rfl (fun hq hC => ok_assign rfl) rfl rfl rfl ?_; refine WH.done (by kernel_rfl) ?_; refine Gn ?_; refine Gs [(0, _), (3, _), (6, _)] ?_; refine WC.seq ?_; refine WC.sr ?_; refine WL.step (ok_loadN (fun w => Tryz.isAgg152 w) (fun w => Tryz.sizeOf152 w) rfl rfl (by exact (At.of_block hb1).ext hC3 n3)) rfl rfl rfl ?_; refine WL.call (vs := [_]) rfl (fun a w => Tryz.call151 a w) rfl (ke _) rfl rfl rfl ?_; rintro _ h4 ⟨rfl, hx4⟩; refine Gn ?_; refine goC 5 6 ?_ TT.mk; refine goB 6 ?_; refine WC.skip ?_; refine Gn ?_; refine Gs [(6, _)] ?_; refine WC.sr ?_)
  all_goals (refine Go ?_; refine WL.step (ok_buildF (vs := [_, _]) (cs := [_, _, _, _, _, _, _, _, _, _, _]) (fun | [a0, a2] => [a0, (.int .u8 0), a2, (St []), (St []), (.int .i64 0), (.int .i64 0), (.slice none 0 0), (.slice none 0 0), (.slice none 0 0), (.slice none 0 0)] | _ => []) rfl rfl (by kernel_rfl)) rfl rfl rfl ?_; refine WL.stepR (okE_buildSlice (vs := [_]) (cs := [_, _, _, _, _, _, _, _, _, _, _]) (fun | [.agg ⟨[a0, a1, a2, a3, a4, a5, a6, a7, a8, a9, a10]⟩] => [a0, a1, a2, a3, a4, a5, a6, a7, a8, a9, a10] | _ => []) Tryz.underlying33 rfl rfl (by kernel_rfl)) rfl rfl rfl ?_; rintro _ h5 ⟨b5, rfl, hg5, hb5, hx5⟩; refine Go ?_; refine Gs [(4, _), (5, _)] ?_; refine Gt ?_; exact ⟨b5, rfl, hb5, (k3.ext0 hx4).ext0 hx5, (((hx1.mono fun _ _ e => e.elim).trans hC3).trans (hx4.mono fun _ _ e => e.elim)).trans (hx5.mono fun _ _ e => e.elim)⟩)
set_option maxHeartbeats 2000000 in
set_option maxRecDepth 100000 in
theorem execute_s {p : Nat} {d : PD} (k : Se h bs ms bp mp be me 73 sk ov cnt L [([], .pointer (some ⟨p, 0, none⟩))] R) (hp : h[p]? = some (.cells ⟨PD.cells d⟩ 147 (0, 0))) (ok : d.ok h) (pl : d.pl = pB) (ap : ∀ q, d.F q → q ≠ p) :
    CallsH Tryz.prog 49 ⟨[.pointer (some ⟨bs, 0, none⟩), .agg ⟨[.int .u8 69, .int .u8 0, St [], St [], St [], nS, nS, nS, nS, In 0]⟩]⟩ h fun u h' =>
    ∃ q, u = .tuple ⟨[.slice (some ⟨q, 0, none⟩) 1 1, .nilIface]⟩ ∧ h'[q]? = some (.cells ⟨bkC 67 0 ([66, 69, 71, 73, 78] : List UInt8)⟩ 42 (0, 0)) ∧ Se h' bs ms bp mp be me 84 sk ov cnt L [([], .pointer (some ⟨p, 0, none⟩))] R ∧ Kf h h' ∧ Ext (fun q => q = bs ∨ q = p) h h' := by
  have kpo := fun (g : Heap) (x : Ext No h g) => portal_s (by decide) (k.ext0 x) (x.obj hp nos) (ok.ext x (fun _ _ => nos)) ap
  have kpa := fun h' => parse_begin (h := h')
  have kro := fun h' => rowsV_v (h := h') 2 0 []
  have ktu := fun (g : Heap) (x : Ext No h g) => turn_begin (k.ext0 x)
  have kra := fun (g : Heap) (k : Se g bs ms bp mp be me 84 sk ov cnt L [([], .pointer (some ⟨p, 0, none⟩))] R) (hp : g[p]? = some (.cells ⟨PD.cells d⟩ 147 (0, 0))) (ok : d.ok g) => ran_e (v := nS) (⟨k.pb, k.pm, rfl, hp, ok, ap⟩ : Pe g bp mp _ p [] d) [] (by have := congrArg (·.2.2.2.2.1) pl; exact this) ⟨Rd.nil _ _, ⟨by simp, _, _, rfl, by decide⟩, by simp⟩
  unfold veC at *
  refine calls [(0, _), (1, _)] Tryz.func49 rfl Tryz.ntmps49 rfl ⟨rfl, rfl, trivial⟩ ?_
  all_goals (refine WC.sr ?_; refine WL.stepR (okE_box rfl) rfl rfl rfl ?_; rintro _ h1 ⟨b3, rfl, hg1, hb1, hx1⟩; refine Go ?_; refine WC.sr ?_; refine Go ?_; refine WL.ld rfl (by first | exact cell_blk hb1 rfl | assumption | exact cell_blk (by assumption) rfl) rfl rfl rfl ?_)
  all_goals (refine WL.call (vs := [_, _]) rfl (fun a w => Tryz.call88 a w) rfl (kpo _ hx1) rfl rfl rfl ?_
             rintro _ h2 ⟨d2, rfl, ok2, pl2, hx2⟩
             obtain ⟨text, vo, oids, vp, ps, vr, rs, ran, over⟩ := d2
             rw [pl] at pl2
             simp only [PD.pl, pB, Prod.mk.injEq] at pl2
             obtain ⟨rfl, rfl, hps, hrs, rfl, rfl⟩ := pl2)
  all_goals (refine Go ?_; refine WL.stepR (okE_alloc (fun w => Tryz.zeroValue147 w)) rfl rfl rfl ?_; rintro _ h3 ⟨b6, rfl, hg3, hb3, hx3⟩; refine WL.stepR0 (okE_storeW (fun w => Tryz.sizeOf147 w) rfl rfl rfl hb3 rfl (pd_one ok2)) rfl rfl ?_; rintro _ h4 ⟨hb4, hx4⟩; have X14 : Ext No h1 h4 := hx2.trans (hx3.trans' hx4 (fun q hq e => by omega)); have hb14 := X14.obj hb1 nos; dsimp only [PD.cells] at hb4)
  all_goals (refine Go ?_; refine Gs [(0, _), (3, _), (6, _), (7, _)] ?_; refine WC.seq ?_; refine WC.sr ?_; refine Go ?_; refine WL.step (ok_neqIn (by kernel_rfl) rfl rfl) rfl rfl rfl ?_; refine Gn ?_; refine goC 1 2 ?_ TT.mk; refine goB 2 ?_; refine WC.skip ?_; refine Gn ?_; refine WC.sr ?_; refine Go ?_; refine WL.ld rfl (by first | exact cell_blk hb4 rfl | assumption | exact cell_blk (by assumption) rfl) rfl rfl rfl ?_; refine WL.call (vs := [_]) rfl (fun a w => Tryz.call89 a w) rfl (kpa _) rfl rfl rfl ?_; rintro _ h5 ⟨rfl, hx5⟩; refine WL.stepR (okE_alloc (fun w => Tryz.zeroValue152 w)) rfl rfl rfl ?_; rintro _ h6 ⟨b8, rfl, hg6, hb6, hx6⟩; refine WL.stepR0 (okE_storeW (fun w => Tryz.sizeOf152 w) rfl rfl rfl hb6 rfl (by simp [Value.oneCell'])) rfl rfl ?_; rintro _ h7 ⟨hb7, hx7⟩; have X47 : Ext No h4 h7 := hx5.trans (hx6.trans' hx7 (fun q hq e => by omega)); refine Gn ?_; refine Gs [(0, _), (3, _), (6, _), (8, _)] ?_; refine WC.seq ?_; refine WC.sr ?_; refine WL.step (ok_loadN (fun w => Tryz.isAgg152 w) (fun w => Tryz.sizeOf152 w) rfl rfl (by exact At.of_block hb7)) rfl rfl rfl ?_; refine WL.call (vs := [_]) rfl (fun a w => Tryz.call90 a w) rfl (kro _) rfl rfl rfl ?_; rintro _ h8 ⟨rfl, hx8⟩; have X48 := X47.trans hx8; have X8 := (hx1.trans X14).trans X48; have hb48 := X48.obj hb4 nos; have hb78 := hx8.obj hb7 nos; refine Gn ?_; refine goC 3 4 ?_ TT.mk; refine goB 4 ?_; refine WC.skip ?_; refine Gn ?_; refine WC.seq ?_; refine WC.sr ?_; refine Go ?_; refine WL.ld rfl (by first | exact cell_blk hb48 rfl | assumption | exact cell_blk (by assumption) rfl) rfl rfl rfl ?_; refine Go ?_; refine goP 58 ?_ TT.mk; refine Gg ?_; refine WL.pass rfl rfl rfl ?_; refine Gg ?_; refine Go ?_; refine Gs [(0, _), (3, _), (8, _), (62, _)] ?_; refine goC 7 8 ?_ TT.mk; refine goB 8 ?_; refine WC.skip ?_; refine Gn ?_; refine WC.sr ?_; refine Go ?_; refine WL.step (ok_loadN (fun w => Tryz.isAgg152 w) (fun w => Tryz.sizeOf152 w) rfl rfl (by exact At.of_block hb78)) rfl rfl rfl ?_; refine WL.call (vs := [_, _]) rfl (fun a w => Tryz.call95 a w) rfl (ktu _ X8) rfl rfl rfl ?_; rintro _ h9 ⟨q, rfl, hq9, k9, hx9⟩)
  all_goals (have k8 := k.ext0 X8
             have o9 : ∀ {z : Nat} {ds : Array Value} {TT : TypeId}, TT ≠ 54 → h8[z]? = some (.cells ds TT (0, 0)) → ¬ z = bs := fun hT hz e => by
              subst e
              rw [k8.blk] at hz
              simp only [Option.some.injEq, Obj.cells.injEq] at hz
              exact hT hz.2.1.symm
             have hp9 := hx9.obj (X8.obj hp nos) (o9 (by decide) (X8.obj hp nos))
             have lbs := lt_of_some k.blk
             have ok9 : d.ok h9 := (ok.ext X8 (fun _ _ => nos)).ext hx9 (fun z hz e => by
              obtain ⟨e1, e2, e3, e4, e5, e6⟩ : d.text = beginL ∧ d.oids = [] ∧ d.ps.map Cel.pl = [] ∧ d.rs.map Rw.pl = [] ∧ d.ran = false ∧ d.over = false := by simpa [PD.pl, pB] using pl
              rcases hz with ⟨z1, _⟩ | hz | hz
              · rw [e2] at z1; simp at z1
              · exact absurd hz (celsF_nil (List.map_eq_nil_iff.1 e3))
              · exact absurd hz (rwsF_nil (List.map_eq_nil_iff.1 e4)))
             have hb19 := hx9.obj (X48.obj hb14 nos) (by omega)
             have hbs9 := k9.blk)
  all_goals (refine Go ?_; refine Gs [(0, _), (3, _), (7, _), (9, _)] ?_; refine WC.seq ?_; refine WC.sr ?_; refine Go ?_; refine WL.step (ok_eqlIn (by kernel_rfl) rfl rfl) rfl rfl rfl ?_; refine Gn ?_; refine goC 9 10 ?_ TT.mk; refine goB 9 ?_; refine WC.drawT 6 fol (by kernel_rfl) ?_; show WS _ _ _ [_, _, _, _, _, _] _ _ _)
  all_goals (refine WS.step (ok_move rfl) rfl rfl rfl ?_; refine WS.step (ok_nilCheck rfl) rfl rfl rfl ?_; refine WS.step (ok_fieldAddr rfl Tryz.underlying54 rfl (fun w => Tryz.sizeOf51 w)) rfl rfl rfl ?_; refine WS.step (ok_load (fun w => Tryz.isAgg51 w) rfl (by first | exact cell_blk hbs9 rfl | assumption | exact cell_blk (by assumption) rfl)) rfl rfl rfl ?_; refine WS.step (ok_fieldAddr rfl Tryz.underlying32 rfl (fun w => Tryz.sizeOf9 w)) rfl rfl rfl ?_; refine WS.step (ok_load (fun w => Tryz.isAgg9 w) rfl (by first | exact cell_blk hb19 rfl | assumption | exact cell_blk (by assumption) rfl)) rfl rfl rfl ?_; refine WS.nil ?_; show WL _ _ _ [_] _ _ _)
  all_goals (refine WL.call (vs := [_, _, _]) rfl (fun a w => Tryz.call91 a w) rfl (kra _ k9 hp9 ok9) rfl rfl rfl ?_; rintro _ h10 ⟨rfl, v10, L10, _, _, _, hx10⟩; refine WL.nil ?_; refine Gn ?_; refine Gs [(7, _), (9, _)] ?_; refine WC.sr ?_; refine Go ?_; refine Gs [(4, _), (5, _)] ?_; refine Gt ?_)
  all_goals (refine ⟨q, rfl, hx10.obj hq9 (fun e => ?_), k9.turnO hp9 hx10, ((kf_no X8).trans (kf_blk k8.blk (by decide) hx9)).trans (kf_blk hp9 (by decide) hx10), (X8.mono fun _ _ e => e.elim).trans ((hx9.mono fun _ _ e => .inl e).trans (hx10.mono fun _ _ e => .inr e))⟩
             subst e
             rw [hp9] at hq9
             simp only [Option.some.injEq, Obj.cells.injEq] at hq9
             exact absurd hq9.2.1 (by decide))
end
end Go.Proofs.YtbokngiajfdanaaGreatDoor


/-
  TEXTS JOINED, by the shelf's contract of strings.Join.
-/
namespace Go.Proofs.YtbokngiajfdanaaGreatDoor
open Go Go.RK Go.RowKit

theorem below_calls {P : Program} {k : FuncId} {args : Array Value} {h : Heap} {v : Value} (hc : ∀ w : World, w.heap = h → Calls P k args w fun e w' => e = .returned v ∧ Below w.heap.size w w') : CallsH P k args h fun u h' => u = v ∧ Ext No h h' :=
  fun w hw => (hc w hw).mono fun e w' ⟨he, hb⟩ => ⟨⟨hb.tape, hb.os, hb.output, trivial⟩, v, he, rfl, by subst hw; exact ⟨hb.size, fun b hlt _ => hb.block b hlt⟩⟩
theorem join3 {h : Heap} {b : Nat} (a c d : List UInt8) (hb : h[b]? = some (.cells ⟨[St a, St c, St d]⟩ 9 (0, 0))) (hl : a.length + c.length + d.length ≤ 1000000) :
    CallsH Tryz.prog 171 ⟨[.slice (some ⟨b, 0, none⟩) 3 3, St [32]]⟩ h fun u h' => u = St (a ++ [32] ++ c ++ [32] ++ d) ∧ Ext No h h' := by
  have e : Lib.join ([ByteArray.mk ⟨a⟩, ⟨⟨c⟩⟩, ⟨⟨d⟩⟩].map (·.data.toList)) (ByteArray.mk ⟨[32]⟩).data.toList = a ++ [32] ++ c ++ [32] ++ d := by
    show Lib.join [a, c, d] [32] = _
    rw [Lib.join_cons]
    simp [Lib.joinTail]
  refine below_calls fun w hw => ?_
  subst hw
  have := Tryz.strings_Join b 0 3 [⟨⟨a⟩⟩, ⟨⟨c⟩⟩, ⟨⟨d⟩⟩] ⟨⟨[32]⟩⟩ w (fun j x hj => ?_) (lt_of_some hb) (by simp) (by simp) (by rw [e]; simp; omega)
  · rw [e] at this
    exact this
  · rw [cell_eq, cell_of hb, Nat.zero_add]
    rcases j with _ | _ | _ | j <;> simp at hj ⊢
    all_goals (subst hj; rfl)
end Go.Proofs.YtbokngiajfdanaaGreatDoor


/-
  NUMBERS IN DIGITS: package digits' Text (with strings.Builder) and the document's.
-/
namespace Go.Proofs.YtbokngiajfdanaaGreatDoor
open Go Go.RK

/-- A number's digits, from the last one on. -/
def rdig (m : Nat) : List UInt8 := if m < 10 then [UInt8.ofNat (48 + m)] else UInt8.ofNat (48 + m % 10) :: rdig (m / 10)
/-- A number in digits. -/
def dig (m : Nat) : List UInt8 := (rdig m).reverse
def deci (n : Int) : List UInt8 := if n < 0 then 45 :: dig n.natAbs else dig n.natAbs
theorem rdig_lt {m : Nat} (h : m < 10) : rdig m = [UInt8.ofNat (48 + m)] := by unfold rdig; rw [if_pos h]
theorem rdig_ge {m : Nat} (h : ¬ m < 10) : rdig m = UInt8.ofNat (48 + m % 10) :: rdig (m / 10) := by rw [rdig, if_neg h]
theorem rdig_len (k m : Nat) (h : m < 10 ^ (k + 1)) : (rdig m).length ≤ k + 1 := by
  induction k generalizing m with
  | zero => rw [rdig_lt (by omega)]; simp
  | succ k ih =>
    by_cases h1 : m < 10
    · rw [rdig_lt h1]; simp
    · rw [rdig_ge h1]
      have : m / 10 < 10 ^ (k + 1) := by
        rw [Nat.div_lt_iff_lt_mul (by omega)]
        rw [Nat.pow_succ] at h
        exact h
      have := ih _ this
      simp; omega
theorem rdig_len20 (m : Nat) (h : m ≤ 9223372036854775808) : (rdig m).length ≤ 20 := rdig_len 19 m (by omega)
theorem dig_len (m : Nat) (h : m ≤ 9223372036854775808) : (dig m).length ≤ 20 := by unfold dig; simpa using rdig_len20 m h
theorem rdig_pos (m : Nat) : 0 < (rdig m).length := by unfold rdig; split <;> simp
theorem deci_len (n : Int) (h : n.natAbs ≤ 9223372036854775808) : (deci n).length ≤ 21 := by
  have := dig_len _ h
  unfold deci
  split <;> simp <;> omega
theorem by_dig (m : Nat) : By (UInt8.ofNat (48 + m % 10)) = .int .u8 (48 + (m % 10 : Nat)) := by
  have : (UInt8.ofNat (48 + m % 10)).toNat = 48 + m % 10 := by simp; omega
  unfold By
  rw [this]
  simp
theorem tdiv_neg10 (m : Nat) : (-(m : Int)).tdiv 10 = -((m / 10 : Nat) : Int) := by rw [Int.neg_tdiv]; rfl
theorem tmod_neg10 (m : Nat) : (-(m : Int)).tmod 10 = -((m % 10 : Nat) : Int) := by rw [Int.neg_tmod]; rfl
/-! ### package strings: Builder -/
/-- A builder that no text was asked of, with these bytes. -/
def Bl (h : Heap) (b : Nat) (v : Value) (bs : List UInt8) : Prop := (∃ p, h[b]? = some (.cells ⟨[p, v]⟩ 247 (0, 0)) ∧ (p = .pointer none ∨ p = .pointer (some ⟨b, 0, none⟩))) ∧ Own h v 5 1 bs.length (bys bs) ∧ (bs = [] → v = .slice none 0 0)
theorem noEscape (v : Value) (w : World) : (callFunc 215 #[v]).run Tryz.prog w = .ok (.value v) w := by
  rw [run_callFunc_extern (P := Tryz.prog) (fn := Tryz.f215) (e := Extern.AbiNoEscape.same) (by kernel_rfl) (by kernel_rfl) rfl (by kernel_rfl) (by kernel_rfl)]
  rfl
set_option maxHeartbeats 2000000 in
set_option maxRecDepth 100000 in
theorem copyCheck {h : Heap} {b : Nat} {v : Value} {bs : List UInt8} (r : Bl h b v bs) :
    CallsH Tryz.prog 204 ⟨[.pointer (some ⟨b, 0, none⟩)]⟩ h fun u h' => u = .tuple ⟨[]⟩ ∧ h'[b]? = some (.cells ⟨[.pointer (some ⟨b, 0, none⟩), v]⟩ 247 (0, 0)) ∧ Ext (fun k => k = b) h h' := by
  obtain ⟨⟨p, hb, rfl | rfl⟩, ho, _⟩ := r
  · obtain ⟨A, c, rfl, _⟩ := ho.slice
    refine calls [(0, _)] Tryz.func204 rfl Tryz.ntmps204 rfl ⟨rfl, trivial⟩ ?_
    all_goals (refine WC.sr ?_; refine Go ?_; refine WL.step (ok_nilCheck rfl) rfl rfl rfl ?_; refine Go ?_; refine Ld ?_; refine WL.step (ok_eqlPn Tryz.underlying245 rfl rfl) rfl rfl rfl ?_; refine Gn ?_; refine Gs [(0, _), (6, _)] ?_; refine goC 1 2 ?_ TT.mk; refine goB 1 ?_; refine WC.region ?_; refine Go ?_; refine WL.step (ok_toUnsafe Tryz.underlying245 Tryz.underlying99 (show Tryz.prog.info? 247 = some Tryz.t247 by kernel_rfl) (by decide) rfl (by assumption) (Nat.le_of_ble_eq_true rfl)) rfl rfl rfl ?_; refine WL.step (ok_extern (fun w => noEscape _ w) rfl) rfl rfl rfl ?_; refine WL.step (ok_fromUnsafe Tryz.underlying99 Tryz.underlying245 (show Tryz.prog.info? 247 = some Tryz.t247 by kernel_rfl) rfl (by assumption) (by kernel_rfl)) rfl rfl rfl ?_; refine WL.step (ok_nilCheck rfl) rfl rfl rfl ?_; refine Go ?_; refine WL.stepR0 (okE_store (fun w => Tryz.sizeOf245 w) rfl rfl (by assumption) (Nat.le_of_ble_eq_true rfl) rfl rfl) rfl rfl ?_; rintro _ h1 ⟨hb1, hx1⟩; refine Gn ?_; refine Gn ?_; refine retP_n [] trivial ?_; exact ⟨rfl, hb1, hx1⟩)
  · obtain ⟨A, c, rfl, _⟩ := ho.slice
    refine calls [(0, _)] Tryz.func204 rfl Tryz.ntmps204 rfl ⟨rfl, trivial⟩ ?_
    all_goals (refine WC.sr ?_; refine Go ?_; refine WL.step (ok_nilCheck rfl) rfl rfl rfl ?_; refine Go ?_; refine Ld ?_; refine WL.step (ok_eqlPn Tryz.underlying245 rfl rfl) rfl rfl rfl ?_; refine Gn ?_; refine Gs [(0, _), (6, _)] ?_; refine goC 1 2 ?_ TT.mk; refine goB 2 ?_; refine WC.sr ?_; refine Go ?_; refine WL.step (ok_nilCheck rfl) rfl rfl rfl ?_; refine Go ?_; refine Ld ?_; refine Go ?_; refine WL.step (ok_neqPs Tryz.underlying245 (show Tryz.prog.info? 247 = some Tryz.t247 by kernel_rfl) rfl rfl) rfl rfl rfl ?_; refine Gn ?_; refine Gs [(19, _)] ?_; refine goC 3 4 ?_ TT.mk; refine goB 4 ?_; refine WC.skip ?_; refine Gn ?_; refine retP_n [] trivial ?_; exact ⟨rfl, hb, .refl _ _⟩)
set_option maxHeartbeats 2000000 in
set_option maxRecDepth 100000 in
theorem writeByte {h : Heap} {b : Nat} {v : Value} {bs : List UInt8} (r : Bl h b v bs) (c : UInt8) (hm : bs.length ≤ 1000000) :
    CallsH Tryz.prog 175 ⟨[.pointer (some ⟨b, 0, none⟩), By c]⟩ h fun u h' => u = .nilIface ∧ ∃ v', Bl h' b v' (bs ++ [c]) ∧ Ext (fun k => k = b ∨ v.ownBlock = some k) h h' ∧ ∀ k, v'.ownBlock = some k → v.ownBlock = some k ∨ h.size ≤ k := by
  have r0 := r
  obtain ⟨⟨p, hb, _⟩, ho, _⟩ := r
  obtain ⟨A, c0, rfl, _⟩ := ho.slice
  have hne : (Value.slice A bs.length c0).ownBlock ≠ some b := own_ne ho hb (by decide)
  refine calls [(0, _), (1, _)] Tryz.func175 rfl Tryz.ntmps175 rfl ⟨rfl, rfl, trivial⟩ ?_
  all_goals (refine WC.sr ?_; refine Go ?_; refine WC.sr ?_; refine Go ?_; refine WL.call (vs := [_]) rfl (fun a w => Tryz.call204 a w) rfl (copyCheck r0) rfl rfl rfl ?_; rintro _ h1 ⟨rfl, hb1, hx1⟩; have ho1 := ho.ext hx1 (fun k hk e => hne (by rw [hk, e])); refine Gn ?_; refine WC.sr ?_; refine Go ?_; refine WL.step (ok_nilCheck rfl) rfl rfl rfl ?_; refine Go ?_; refine Ld ?_; refine Go ?_; refine WL.stepR (okE_buildSlice (vs := [_]) (cs := [_]) (fun | [a0] => [a0] | _ => []) Tryz.underlying85 rfl rfl (by kernel_rfl)) rfl rfl rfl ?_; rintro _ h3 ⟨b3, rfl, hg3, hb3, hx3⟩; have ho3 := ho1.ext hx3 (fun _ _ => nos); have hb3' := hx3.obj hb1 nos; refine WL.stepR (ok_append (sz := 1) (bytes := 1) rfl Tryz.underlying85 (show Tryz.prog.info? 5 = some Tryz.t5 by kernel_rfl) rfl rfl rfl rfl (by decide) rfl rfl ho3 (rd_blk hb3 rfl) (by simp [Value.oneCell']) (by simp only [maxLen]; omega) (by omega)) rfl rfl rfl ?_; rintro v4 h4 ⟨ho4, hx4, hl4⟩; obtain ⟨A4, c4, rfl, _⟩ := ho4.slice; have hb4 := hx4.obj hb3' (fun e => hne e); refine WL.step (ok_nilCheck rfl) rfl rfl rfl ?_; refine Go ?_; refine WL.stepR0 (okE_store (fun w => Tryz.sizeOf85 w) rfl rfl hb4 (Nat.le_of_ble_eq_true rfl) rfl rfl) rfl rfl ?_; rintro _ h5 ⟨hb5, hx5⟩; refine Gn ?_; refine Gs [] ?_; refine WC.sr ?_; refine Go ?_; refine Gt ?_; exact ⟨rfl, _, ⟨⟨_, hb5, .inr rfl⟩, by simpa using ho4.ext hx5 (fun k hk e => own_ne ho4 hb4 (by decide) (by rw [hk, e])), by simp⟩, (((hx1.mono (fun k _ e => .inl e)).trans (hx3.mono (fun k _ e => e.elim))).trans' hx4 (fun k _ e => .inr e)).trans' hx5 (fun k _ e => .inl e), kin_of hl4 (Nat.le_trans hx1.size hx3.size)⟩)
set_option maxHeartbeats 2000000 in
set_option maxRecDepth 100000 in
theorem builderString {h : Heap} {b : Nat} {v : Value} {bs : List UInt8} (r : Bl h b v bs) (hm : bs.length ≤ 1000000) :
    CallsH Tryz.prog 176 ⟨[.pointer (some ⟨b, 0, none⟩)]⟩ h fun u h' => u = St bs ∧ Ext (fun k => v.ownBlock = some k) h h' := by
  obtain ⟨⟨p, hb, _⟩, ho, hnn⟩ := r
  rcases ho with ⟨_, ⟨rfl, h0⟩ | ⟨g, cap, cur, rfl, hg, hn, hcm, hcs, hct⟩⟩
  · obtain rfl := List.eq_nil_of_length_eq_zero h0
    refine calls [(0, _)] Tryz.func176 rfl Tryz.ntmps176 rfl ⟨rfl, trivial⟩ ?_
    all_goals (refine WC.sr ?_; refine Go ?_; refine WC.seq ?_; refine WC.drawT 10 fol (by kernel_rfl) ?_; show WS _ _ _ [_, _, _, _, _, _, _, _, _, _] _ _ _)
    all_goals (refine WS.step (ok_move rfl) rfl rfl rfl ?_; refine WS.step (ok_nilCheck rfl) rfl rfl rfl ?_; refine WS.step (ok_fieldAddr rfl Tryz.underlying247 rfl (fun w => Tryz.sizeOf85 w)) rfl rfl rfl ?_; refine WS.step (ok_load (fun w => Tryz.isAgg85 w) rfl (by first | assumption | exact cell_blk (by assumption) rfl)) rfl rfl rfl ?_; refine WS.step (ok_sliceData0 rfl) rfl rfl rfl ?_; refine WS.step (ok_move rfl) rfl rfl rfl ?_; refine WS.step (ok_nilCheck rfl) rfl rfl rfl ?_; refine WS.step (ok_fieldAddr rfl Tryz.underlying247 rfl (fun w => Tryz.sizeOf85 w)) rfl rfl rfl ?_; refine WS.step (ok_load (fun w => Tryz.isAgg85 w) rfl (by first | assumption | exact cell_blk (by assumption) rfl)) rfl rfl rfl ?_; refine WS.step (ok_lenL rfl Tryz.underlying85 rfl) rfl rfl rfl ?_; refine WS.nil ?_; show WL _ _ _ [_, _] _ _ _)
    all_goals (refine WL.stepR (okE_unsafeString0 rfl rfl rfl) rfl rfl rfl ?_; rintro _ hz ⟨rfl, _⟩; subst hz; refine WL.step (ok_assign rfl) rfl rfl rfl ?_; refine WL.nil ?_; refine Gn ?_; refine Gs [(2, _)] ?_; refine Gt ?_; exact ⟨rfl, .refl _ _⟩)
  · have hg' : h[g]? = some (.cells ⟨cur.toList⟩ 5 (0, 0)) := hg
    by_cases hc0 : cap = 0
    · have h0 : bs = [] := List.eq_nil_of_length_eq_zero (by omega)
      cases hnn h0
    ·
      refine calls [(0, _)] Tryz.func176 rfl Tryz.ntmps176 rfl ⟨rfl, trivial⟩ ?_
      all_goals (refine WC.sr ?_; refine Go ?_; refine WC.seq ?_; refine WC.drawT 10 fol (by kernel_rfl) ?_; show WS _ _ _ [_, _, _, _, _, _, _, _, _, _] _ _ _)
      all_goals (refine WS.step (ok_move rfl) rfl rfl rfl ?_; refine WS.step (ok_nilCheck rfl) rfl rfl rfl ?_; refine WS.step (ok_fieldAddr rfl Tryz.underlying247 rfl (fun w => Tryz.sizeOf85 w)) rfl rfl rfl ?_; refine WS.step (ok_load (fun w => Tryz.isAgg85 w) rfl (by first | assumption | exact cell_blk (by assumption) rfl)) rfl rfl rfl ?_; refine WS.step (ok_sliceData rfl (by omega)) rfl rfl rfl ?_; refine WS.step (ok_move rfl) rfl rfl rfl ?_; refine WS.step (ok_nilCheck rfl) rfl rfl rfl ?_; refine WS.step (ok_fieldAddr rfl Tryz.underlying247 rfl (fun w => Tryz.sizeOf85 w)) rfl rfl rfl ?_; refine WS.step (ok_load (fun w => Tryz.isAgg85 w) rfl (by first | assumption | exact cell_blk (by assumption) rfl)) rfl rfl rfl ?_; refine WS.step (ok_lenL rfl Tryz.underlying85 rfl) rfl rfl rfl ?_; refine WS.nil ?_; show WL _ _ _ [_, _] _ _ _)
      all_goals (refine WL.stepR (okE_unsafeString rfl Tryz.underlying273 (by kernel_rfl) rfl rfl rfl hg' (by simpa using hct) (by unfold maxLen; omega)) rfl rfl rfl ?_; rintro _ h1 ⟨rfl, hx1⟩; refine WL.step (ok_assign rfl) rfl rfl rfl ?_; refine WL.nil ?_; refine Gn ?_; refine Gs [(2, _)] ?_; refine Gt ?_; exact ⟨rfl, hx1.mono (fun k _ e => by rw [e]; rfl)⟩)
set_option maxHeartbeats 2000000 in
set_option maxRecDepth 100000 in
theorem least_any {h : Heap} (m : Nat) (hm : m ≤ 9223372036854775808) :
    CallsH Tryz.prog 174 ⟨[In (-(m : Int))]⟩ h fun u h' => Own h' u 5 1 (rdig m).length (bys (rdig m)) ∧ Ext No h h' ∧ ∀ k, u.ownBlock = some k → h.size ≤ k := by
  have hlm := rdig_len20 m hm
  refine calls [(0, _)] Tryz.func174 rfl Tryz.ntmps174 rfl ⟨rfl, trivial⟩ ?_
  all_goals (refine WC.sr ?_; refine Go ?_; refine WC.sr ?_; refine Go ?_; refine WC.block ?_)
  -- loop 0: slots that turn [0, 3], that stay []
  all_goals (refine WC.loopG (X := List UInt8 × Value × Nat) (fun x => ([(3, x.2.1), (0, In (-(x.2.2 : Int)))] : Fr)) [] (fun x h' => x.2.2 ≤ m ∧ x.1 ++ rdig x.2.2 = rdig m ∧ Own h' x.2.1 5 1 x.1.length (bys x.1) ∧ Ext No h h' ∧ ∀ k, x.2.1.ownBlock = some k → h.size ≤ k) (fun x => x.2.2) (([], .slice none 0 0, m)) ⟨rfl, rfl, trivial⟩ (by exact ⟨Nat.le_refl _, rfl, Own.nil _ _ _, .refl _ _, by simp [Value.ownBlock]⟩) ?_)
  all_goals (rintro ⟨out, v1, q⟩ h1 ⟨hq, hout, ho1, hx1, hf1⟩
             simp only at hq hout ho1 hf1
             obtain ⟨A1, c1, rfl, _⟩ := ho1.slice
             have hlo := congrArg List.length hout
             rw [List.length_append] at hlo
             have hpos := rdig_pos q
             have e1 := tdiv_neg10 q
             have e2 := tmod_neg10 q)
  all_goals (refine WC.sub [(0, _), (3, _)] ⟨rfl, rfl, trivial⟩ ?_; dsimp only)
  all_goals (refine WC.block ?_; refine WC.sr ?_; refine Go ?_; refine WL.step (ok_rem rfl rfl (by decide)) rfl rfl rfl ?_; rw [e2])
  all_goals (refine WL.step (ok_subI rfl rfl (by omega)) rfl rfl rfl ?_; refine WL.step (ok_convU8 Tryz.underlying3 Tryz.underlying5 rfl (by omega)) rfl rfl rfl ?_; rw [show (48 - -((q % 10 : Nat) : Int)) = 48 + (q % 10 : Nat) by omega, ← by_dig])
  all_goals (refine WL.stepR (okE_buildSlice (vs := [_]) (cs := [_]) (fun | [a0] => [a0] | _ => []) Tryz.underlying85 rfl rfl (by kernel_rfl)) rfl rfl rfl ?_; rintro _ h3 ⟨b3, rfl, hg3, hb3, hx3⟩; refine WL.stepR (ok_append (sz := 1) (bytes := 1) rfl Tryz.underlying85 (show Tryz.prog.info? 5 = some Tryz.t5 by kernel_rfl) rfl rfl rfl rfl (by decide) rfl rfl (ho1.ext hx3 (fun _ _ => nos)) (rd_blk hb3 rfl) (by simp [Value.oneCell']) (by simp only [maxLen]; omega) (by omega)) rfl rfl rfl ?_; rintro v4 h4 ⟨ho4, hx4, hl4⟩; have hf4 := fresh_of hl4 hf1 (by have := hx1.size; have := hx3.size; omega); have hE4 := (hx1.trans hx3).trans' hx4 (fun q hq e => by have := hf1 q e; omega); refine Go ?_; refine Gs [(0, _), (3, _)] ?_; refine WC.sr ?_; refine Go ?_; refine WL.step (ok_quoI rfl rfl (by decide) (tdiv_in (by omega) (by decide))) rfl rfl rfl ?_; rw [e1])
  all_goals (refine WL.step (ok_assign rfl) rfl rfl rfl ?_; refine Gn ?_; refine WC.sr ?_; refine Go ?_; refine goC 1 2 (Hb.mk fun hb => ?_) (Hb.mk fun hb => ?_))
  all_goals (first | (fail_if_success refine goB 1 ?_) | (
  refine goB 1 ?_
  all_goals (refine WC.sr ?_; refine Go ?_; refine Gs [(2, _)] ?_; refine Gt ?_; exact ⟨by rw [← hout, rdig_lt (m := q) (by omega)]; have e9 : q % 10 = q := Nat.mod_eq_of_lt (by omega); rw [e9] at ho4; simpa using ho4, hE4, hf4⟩)
  skip))
  all_goals (refine goB 2 ?_; refine WC.skip ?_; refine Gn ?_; exact ⟨(out ++ [UInt8.ofNat (48 + q % 10)], _, q / 10), ⟨rfl, rfl, trivial⟩, (by exact ⟨by simp; omega, by rw [← hout, rdig_ge (m := q) (by omega)]; simp, by simpa using ho4, hE4, hf4⟩), (by simp; omega)⟩)
theorem get_by {l : List UInt8} {j : Nat} {y : UInt8} (hy : l[j]? = some y) : (bys l)[j]? = some (By y) := by simp [hy]
theorem drop_snoc {l : List UInt8} {j : Nat} {y : UInt8} (hy : l[j]? = some y) : (l.drop j).reverse = (l.drop (j + 1)).reverse ++ [y] := by
  rw [List.drop_eq_getElem?_toList_append, hy]
  simp
theorem own_blt {h : Heap} {b : Nat} {v : Value} {bs : List UInt8} (r : Bl h b v bs) : b < h.size := by
  obtain ⟨⟨p, hb, _⟩, _⟩ := r
  exact lt_of_some hb
set_option maxHeartbeats 2000000 in
set_option maxRecDepth 100000 in
theorem text_pos {h : Heap} (m : Nat) (hm : m ≤ 9223372036854775807) :
    CallsH Tryz.prog 132 ⟨[In m]⟩ h fun u h' => u = St (deci m) ∧ Ext No h h' := by
  have ed : deci (m : Int) = dig m := by unfold deci; rw [if_neg (by omega)]; rfl
  have hlm := rdig_len20 m (by omega)
  refine calls [(0, _)] Tryz.func132 rfl Tryz.ntmps132 rfl ⟨rfl, trivial⟩ ?_
  all_goals (refine WC.sr ?_; refine Go ?_; refine WC.sr ?_; refine Go ?_; refine WC.seq ?_; refine WC.sr ?_; refine Go ?_; refine Gs [(0, _), (3, _), (10, _)] ?_; refine goC 1 2 ?_ TT.mk; refine goB 1 ?_; refine WC.region ?_; refine Go ?_; refine WL.step (ok_negI rfl (by omega)) rfl rfl rfl ?_; refine Go ?_; refine Gn ?_; refine WC.sr ?_; refine Go ?_; refine WL.call (vs := [_]) rfl (fun a w => Tryz.call174 a w) rfl (least_any m (by omega)) rfl rfl rfl ?_; rintro v4 h4 ⟨ho4, hx4, hf4⟩; obtain ⟨A4, c4, rfl, _⟩ := ho4.slice; refine Go ?_; refine Gs [(3, _), (4, _)] ?_; refine WC.seq ?_; refine WC.sr ?_; refine Go ?_; refine goC 3 4 ?_ TT.mk; refine goB 4 ?_; refine WC.skip ?_; refine Gn ?_; refine WC.sr ?_; refine WL.stepR (okE_alloc (fun w => Tryz.zeroValue247 w)) rfl rfl rfl ?_; rintro _ h5 ⟨b5, rfl, hg5, hb5, hx5⟩; have hob := ho4.ext hx5 (fun _ _ => nos); (have hfb : ∀ k, (Value.slice A4 (rdig m).length c4).ownBlock = some k → k < b5 := fun k e => by have := ho4.lt e; omega); refine Gn ?_; refine WC.seq ?_; refine WC.sr ?_; refine Go ?_; refine Gs [(4, _), (5, _), (6, _)] ?_; refine WC.block ?_)
  -- loop 0: slots that turn [6], that stay [4, 5]
  all_goals (refine WC.loopG (X := Nat × Value) (fun x => ([(6, In ((x.1 : Int) - 1))] : Fr)) [(4, _), (5, _)] (fun x h' => x.1 ≤ (rdig m).length ∧ Bl h' b5 x.2 ((rdig m).drop x.1).reverse ∧ Own h' (Value.slice A4 (rdig m).length c4) 5 1 (rdig m).length (bys (rdig m)) ∧ Ext No h h' ∧ h.size ≤ b5 ∧ ∀ k, x.2.ownBlock = some k → b5 < k) (fun x => x.1) (((rdig m).length, .slice none 0 0)) ⟨rfl, rfl, rfl, trivial⟩ (by exact ⟨Nat.le_refl _, by simpa [Bl] using (⟨⟨_, hb5, .inl rfl⟩, Own.nil _ _ _⟩ : _ ∧ _), hob, hx4.trans hx5, Nat.le_trans hx4.size hg5, by simp [Value.ownBlock]⟩) ?_; rintro ⟨k, v6⟩ h6 ⟨hk, hbl, ho6, hx6, hg6, hf6⟩; simp only at hk hbl hf6)
  all_goals (refine WC.sub [(6, _), (4, _), (5, _)] ⟨rfl, rfl, rfl, trivial⟩ ?_; dsimp only)
  all_goals (refine WC.seq ?_; refine WC.sr ?_; refine Go ?_; refine goC 5 6 (Hb.mk fun hb => ?_) (Hb.mk fun hb => ?_))
  all_goals (first | (fail_if_success refine goB 5 ?_) | (
  refine goB 5 ?_
  all_goals (refine WC.skip ?_)
  skip))
  all_goals (first | (fail_if_success refine goB 6 ?_) | (
  refine goB 6 ?_
  all_goals (refine WC.exit ?_; repeat' (with_reducible first | refine thenP_x ?_ | refine blockP_miss rfl ?_ | refine blockP_hit ?_ | refine blockP_n ?_ | refine thenP_n ?_))
  all_goals (refine Br.out (i := 1000) ?_)
  skip))
  all_goals (refine Gn ?_; first | (refine Br.keep ?_) | (refine WC.seq ?_))
  all_goals (first | (refine Br.keep ?_) | (refine WC.block ?_))
  all_goals (first
               | (refine Br.keep ?_)
               | (obtain ⟨bL, oL, hA, hbL, hat⟩ := Rd.at_ ho6.rd (by omega)
                  obtain ⟨j, rfl⟩ : ∃ j, k = j + 1 := ⟨k - 1, by omega⟩
                  obtain ⟨y, hy⟩ : ∃ y, (rdig m)[j]? = some y := ⟨_, List.getElem?_eq_getElem (by omega)⟩
                  have hc := hat.get (p := oL + j * 1) (v := By y) j (get_by hy) (by omega)
                  have e8 : (((j + 1 : Nat) : Int) - 1) = (j : Nat) := by omega
                  rw [e8]))
  all_goals (first | (refine Br.keep ?_) | (refine WC.region ?_))
  all_goals (refine Go ?_; first | (refine Br.keep ?_) | (refine WL.step (ok_idxAddrA Tryz.underlying85 (fun w => Tryz.sizeOf5 w) rfl rfl rfl (by omega) (by first | rfl | assumption)) rfl rfl rfl ?_))
  all_goals (first | (refine Br.keep ?_) | (refine Ld ?_))
  all_goals (first
               | (refine Br.keep ?_)
               | (refine WL.call (vs := [_, _]) rfl (fun a w => Tryz.call175 a w) rfl (writeByte hbl y (by simp; omega)) rfl rfl rfl ?_
                  rintro _ h7 ⟨rfl, v7, hbl7, hx7, hk7⟩))
  all_goals (refine Gn ?_; first | (refine Br.keep ?_) | (refine Gs [(4, _), (5, _), (6, _)] ?_))
  all_goals (first | (refine Br.keep ?_) | (refine WC.region ?_))
  all_goals (refine Go ?_; first | (refine Br.keep ?_) | (exact ⟨(j, _), ⟨rfl, rfl, rfl, trivial⟩, (by exact ⟨by simp; omega, by rw [drop_snoc hy]; exact hbl7, ho6.ext hx7 (fun q hq e => e.elim (fun e => by have := hfb q hq; omega) (fun e => by have := hfb q hq; have := hf6 q e; omega)), hx6.trans' hx7 (fun q hq e => e.elim (fun e => by omega) (fun e => by have := hf6 q e; omega)), hg6, fun q hq => (hk7 q hq).elim (hf6 q) (fun e => Nat.lt_of_lt_of_le (own_blt hbl) e)⟩), (by simp)⟩))
  all_goals (try (refine Br.mk (i := 1000) ?_))
  all_goals (refine Gn ?_; refine Gs [(5, _)] ?_; refine WC.sr ?_; refine WL.call (vs := [_]) rfl (fun a w => Tryz.call176 a w) rfl (builderString hbl (by simp; omega)) rfl rfl rfl ?_; rintro _ h8 ⟨rfl, hx8⟩; refine Go ?_; refine Gt ?_; exact ⟨by rw [show k = 0 by omega, ed]; simp [dig], hx6.trans' hx8 (fun q hq e => by have := hf6 q e; omega)⟩)
set_option maxHeartbeats 2000000 in
set_option maxRecDepth 100000 in
theorem text_neg {h : Heap} (m : Nat) (h0 : 0 < m) (hm : m ≤ 9223372036854775808) :
    CallsH Tryz.prog 132 ⟨[In (-(m : Int))]⟩ h fun u h' => u = St (deci (-(m : Int))) ∧ Ext No h h' := by
  have ed : deci (-(m : Int)) = 45 :: dig m := by unfold deci; rw [if_pos (by omega)]; simp
  have hlm := rdig_len20 m (by omega)
  refine calls [(0, _)] Tryz.func132 rfl Tryz.ntmps132 rfl ⟨rfl, trivial⟩ ?_
  all_goals (refine WC.sr ?_; refine Go ?_; refine WC.sr ?_; refine Go ?_; refine WC.seq ?_; refine WC.sr ?_; refine Go ?_; refine Gs [(0, _), (3, _), (10, _)] ?_; refine goC 1 2 ?_ TT.mk; refine goB 2 ?_; refine WC.skip ?_; refine Gn ?_; refine WC.sr ?_; refine Go ?_; refine WL.call (vs := [_]) rfl (fun a w => Tryz.call174 a w) rfl (least_any m (by omega)) rfl rfl rfl ?_; rintro v4 h4 ⟨ho4, hx4, hf4⟩; refine Go ?_; refine Gs [(3, _), (4, _)] ?_; refine WC.seq ?_; refine WC.sr ?_; refine Go ?_; refine goC 3 4 ?_ TT.mk; refine goB 3 ?_; refine WC.region ?_; refine Go ?_; refine WL.stepR (okE_buildSlice (vs := [_]) (cs := [_]) (fun | [a0] => [a0] | _ => []) Tryz.underlying85 rfl rfl (by kernel_rfl)) rfl rfl rfl ?_; rintro _ h3 ⟨b3, rfl, hg3, hb3, hx3⟩; refine WL.stepR (ok_append (sz := 1) (bytes := 1) rfl Tryz.underlying85 (show Tryz.prog.info? 5 = some Tryz.t5 by kernel_rfl) rfl rfl rfl rfl (by decide) rfl rfl (ho4.ext hx3 (fun _ _ => nos)) (rd_blk hb3 rfl) (by simp [Value.oneCell']) (by simp only [maxLen]; omega) (by omega)) rfl rfl rfl ?_; rintro v7 h7 ⟨ho7, hx7, hl7⟩)
  all_goals (have hf7 := fresh_of hl7 hf4 (by have := hx4.size; have := hx3.size; omega)
             have hX7 := (hx4.trans hx3).trans' hx7 (fun q hq e => by have := hf4 q e; omega)
             have e45 : bys (rdig m) ++ [.int .u8 45] = bys (rdig m ++ [45]) := by simp
             have l45 : (rdig m).length + 1 = (rdig m ++ [45]).length := by simp
             rw [e45, l45] at ho7
             have hlf : (rdig m ++ [45]).length ≤ 21 := by omega
             obtain ⟨A7, c7, rfl, _⟩ := ho7.slice)
  all_goals (refine Go ?_; refine Gn ?_; refine WC.sr ?_; refine WL.stepR (okE_alloc (fun w => Tryz.zeroValue247 w)) rfl rfl rfl ?_; rintro _ h5 ⟨b5, rfl, hg5, hb5, hx5⟩; have hob := ho7.ext hx5 (fun _ _ => nos); (have hfb : ∀ k, (Value.slice A7 (rdig m ++ [45]).length c7).ownBlock = some k → k < b5 := fun k e => by have := ho7.lt e; omega); refine Gn ?_; refine WC.seq ?_; refine WC.sr ?_; refine Go ?_; refine Gs [(4, _), (5, _), (6, _)] ?_; refine WC.block ?_)
  -- loop 0: slots that turn [6], that stay [4, 5]
  all_goals (refine WC.loopG (X := Nat × Value) (fun x => ([(6, In ((x.1 : Int) - 1))] : Fr)) [(4, _), (5, _)] (fun x h' => x.1 ≤ (rdig m ++ [45]).length ∧ Bl h' b5 x.2 ((rdig m ++ [45]).drop x.1).reverse ∧ Own h' (Value.slice A7 (rdig m ++ [45]).length c7) 5 1 (rdig m ++ [45]).length (bys (rdig m ++ [45])) ∧ Ext No h h' ∧ h.size ≤ b5 ∧ ∀ k, x.2.ownBlock = some k → b5 < k) (fun x => x.1) (((rdig m ++ [45]).length, .slice none 0 0)) ⟨rfl, rfl, rfl, trivial⟩ (by exact ⟨Nat.le_refl _, by simpa [Bl] using (⟨⟨_, hb5, .inl rfl⟩, Own.nil _ _ _⟩ : _ ∧ _), hob, hX7.trans hx5, Nat.le_trans hX7.size hg5, by simp [Value.ownBlock]⟩) ?_; rintro ⟨k, v6⟩ h6 ⟨hk, hbl, ho6, hx6, hg6, hf6⟩; simp only at hk hbl hf6)
  all_goals (refine WC.sub [(6, _), (4, _), (5, _)] ⟨rfl, rfl, rfl, trivial⟩ ?_; dsimp only)
  all_goals (refine WC.seq ?_; refine WC.sr ?_; refine Go ?_; refine goC 5 6 (Hb.mk fun hb => ?_) (Hb.mk fun hb => ?_))
  all_goals (first | (fail_if_success refine goB 5 ?_) | (
  refine goB 5 ?_
  all_goals (refine WC.skip ?_)
  skip))
  all_goals (first | (fail_if_success refine goB 6 ?_) | (
  refine goB 6 ?_
  all_goals (refine WC.exit ?_; repeat' (with_reducible first | refine thenP_x ?_ | refine blockP_miss rfl ?_ | refine blockP_hit ?_ | refine blockP_n ?_ | refine thenP_n ?_))
  all_goals (refine Br.out (i := 1000) ?_)
  skip))
  all_goals (refine Gn ?_; first | (refine Br.keep ?_) | (refine WC.seq ?_))
  all_goals (first | (refine Br.keep ?_) | (refine WC.block ?_))
  all_goals (first
               | (refine Br.keep ?_)
               | (obtain ⟨bL, oL, hA, hbL, hat⟩ := Rd.at_ ho6.rd (by omega)
                  obtain ⟨j, rfl⟩ : ∃ j, k = j + 1 := ⟨k - 1, by omega⟩
                  obtain ⟨y, hy⟩ : ∃ y, (rdig m ++ [45])[j]? = some y := ⟨_, List.getElem?_eq_getElem (by omega)⟩
                  have hc := hat.get (p := oL + j * 1) (v := By y) j (get_by hy) (by omega)
                  have e8 : (((j + 1 : Nat) : Int) - 1) = (j : Nat) := by omega
                  rw [e8]))
  all_goals (first | (refine Br.keep ?_) | (refine WC.region ?_))
  all_goals (refine Go ?_; first | (refine Br.keep ?_) | (refine WL.step (ok_idxAddrA Tryz.underlying85 (fun w => Tryz.sizeOf5 w) rfl rfl rfl (by omega) (by first | rfl | assumption)) rfl rfl rfl ?_))
  all_goals (first | (refine Br.keep ?_) | (refine Ld ?_))
  all_goals (first
               | (refine Br.keep ?_)
               | (refine WL.call (vs := [_, _]) rfl (fun a w => Tryz.call175 a w) rfl (writeByte hbl y (by simp; omega)) rfl rfl rfl ?_
                  rintro _ h7 ⟨rfl, v7, hbl7, hx7, hk7⟩))
  all_goals (refine Gn ?_; first | (refine Br.keep ?_) | (refine Gs [(4, _), (5, _), (6, _)] ?_))
  all_goals (first | (refine Br.keep ?_) | (refine WC.region ?_))
  all_goals (refine Go ?_; first | (refine Br.keep ?_) | (exact ⟨(j, _), ⟨rfl, rfl, rfl, trivial⟩, (by exact ⟨by simp; omega, by rw [drop_snoc hy]; exact hbl7, ho6.ext hx7 (fun q hq e => e.elim (fun e => by have := hfb q hq; omega) (fun e => by have := hfb q hq; have := hf6 q e; omega)), hx6.trans' hx7 (fun q hq e => e.elim (fun e => by omega) (fun e => by have := hf6 q e; omega)), hg6, fun q hq => (hk7 q hq).elim (hf6 q) (fun e => Nat.lt_of_lt_of_le (own_blt hbl) e)⟩), (by simp)⟩))
  all_goals (try (refine Br.mk (i := 1000) ?_))
  all_goals (refine Gn ?_; refine Gs [(5, _)] ?_; refine WC.sr ?_; refine WL.call (vs := [_]) rfl (fun a w => Tryz.call176 a w) rfl (builderString hbl (by simp; omega)) rfl rfl rfl ?_; rintro _ h8 ⟨rfl, hx8⟩; refine Go ?_; refine Gt ?_; exact ⟨by rw [show k = 0 by omega, ed]; simp [dig], hx6.trans' hx8 (fun q hq e => by have := hf6 q e; omega)⟩)
theorem text_any {h : Heap} (n : Int) (h0 : -9223372036854775808 ≤ n) (h1 : n ≤ 9223372036854775807) :
    CallsH Tryz.prog 132 ⟨[In n]⟩ h fun u h' => u = St (deci n) ∧ Ext No h h' := by
  by_cases hp : 0 ≤ n
  · obtain ⟨m, rfl⟩ := Int.eq_ofNat_of_zero_le hp
    exact text_pos m (by omega)
  · obtain ⟨m, rfl⟩ : ∃ m : Nat, n = -(m : Int) := ⟨n.natAbs, by omega⟩
    exact text_neg m (by omega) (by omega)
end Go.Proofs.YtbokngiajfdanaaGreatDoor


/-
  TELL (layer 9): what is said of names, and the document's words.
-/
namespace Go.Proofs.YtbokngiajfdanaaGreatDoor
open Go Go.RK

def quoteL (n : List UInt8) : List UInt8 := [34] ++ n ++ [34]
def saysL (t n w : List UInt8) : List UInt8 := t ++ [32] ++ quoteL n ++ [32] ++ w
def missL (n : List UInt8) : List UInt8 := if n = [] then ([117, 110, 110, 97, 109, 101, 100, 32, 112, 114, 101, 112, 97, 114, 101, 100, 32, 115, 116, 97, 116, 101, 109, 101, 110, 116, 32, 100, 111, 101, 115, 32, 110, 111, 116, 32, 101, 120, 105, 115, 116] : List UInt8) else saysL ([112, 114, 101, 112, 97, 114, 101, 100, 32, 115, 116, 97, 116, 101, 109, 101, 110, 116] : List UInt8) n ([100, 111, 101, 115, 32, 110, 111, 116, 32, 101, 120, 105, 115, 116] : List UInt8)
def exisL (n : List UInt8) : List UInt8 := saysL ([112, 114, 101, 112, 97, 114, 101, 100, 32, 115, 116, 97, 116, 101, 109, 101, 110, 116] : List UInt8) n ([97, 108, 114, 101, 97, 100, 121, 32, 101, 120, 105, 115, 116, 115] : List UInt8)
def needL (n : List UInt8) : List UInt8 := ([44, 32, 98, 117, 116, 32, 112, 114, 101, 112, 97, 114, 101, 100, 32, 115, 116, 97, 116, 101, 109, 101, 110, 116, 32] : List UInt8) ++ quoteL n ++ ([32, 114, 101, 113, 117, 105, 114, 101, 115, 32] : List UInt8)
def arityL (p : Int) (n : List UInt8) (w : Int) : List UInt8 := ([98, 105, 110, 100, 32, 109, 101, 115, 115, 97, 103, 101, 32, 115, 117, 112, 112, 108, 105, 101, 115, 32] : List UInt8) ++ deci p ++ ([32, 112, 97, 114, 97, 109, 101, 116, 101, 114, 115] : List UInt8) ++ needL n ++ deci w
theorem quote_len (n : List UInt8) : (quoteL n).length = n.length + 2 := by simp [quoteL]
theorem need_len (n : List UInt8) : (needL n).length = n.length + 37 := by simp [needL, quote_len]

set_option maxHeartbeats 2000000 in
set_option maxRecDepth 100000 in
theorem quote_any {h : Heap} (n : List UInt8) (hn : n.length ≤ 1000000) : CallsH Tryz.prog 172 ⟨[St n]⟩ h fun u h' => u = St (quoteL n) ∧ h' = h := by
  refine calls [(0, _)] Tryz.func172 rfl Tryz.ntmps172 rfl ⟨rfl, trivial⟩ ?_
  all_goals (refine WC.sr ?_; refine Go ?_; refine WC.sr ?_; refine Go ?_; refine WL.step (ok_catS rfl rfl (by first | (simp only [List.length_append, List.length_cons, List.length_nil]; omega) | (simp; omega))) rfl rfl rfl ?_; refine WL.step (ok_catS rfl rfl (by first | (simp only [List.length_append, List.length_cons, List.length_nil]; omega) | (simp; omega))) rfl rfl rfl ?_; refine Go ?_; refine Gs [(2, _)] ?_; refine Gt ?_; exact ⟨rfl, rfl⟩)
set_option maxHeartbeats 2000000 in
set_option maxRecDepth 100000 in
theorem says_any {h : Heap} (t n w : List UInt8) (ht : t.length ≤ 100) (hn : n.length ≤ 100000) (hw : w.length ≤ 100) : CallsH Tryz.prog 129 ⟨[St t, St n, St w]⟩ h fun u h' => u = St (saysL t n w) ∧ Ext No h h' := by
  have hq := quote_len n
  refine calls [(0, _), (1, _), (2, _)] Tryz.func129 rfl Tryz.ntmps129 rfl ⟨rfl, rfl, rfl, trivial⟩ ?_
  all_goals (refine WC.sr ?_; refine Go ?_; refine WC.sr ?_; refine Go ?_; refine WL.call (vs := [_]) rfl (fun a w => Tryz.call172 a w) rfl (quote_any n (by omega)) rfl rfl rfl ?_; rintro _ hz ⟨rfl, _⟩; subst hz; refine Go ?_; refine WL.stepR (okE_buildSlice (vs := [_, _, _]) (cs := [_, _, _]) (fun | [a0, a1, a2] => [a0, a1, a2] | _ => []) Tryz.underlying35 rfl rfl (by kernel_rfl)) rfl rfl rfl ?_; rintro _ h1 ⟨b1, rfl, hg1, hb1, hx1⟩; refine WL.call (vs := [_, _]) rfl (fun a w => Tryz.call171 a w) rfl (join3 t (quoteL n) w hb1 (by omega)) rfl rfl rfl ?_; rintro _ h2 ⟨rfl, hx2⟩; refine Go ?_; refine Gs [(6, _)] ?_; refine Gt ?_; exact ⟨rfl, hx1.trans hx2⟩)
set_option maxHeartbeats 2000000 in
set_option maxRecDepth 100000 in
theorem missing_any {h : Heap} (n : List UInt8) (hn : n.length ≤ 100000) : CallsH Tryz.prog 130 ⟨[St n]⟩ h fun u h' => u = St (missL n) ∧ Ext No h h' := by
  by_cases h0 : n = []
  · subst h0
    refine calls [(0, _)] Tryz.func130 rfl Tryz.ntmps130 rfl ⟨rfl, trivial⟩ ?_
    all_goals (refine WC.sr ?_; refine Go ?_; refine WC.seq ?_; refine WC.sr ?_; refine Go ?_; refine goC 1 2 ?_ TT.mk; refine goB 1 ?_; refine WC.sr ?_; refine Go ?_; refine Gt ?_; exact ⟨rfl, .refl _ _⟩)
  · rw [missL, if_neg h0]
    refine calls [(0, _)] Tryz.func130 rfl Tryz.ntmps130 rfl ⟨rfl, trivial⟩ ?_
    all_goals (refine WC.sr ?_; refine Go ?_; refine WC.seq ?_; refine WC.sr ?_; refine Go ?_; refine goC 1 2 ?_ TT.mk; refine goB 2 ?_; refine WC.skip ?_; refine Gn ?_; refine WC.sr ?_; refine Go ?_; refine WL.call (vs := [_, _, _]) rfl (fun a w => Tryz.call129 a w) rfl (says_any ([112, 114, 101, 112, 97, 114, 101, 100, 32, 115, 116, 97, 116, 101, 109, 101, 110, 116] : List UInt8) n ([100, 111, 101, 115, 32, 110, 111, 116, 32, 101, 120, 105, 115, 116] : List UInt8) (by simp) hn (by simp)) rfl rfl rfl ?_; rintro _ h2 ⟨rfl, hx2⟩; refine Go ?_; refine Gs [(2, _)] ?_; refine Gt ?_; exact ⟨rfl, hx2⟩)
set_option maxHeartbeats 2000000 in
set_option maxRecDepth 100000 in
theorem exists_any {h : Heap} (n : List UInt8) (hn : n.length ≤ 100000) : CallsH Tryz.prog 80 ⟨[St n]⟩ h fun u h' => u = St (exisL n) ∧ Ext No h h' := by
  refine calls [(0, _)] Tryz.func80 rfl Tryz.ntmps80 rfl ⟨rfl, trivial⟩ ?_
  all_goals (refine WC.sr ?_; refine Go ?_; refine WC.sr ?_; refine Go ?_; refine WL.call (vs := [_, _, _]) rfl (fun a w => Tryz.call129 a w) rfl (says_any ([112, 114, 101, 112, 97, 114, 101, 100, 32, 115, 116, 97, 116, 101, 109, 101, 110, 116] : List UInt8) n ([97, 108, 114, 101, 97, 100, 121, 32, 101, 120, 105, 115, 116, 115] : List UInt8) (by simp) hn (by simp)) rfl rfl rfl ?_; rintro _ h2 ⟨rfl, hx2⟩; refine Go ?_; refine Gt ?_; exact ⟨rfl, hx2⟩)
set_option maxHeartbeats 2000000 in
set_option maxRecDepth 100000 in
theorem portal_any {h : Heap} (n : List UInt8) (hn : n.length ≤ 100000) : CallsH Tryz.prog 136 ⟨[St n]⟩ h fun u h' => u = St (saysL ([112, 111, 114, 116, 97, 108] : List UInt8) n ([100, 111, 101, 115, 32, 110, 111, 116, 32, 101, 120, 105, 115, 116] : List UInt8)) ∧ Ext No h h' := by
  refine calls [(0, _)] Tryz.func136 rfl Tryz.ntmps136 rfl ⟨rfl, trivial⟩ ?_
  all_goals (refine WC.sr ?_; refine Go ?_; refine WC.sr ?_; refine Go ?_; refine WL.call (vs := [_, _, _]) rfl (fun a w => Tryz.call129 a w) rfl (says_any ([112, 111, 114, 116, 97, 108] : List UInt8) n ([100, 111, 101, 115, 32, 110, 111, 116, 32, 101, 120, 105, 115, 116] : List UInt8) (by simp) hn (by simp)) rfl rfl rfl ?_; rintro _ h2 ⟨rfl, hx2⟩; refine Go ?_; refine Gt ?_; exact ⟨rfl, hx2⟩)
set_option maxHeartbeats 2000000 in
set_option maxRecDepth 100000 in
theorem cursor_any {h : Heap} (n : List UInt8) (hn : n.length ≤ 100000) : CallsH Tryz.prog 86 ⟨[St n]⟩ h fun u h' => u = St (saysL ([99, 117, 114, 115, 111, 114] : List UInt8) n ([97, 108, 114, 101, 97, 100, 121, 32, 101, 120, 105, 115, 116, 115] : List UInt8)) ∧ Ext No h h' := by
  refine calls [(0, _)] Tryz.func86 rfl Tryz.ntmps86 rfl ⟨rfl, trivial⟩ ?_
  all_goals (refine WC.sr ?_; refine Go ?_; refine WC.sr ?_; refine Go ?_; refine WL.call (vs := [_, _, _]) rfl (fun a w => Tryz.call129 a w) rfl (says_any ([99, 117, 114, 115, 111, 114] : List UInt8) n ([97, 108, 114, 101, 97, 100, 121, 32, 101, 120, 105, 115, 116, 115] : List UInt8) (by simp) hn (by simp)) rfl rfl rfl ?_; rintro _ h2 ⟨rfl, hx2⟩; refine Go ?_; refine Gt ?_; exact ⟨rfl, hx2⟩)
set_option maxHeartbeats 2000000 in
set_option maxRecDepth 100000 in
theorem needs_any {h : Heap} (n : List UInt8) (hn : n.length ≤ 100000) : CallsH Tryz.prog 133 ⟨[St n]⟩ h fun u h' => u = St (needL n) ∧ h' = h := by
  have hq := quote_len n
  refine calls [(0, _)] Tryz.func133 rfl Tryz.ntmps133 rfl ⟨rfl, trivial⟩ ?_
  all_goals (refine WC.sr ?_; refine Go ?_; refine WC.sr ?_; refine Go ?_; refine WL.call (vs := [_]) rfl (fun a w => Tryz.call172 a w) rfl (quote_any n (by omega)) rfl rfl rfl ?_; rintro _ hz ⟨rfl, _⟩; subst hz; refine WL.step (ok_catS rfl rfl (by first | (simp only [List.length_append, List.length_cons, List.length_nil]; omega) | (simp; omega))) rfl rfl rfl ?_; refine WL.step (ok_catS rfl rfl (by first | (simp only [List.length_append, List.length_cons, List.length_nil]; omega) | (simp; omega))) rfl rfl rfl ?_; refine Go ?_; refine Gs [(2, _)] ?_; refine Gt ?_; exact ⟨rfl, rfl⟩)
set_option maxHeartbeats 2000000 in
set_option maxRecDepth 100000 in
theorem arity_any {h : Heap} (p : Int) (n : List UInt8) (w : Int) (hn : n.length ≤ 100000) (hp : -9223372036854775808 ≤ p ∧ p ≤ 9223372036854775807) (hw : -9223372036854775808 ≤ w ∧ w ≤ 9223372036854775807) :
    CallsH Tryz.prog 84 ⟨[In p, St n, In w]⟩ h fun u h' => u = St (arityL p n w) ∧ Ext No h h' := by
  have hq := need_len n
  have hlp := deci_len p (by omega)
  have hlw := deci_len w (by omega)
  refine calls [(0, _), (1, _), (2, _)] Tryz.func84 rfl Tryz.ntmps84 rfl ⟨rfl, rfl, rfl, trivial⟩ ?_
  all_goals (refine WC.sr ?_; refine Go ?_; refine WC.sr ?_; refine Go ?_; refine WL.call (vs := [_]) rfl (fun a w => Tryz.call132 a w) rfl (text_any p hp.1 hp.2) rfl rfl rfl ?_; rintro _ h1 ⟨rfl, hx1⟩; refine WL.step (ok_catS rfl rfl (by first | (simp only [List.length_append, List.length_cons, List.length_nil]; omega) | (simp; omega))) rfl rfl rfl ?_; refine WL.step (ok_catS rfl rfl (by first | (simp only [List.length_append, List.length_cons, List.length_nil]; omega) | (simp; omega))) rfl rfl rfl ?_; refine Go ?_; refine WL.call (vs := [_]) rfl (fun a w => Tryz.call133 a w) rfl (needs_any n hn) rfl rfl rfl ?_; rintro _ hz ⟨rfl, _⟩; subst hz; refine WL.step (ok_catS rfl rfl (by first | (simp only [List.length_append, List.length_cons, List.length_nil]; omega) | (simp; omega))) rfl rfl rfl ?_; refine Go ?_; refine WL.call (vs := [_]) rfl (fun a w => Tryz.call132 a w) rfl (text_any w hw.1 hw.2) rfl rfl rfl ?_; rintro _ h2 ⟨rfl, hx2⟩; refine WL.step (ok_catS rfl rfl (by first | (simp only [List.length_append, List.length_cons, List.length_nil]; omega) | (simp; omega))) rfl rfl rfl ?_; refine Go ?_; refine Gs [(6, _)] ?_; refine Gt ?_; exact ⟨rfl, hx1.trans hx2⟩)

end Go.Proofs.YtbokngiajfdanaaGreatDoor


/-
  COLS (layer 10): package cols and the document's.
-/
namespace Go.Proofs.YtbokngiajfdanaaGreatDoor
open Go Go.RK

/-- How many: from 0 to 1000. -/
def heldN (n : Int) : Nat := (min (max n 0) 1000).toNat
theorem held_le (n : Int) : heldN n ≤ 1000 := by unfold heldN; omega
set_option maxHeartbeats 2000000 in
set_option maxRecDepth 100000 in
theorem held_cols {h : Heap} (n : Int) : CallsH Tryz.prog 212 ⟨[In n]⟩ h fun u h' => u = In (heldN n) ∧ h' = h := by
  refine calls [(0, _)] Tryz.func212 rfl Tryz.ntmps212 rfl ⟨rfl, trivial⟩ ?_
  all_goals (refine WC.sr ?_; refine Go ?_; refine WC.sr ?_; refine Go ?_; refine WL.step (ok_max2 rfl rfl) rfl rfl rfl ?_; refine WL.step (ok_min2 rfl rfl) rfl rfl rfl ?_; refine Go ?_; refine Gs [(2, _)] ?_; refine Gt ?_; exact ⟨by unfold heldN; congr 1; omega, rfl⟩)
/-- The rows that are said. -/
def rowP (i : Nat) : List (Bool × List UInt8) := [(false, deci i)]
set_option maxHeartbeats 2000000 in
set_option maxRecDepth 100000 in
theorem row_cols {h : Heap} (i : Nat) (hi : i ≤ 100000) : CallsH Tryz.prog 191 ⟨[In i]⟩ h fun u h' => ∃ l, Cels h' u l ∧ l.map Cel.pl = rowP i ∧ Ext No h h' ∧ ∀ b, CelsF u l b → h.size ≤ b := by
  have hdl := deci_len i (by omega)
  refine calls [(0, _)] Tryz.func191 rfl Tryz.ntmps191 rfl ⟨rfl, trivial⟩ ?_
  all_goals (refine WC.sr ?_; refine Go ?_; refine WC.sr ?_; refine Go ?_; refine WL.call (vs := [_]) rfl (fun a w => Tryz.call132 a w) rfl (text_any i (by omega) (by omega)) rfl rfl rfl ?_; rintro _ h1 ⟨rfl, hx1⟩; refine WL.stepR (okE_convSB Tryz.underlying9 Tryz.underlying85 Tryz.underlying5 rfl) rfl rfl rfl ?_; rintro _ h2 ⟨b2, c2, rfl, hg2, hr2, hx2⟩; refine WL.step (ok_buildF (vs := [_]) (cs := [_, _]) (fun | [a1] => [(.bool false), a1] | _ => []) rfl rfl (by kernel_rfl)) rfl rfl rfl ?_; refine WL.stepR (okE_buildSlice (vs := [_]) (cs := [_, _]) (fun | [.agg ⟨[a0, a1]⟩] => [a0, a1] | _ => []) Tryz.underlying30 rfl rfl (by kernel_rfl)) rfl rfl rfl ?_; rintro _ h3 ⟨b3, rfl, hg3, hb3, hx3⟩; refine Go ?_; refine Gs [(2, _)] ?_; refine Gt ?_; exact ⟨[⟨false, .slice (some ⟨b2, 0, none⟩) (deci i).length c2, deci i⟩], ⟨rd_blk hb3 rfl, ⟨by simp [reachBytes], _, _, rfl, by simp [maxLen]⟩, by simpa [Cel.ok] using ⟨hr2.ext0 hx3, by unfold reachBytes; omega⟩⟩, rfl, (hx1.trans hx2).trans hx3, by rintro b (⟨_, e⟩ | ⟨c, hc, _, e⟩); simp [Value.ownBlock] at e; have := hx1.size; have := hx2.size; omega; simp at hc; subst hc; simp [Value.ownBlock] at e; have := hx1.size; omega⟩)
/-- What a list of rows that is being made has. -/
structure Mk (h0 h : Heap) (v : Value) (L : List Rw) : Prop where
  own : Own h v 30 1 L.length (L.map Rw.v)
  rows : ∀ r ∈ L, Cels h r.v r.l
  ext : Ext No h0 h
  fresh : ∀ k, v.ownBlock = some k → h0.size ≤ k
  apart : ∀ r ∈ L, ∀ b, CelsF r.v r.l b → v.ownBlock ≠ some b
theorem Mk.done {h0 h : Heap} {v : Value} {L : List Rw} (m : Mk h0 h v L) (hl : L.length ≤ 100000) (hc : ∃ A c, v = .slice A L.length c ∧ c ≤ maxLen) : Rws h v L := ⟨m.own.rd, ⟨by unfold reachBytes; omega, hc⟩, m.rows⟩
theorem Mk.next {h0 h h1 h3 h4 : Heap} {v v4 u : Value} {L : List Rw} {l : List Cel} (m : Mk h0 h v L) (x1 : Ext No h h1) (c1 : Cels h1 u l) (f1 : ∀ b, CelsF u l b → h.size ≤ b) (x3 : Ext No h1 h3)
    (o4 : Own h4 v4 30 1 (L.length + 1) (L.map Rw.v ++ [u])) (x4 : Ext (fun k => v.ownBlock = some k) h3 h4) (hl : v4.ownBlock = v.ownBlock ∨ v4.ownBlock = some h3.size) : Mk h0 h4 v4 (L ++ [⟨u, l⟩]) := by
  have s0 := m.ext.size
  have s1 := x1.size
  have s3 := x3.size
  have x13 := x1.trans x3
  refine ⟨by simpa using o4, fun r hr => ?_, (m.ext.trans x13).trans' x4 fun k hk e => ?_, fresh_of hl m.fresh (by omega), fun r hr b hb e => ?_⟩
  · rcases List.mem_append.1 hr with hr | hr
    · exact ((m.rows r hr).ext0 x13).ext x4 fun b hb e => m.apart r hr b hb e
    · simp at hr
      subst hr
      refine (c1.ext0 x3).ext x4 fun b hb e => ?_
      have := f1 b hb
      have := m.own.lt e
      omega
  · have := m.fresh k e; omega
  · rcases List.mem_append.1 hr with hr | hr
    · have h1 := m.apart r hr b hb
      have h2 := (m.rows r hr).lt hb
      rcases hl with hl | hl
      · exact h1 (hl ▸ e)
      · rw [hl] at e; simp at e; omega
    · simp at hr
      subst hr
      have h1 := f1 b hb
      have h2 := c1.lt hb
      rcases hl with hl | hl
      · rw [hl] at e
        have := m.own.lt e
        omega
      · rw [hl] at e; simp at e; omega
theorem Mk.nil (h : Heap) : Mk h h (.slice none 0 0) [] := ⟨Own.nil _ _ _, by simp, .refl _ _, by simp [Value.ownBlock], by simp⟩
/-- So many rows. -/
def rowsP (n : Nat) : List (List (Bool × List UInt8)) := (List.range n).map fun i => rowP (i + 1)
theorem rowsP_succ (n : Nat) : rowsP (n + 1) = rowsP n ++ [rowP (n + 1)] := by unfold rowsP; rw [List.range_succ]; simp
theorem rowsP_len (n : Nat) : (rowsP n).length = n := by simp [rowsP]

set_option maxHeartbeats 2000000 in
set_option maxRecDepth 100000 in
theorem each_rows {h : Heap} (n : Int) : CallsH Tryz.prog 190 ⟨[In n, .func (.func 191) #[] #[]]⟩ h fun u h' => ∃ L, Rws h' u L ∧ L.map Rw.pl = rowsP (heldN n) ∧ Ext No h h' ∧ ∀ b, RwsF u L b → h.size ≤ b := by
  have hh := held_le n
  refine calls [(0, _), (1, _)] Tryz.func190 rfl Tryz.ntmps190 rfl ⟨rfl, rfl, trivial⟩ ?_
  all_goals (refine WC.sr ?_; refine Go ?_; refine WC.sr ?_; refine Go ?_; refine WC.seq ?_; refine WC.sr ?_; refine Go ?_; refine WL.call (vs := [_]) rfl (fun a w => Tryz.call212 a w) rfl (held_cols n) rfl rfl rfl ?_; rintro _ hz ⟨rfl, _⟩; subst hz; refine Go ?_; refine WC.block ?_)
  -- loop 0: slots that turn [5, 9], that stay [1, 8]
  all_goals (refine WC.loopG (X := Nat × Value × List Rw) (fun x => ([(5, x.2.1), (9, In (x.1 : Int))] : Fr)) [(1, _), (8, _)] (fun x h' => x.1 ≤ heldN n ∧ Mk h h' x.2.1 x.2.2 ∧ x.2.2.map Rw.pl = rowsP x.1 ∧ ∀ r ∈ x.2.2, ∀ b, CelsF r.v r.l b → h.size ≤ b) (fun x => heldN n - x.1) ((0, .slice none 0 0, [])) ⟨rfl, rfl, rfl, rfl, trivial⟩ (by exact ⟨Nat.zero_le _, Mk.nil h, rfl, by simp⟩) ?_)
  all_goals (rintro ⟨k, v1, L⟩ h1 ⟨hk, mk, hp, hf⟩
             simp only at hk mk hp hf
             have hL : L.length = k := by simpa [rowsP_len] using congrArg List.length hp
             obtain ⟨A1, c1, rfl, _⟩ := mk.own.slice)
  all_goals (refine WC.sub [(5, _), (9, _), (1, _), (8, _)] ⟨rfl, rfl, rfl, rfl, trivial⟩ ?_; dsimp only)
  all_goals (refine WC.sr ?_; refine Go ?_; refine WC.seq ?_; refine goC 1 2 (Hb.mk fun hb => ?_) (Hb.mk fun hb => ?_))
  all_goals (first | (fail_if_success refine goB 1 ?_) | (
  refine goB 1 ?_
  all_goals (refine WC.skip ?_)
  skip))
  all_goals (first | (fail_if_success refine goB 2 ?_) | (
  refine goB 2 ?_
  all_goals (refine WC.exit ?_; repeat' (with_reducible first | refine thenP_x ?_ | refine blockP_miss rfl ?_ | refine blockP_hit ?_ | refine blockP_n ?_ | refine thenP_n ?_))
  all_goals (refine Br.out (i := 1000) ?_)
  skip))
  all_goals (refine Gn ?_; first | (refine Br.keep ?_) | (refine WC.seq ?_))
  all_goals (first | (refine Br.keep ?_) | (refine WC.block ?_))
  all_goals (first | (refine Br.keep ?_) | (refine WC.sr ?_))
  all_goals (refine Go ?_; first | (refine Br.keep ?_) | (refine WC.region ?_))
  all_goals (refine Go ?_)
  all_goals (first
               | (refine Br.keep ?_)
               | (have e1 : ((k : Int) + 1) = ((k + 1 : Nat) : Int) := by omega
                  rw [e1]))
  all_goals (first
               | (refine Br.keep ?_)
               | (refine WL.callT (vs := [_]) rfl rfl (fun a w => Tryz.call191 a w) rfl (row_cols (k + 1) (by omega)) rfl rfl rfl ?_
                  rintro u2 h2 ⟨l2, hc2, hp2, hx2, hf2⟩))
  all_goals (first | (refine Br.keep ?_) | (obtain ⟨A2, c2, rfl⟩ : ∃ A c, u2 = .slice A l2.length c := (by obtain ⟨_, ⟨_, A, c, e, _⟩, _⟩ := hc2; exact ⟨A, c, e⟩)))
  all_goals (first
               | (refine Br.keep ?_)
               | (refine WL.stepR (okE_buildSlice (vs := [_]) (cs := [_]) (fun | [a0] => [a0] | _ => []) Tryz.underlying145 rfl rfl (by kernel_rfl)) rfl rfl rfl ?_
                  rintro _ h3 ⟨b3, rfl, hg3, hb3, hx3⟩))
  all_goals (first
               | (refine Br.keep ?_)
               | (refine WL.stepR (ok_append (sz := 1) (bytes := 24) rfl Tryz.underlying145 (show Tryz.prog.info? 30 = some Tryz.t30 by kernel_rfl) rfl rfl rfl rfl (by decide) rfl rfl (mk.own.ext (hx2.trans hx3) (fun _ _ => nos)) (rd_blk hb3 rfl) (by simp [Value.oneCell']) (by simp only [maxLen]; omega) (by omega)) rfl rfl rfl ?_
                  rintro v4 h4 ⟨ho4, hx4, hl4⟩))
  all_goals (first | (refine Br.keep ?_) | (have mk4 := mk.next hx2 hc2 hf2 hx3 ho4 hx4 hl4))
  all_goals (refine Go ?_; first | (refine Br.keep ?_) | (refine Gs [(1, _), (5, _), (8, _), (9, _)] ?_))
  all_goals (first | (refine Br.keep ?_) | (refine WC.region ?_))
  all_goals (refine Go ?_; first | (refine Br.keep ?_) | (exact ⟨(k + 1, _, L ++ [_]), ⟨rfl, rfl, rfl, rfl, trivial⟩, (by exact ⟨by simp; omega, mk4, by rw [List.map_append, hp, rowsP_succ]; simp [Rw.pl, hp2], fun r hr b hb => (List.mem_append.1 hr).elim (fun hr => hf r hr b hb) (fun hr => by simp at hr; subst hr; have := hf2 b hb; have := mk.ext.size; omega)⟩), (by simp; omega)⟩))
  all_goals (try (refine Br.mk (i := 1000) ?_))
  all_goals (refine Gn ?_; refine Gs [(5, _)] ?_; refine WC.sr ?_; refine Go ?_; refine Gt ?_; exact ⟨L, mk.done (by omega) mk.own.cap, by rw [hp, show k = heldN n by omega], mk.ext, fun b hb => hb.elim (fun e => mk.fresh b e.2) (fun ⟨r, hr, e⟩ => hf r hr b e)⟩)
theorem cels_one {h : Heap} {A : Option Addr} {c b : Nat} {D : List UInt8} {e : TypeId} {z : Nat × Nat} (hr : Rd h (.slice A D.length c) 1 D.length (bys D)) (hD : D.length ≤ 1000) (hb : h[b]? = some (.cells ⟨[.bool false, .slice A D.length c]⟩ e z)) :
    Cels h (.slice (some ⟨b, 0, none⟩) 1 1) [⟨false, .slice A D.length c, D⟩] :=
  ⟨rd_blk hb rfl, ⟨by simp [reachBytes], _, _, rfl, by simp [maxLen]⟩, fun x hx => by
    simp only [List.mem_singleton] at hx
    subst hx
    exact ⟨hr, by show D.length ≤ reachBytes; unfold reachBytes; omega⟩⟩
set_option maxHeartbeats 2000000 in
set_option maxRecDepth 100000 in
theorem rows_cols {h : Heap} (n : Int) : CallsH Tryz.prog 145 ⟨[In n]⟩ h fun u h' => ∃ L, Rws h' u L ∧ L.map Rw.pl = rowsP (heldN n) ∧ Ext No h h' ∧ ∀ b, RwsF u L b → h.size ≤ b := by
  refine calls [(0, _)] Tryz.func145 rfl Tryz.ntmps145 rfl ⟨rfl, trivial⟩ ?_
  all_goals (refine WC.sr ?_; refine Go ?_; refine WC.sr ?_; refine Go ?_; refine WL.call (vs := [_, _]) rfl (fun a w => Tryz.call190 a w) rfl (each_rows n) rfl rfl rfl ?_; rintro u1 h1 h2; refine Go ?_; refine Gt ?_; exact h2)
set_option maxHeartbeats 2000000 in
set_option maxRecDepth 100000 in
theorem tag_cols {h : Heap} (n : Int) (h0 : -9223372036854775808 ≤ n) (h1 : n ≤ 9223372036854775807) :
    CallsH Tryz.prog 149 ⟨[In n]⟩ h fun u h' => u = St ([83, 69, 76, 69, 67, 84, 32] ++ deci n) ∧ Ext No h h' := by
  have hdl := deci_len n (by omega)
  refine calls [(0, _)] Tryz.func149 rfl Tryz.ntmps149 rfl ⟨rfl, trivial⟩ ?_
  all_goals (refine WC.sr ?_; refine Go ?_; refine WC.sr ?_; refine Go ?_; refine WL.call (vs := [_]) rfl (fun a w => Tryz.call132 a w) rfl (text_any n h0 h1) rfl rfl rfl ?_; rintro _ h2 ⟨rfl, hx2⟩; refine WL.step (ok_catS rfl rfl (by first | (simp only [List.length_append, List.length_cons, List.length_nil]; omega) | (simp; omega))) rfl rfl rfl ?_; refine Go ?_; refine Gs [(2, _)] ?_; refine Gt ?_; exact ⟨rfl, hx2⟩)
/-! ### columns -/
def colV (n : List UInt8) : List Value := [St n, In 0, In 0, In 25, In (-1), In (-1), In 0]
def colsL (n : Nat) : List (List UInt8) := (List.range n).map fun i => 99 :: deci ((i + 1 : Nat) : Int)
theorem colsL_succ (n : Nat) : colsL (n + 1) = colsL n ++ [99 :: deci ((n + 1 : Nat) : Int)] := by unfold colsL; rw [List.range_succ]; simp
theorem colsL_len (n : Nat) : (colsL n).length = n := by simp [colsL]
set_option maxHeartbeats 2000000 in
set_option maxRecDepth 100000 in
theorem column_cols {h : Heap} (i : Nat) (hi : i ≤ 100000) : CallsH Tryz.prog 197 ⟨[In i]⟩ h fun u h' => u = .agg ⟨colV (99 :: deci i)⟩ ∧ Ext No h h' := by
  have hdl := deci_len i (by omega)
  refine calls [(0, _)] Tryz.func197 rfl Tryz.ntmps197 rfl ⟨rfl, trivial⟩ ?_
  all_goals (refine WC.sr ?_; refine WL.stepR (okE_alloc (fun w => Tryz.zeroValue78 w)) rfl rfl rfl ?_; rintro _ h1 ⟨b1, rfl, hg1, hb1, hx1⟩; refine Gn ?_; refine WC.sr ?_; refine Go ?_; refine WL.call (vs := [_]) rfl (fun a w => Tryz.call132 a w) rfl (text_any i (by omega) (by omega)) rfl rfl rfl ?_; rintro _ h2 ⟨rfl, hx2⟩; refine WL.step (ok_catS rfl rfl (by first | (simp only [List.length_append, List.length_cons, List.length_nil]; omega) | (simp; omega))) rfl rfl rfl ?_; refine WL.step (ok_buildF (vs := [_, _, _, _]) (cs := [_, _, _, _, _, _, _]) (fun | [a0, a3, a4, a5] => [a0, (.int .i64 0), (.int .i64 0), a3, a4, a5, (.int .i64 0)] | _ => []) rfl rfl (by kernel_rfl)) rfl rfl rfl ?_; refine WL.stepR0 (okE_storeW (fun w => Tryz.sizeOf78 w) rfl rfl rfl (hx2.obj hb1 nos) rfl (by simp [Value.oneCell'])) rfl rfl ?_; rintro _ h3 ⟨hb3, hx3⟩; refine Gn ?_; refine Gs [(2, _)] ?_; refine WC.ret ?_; repeat' (with_reducible first | refine thenP_r ?_ | refine blockP_r ?_))
  all_goals (refine retP_1 _ ⟨⟨_, rfl, ld_blk (fun w => Tryz.isAgg78 w) (fun w => Tryz.sizeOf78 w) (by assumption) rfl⟩, trivial⟩ ?_; exact ⟨rfl, (hx1.trans hx2).trans' hx3 (fun k hk e => by omega)⟩)
set_option maxHeartbeats 2000000 in
set_option maxRecDepth 100000 in
theorem each_cols {h : Heap} (n : Int) : CallsH Tryz.prog 196 ⟨[In n, .func (.func 197) #[] #[]]⟩ h fun u h' => Own h' u 78 7 (heldN n) ((colsL (heldN n)).flatMap colV) ∧ Ext No h h' ∧ ∀ k, u.ownBlock = some k → h.size ≤ k := by
  have hh := held_le n
  refine calls [(0, _), (1, _)] Tryz.func196 rfl Tryz.ntmps196 rfl ⟨rfl, rfl, trivial⟩ ?_
  all_goals (refine WC.sr ?_; refine Go ?_; refine WC.sr ?_; refine Go ?_; refine WC.seq ?_; refine WC.sr ?_; refine Go ?_; refine WL.call (vs := [_]) rfl (fun a w => Tryz.call212 a w) rfl (held_cols n) rfl rfl rfl ?_; rintro _ hz ⟨rfl, _⟩; subst hz; refine Go ?_; refine WC.block ?_)
  -- loop 0: slots that turn [5, 9], that stay [1, 8]
  all_goals (refine WC.loopG (X := Nat × Value) (fun x => ([(5, x.2), (9, In (x.1 : Int))] : Fr)) [(1, _), (8, _)] (fun x h' => x.1 ≤ heldN n ∧ Own h' x.2 78 7 x.1 ((colsL x.1).flatMap colV) ∧ Ext No h h' ∧ ∀ k, x.2.ownBlock = some k → h.size ≤ k) (fun x => heldN n - x.1) ((0, .slice none 0 0)) ⟨rfl, rfl, rfl, rfl, trivial⟩ (by exact ⟨Nat.zero_le _, Own.nil _ _ _, .refl _ _, by simp [Value.ownBlock]⟩) ?_)
  all_goals (rintro ⟨k, v1⟩ h1 ⟨hk, ho, hx, hf⟩
             simp only at hk ho hf
             obtain ⟨A1, c1, rfl, _⟩ := ho.slice)
  all_goals (refine WC.sub [(5, _), (9, _), (1, _), (8, _)] ⟨rfl, rfl, rfl, rfl, trivial⟩ ?_; dsimp only)
  all_goals (refine WC.sr ?_; refine Go ?_; refine WC.seq ?_; refine goC 1 2 (Hb.mk fun hb => ?_) (Hb.mk fun hb => ?_))
  all_goals (first | (fail_if_success refine goB 1 ?_) | (
  refine goB 1 ?_
  all_goals (refine WC.skip ?_)
  skip))
  all_goals (first | (fail_if_success refine goB 2 ?_) | (
  refine goB 2 ?_
  all_goals (refine WC.exit ?_; repeat' (with_reducible first | refine thenP_x ?_ | refine blockP_miss rfl ?_ | refine blockP_hit ?_ | refine blockP_n ?_ | refine thenP_n ?_))
  all_goals (refine Br.out (i := 1000) ?_)
  skip))
  all_goals (refine Gn ?_; first | (refine Br.keep ?_) | (refine WC.seq ?_))
  all_goals (first | (refine Br.keep ?_) | (refine WC.block ?_))
  all_goals (first | (refine Br.keep ?_) | (refine WC.sr ?_))
  all_goals (refine Go ?_; first | (refine Br.keep ?_) | (refine WC.region ?_))
  all_goals (refine Go ?_)
  all_goals (first
               | (refine Br.keep ?_)
               | (have e1 : ((k : Int) + 1) = ((k + 1 : Nat) : Int) := by omega
                  rw [e1]))
  all_goals (first
               | (refine Br.keep ?_)
               | (refine WL.callT (vs := [_]) rfl rfl (fun a w => Tryz.call197 a w) rfl (column_cols (k + 1) (by omega)) rfl rfl rfl ?_
                  rintro _ h2 ⟨rfl, hx2⟩))
  all_goals (first | (refine Br.keep ?_) | (unfold colV))
  all_goals (first
               | (refine Br.keep ?_)
               | (refine WL.stepR (okE_buildSlice (vs := [_]) (cs := [_, _, _, _, _, _, _]) (fun | [.agg ⟨[a0, a1, a2, a3, a4, a5, a6]⟩] => [a0, a1, a2, a3, a4, a5, a6] | _ => []) Tryz.underlying39 rfl rfl (by kernel_rfl)) rfl rfl rfl ?_
                  rintro _ h3 ⟨b3, rfl, hg3, hb3, hx3⟩))
  all_goals (first
               | (refine Br.keep ?_)
               | (refine WL.stepR (ok_append (sz := 7) (bytes := 64) rfl Tryz.underlying39 (show Tryz.prog.info? 78 = some Tryz.t78 by kernel_rfl) rfl rfl rfl rfl (by decide) rfl rfl (ho.ext (hx2.trans hx3) (fun _ _ => nos)) (rd_blk hb3 rfl) (by simp [Value.oneCell']) (by simp only [maxLen]; omega) (by omega)) rfl rfl rfl ?_
                  rintro v4 h4 ⟨ho4, hx4, hl4⟩))
  all_goals (refine Go ?_; first | (refine Br.keep ?_) | (refine Gs [(1, _), (5, _), (8, _), (9, _)] ?_))
  all_goals (first | (refine Br.keep ?_) | (refine WC.region ?_))
  all_goals (refine Go ?_; first | (refine Br.keep ?_) | (exact ⟨(k + 1, _), ⟨rfl, rfl, rfl, rfl, trivial⟩, (by exact ⟨by simp; omega, by rw [colsL_succ, List.flatMap_append, List.flatMap_singleton]; exact ho4, ((hx.trans hx2).trans hx3).trans' hx4 (fun q hq e => by have := hf q e; omega), fresh_of hl4 hf (by have := hx.size; have := hx2.size; have := hx3.size; omega)⟩), (by simp; omega)⟩))
  all_goals (try (refine Br.mk (i := 1000) ?_))
  all_goals (refine Gn ?_; refine Gs [(5, _)] ?_; refine WC.sr ?_; refine Go ?_; refine Gt ?_; exact ⟨by rw [show heldN n = k by omega]; exact ho, hx, hf⟩)
set_option maxHeartbeats 2000000 in
set_option maxRecDepth 100000 in
theorem cols_cols {h : Heap} (n : Int) : CallsH Tryz.prog 152 ⟨[In n]⟩ h fun u h' => Own h' u 78 7 (heldN n) ((colsL (heldN n)).flatMap colV) ∧ Ext No h h' ∧ ∀ k, u.ownBlock = some k → h.size ≤ k := by
  refine calls [(0, _)] Tryz.func152 rfl Tryz.ntmps152 rfl ⟨rfl, trivial⟩ ?_
  all_goals (refine WC.sr ?_; refine Go ?_; refine WC.sr ?_; refine Go ?_; refine WL.call (vs := [_, _]) rfl (fun a w => Tryz.call196 a w) rfl (each_cols n) rfl rfl rfl ?_; rintro u1 h1 h2; refine Go ?_; refine Gt ?_; exact h2)
end Go.Proofs.YtbokngiajfdanaaGreatDoor


/-
  THE ADDRESS OF AN ARRAY's ENTRY. No program is named here.
-/
namespace Go.RK
open Go

section
variable {P : Program} {f : Fr} {h : Heap} {d : Option Tmp} {ty : TypeId} {pos : String} {af : Array Edge} {g : Option (Nat × Bool)}
theorem ok_idxAddrR {t e : TypeId} {x y : Operand} {b o l sz k : Nat} {kd : IntKind} {i : Int} (hu : P.underlying t = some (.array l e)) (hz : ∀ w, (sizeOf e).run P w = .ok sz w)
    (hx : f.ev x = some (.pointer (some ⟨b, o, Option.none⟩))) (hy : f.ev y = some (.int kd i)) (hi : i = (k : Int)) (hk : k < l) :
    OkP P f ⟨d, .indexAddr t x y, ty, pos, af, g⟩ h (.pointer (some ⟨b, o + k * sz, Option.none⟩)) := fun ρ w ha _ => by
  subst hi
  have h1 : (0 : Int) ≤ k ∧ (k : Int) < l := ⟨by omega, by omega⟩
  have hs : (Instr.sureAddr (.pointer (some ⟨b, o, Option.none⟩))).run P w = .ok ⟨b, o, Option.none⟩ w := rfl
  simp [execOp, ha _ _ hx, ha _ _ hy, Instr.indexAt, asIntOf, run_underlying hu, h1, hz, hs, hk, Addr.add_lit]
end
end Go.RK

/-
  FAULT (layer 8): the fields of a fault; a fault as a reply.
-/
namespace Go.Proofs.YtbokngiajfdanaaGreatDoor
open Go Go.RK

def fl4 (s c x : List UInt8) : List FieldD := [⟨83, s⟩, ⟨86, s⟩, ⟨67, c⟩, ⟨77, x⟩]
set_option maxHeartbeats 2000000 in
set_option maxRecDepth 100000 in
theorem make_f {h : Heap} (s c x : List UInt8) : CallsH Tryz.prog 154 ⟨[St s, St c, St x]⟩ h fun u h' => Own h' u 82 2 4 ((fl4 s c x).flatMap FieldD.cells) ∧ Ext No h h' ∧ ∀ q, u.ownBlock = some q → h.size ≤ q := by
  refine calls [(0, _), (1, _), (2, _)] Tryz.func154 rfl Tryz.ntmps154 rfl ⟨rfl, rfl, rfl, trivial⟩ ?_
  all_goals (refine WC.sr ?_; refine Go ?_; refine WC.sr ?_; refine Go ?_; refine WL.step (ok_buildF (vs := [_, _, _, _]) (cs := [_, _, _, _]) (fun | [a0, a1, a2, a3] => [a0, a1, a2, a3] | _ => []) rfl rfl (by kernel_rfl)) rfl rfl rfl ?_; refine WL.stepR (okE_alloc (fun w => Tryz.zeroValue265 w)) rfl rfl rfl ?_; rintro _ h1 ⟨b7, rfl, hg7, hb7, hx1⟩; refine WL.stepR0 (okE_storeW (fun w => Tryz.sizeOf265 w) rfl rfl rfl hb7 rfl (by simp [Value.oneCell'])) rfl rfl ?_; rintro _ h2 ⟨hb72, hx2⟩; refine Gn ?_; refine Gs [(7, _)] ?_; refine WC.sr ?_; refine Go ?_; refine WC.seq ?_; refine WC.sr ?_; refine WL.stepR (okE_buildSlice (vs := [_, _, _, _]) (cs := [_, _, _, _]) (fun | [a0, a1, a2, a3] => [a0, a1, a2, a3] | _ => []) Tryz.underlying85 rfl rfl (by kernel_rfl)) rfl rfl rfl ?_; rintro _ h3 ⟨b16, rfl, hg16, hb16, hx3⟩; refine WL.stepR (okE_convSS Tryz.underlying85 Tryz.underlying5 rfl (by assumption)) rfl rfl rfl ?_; rintro _ h4 ⟨rfl, ⟨z4, hb4⟩, hx4⟩; have hX2 := hx1.trans' hx2 (fun q hq e => by omega); have s2 := hX2.size; have hb74 := hx4.obj (hx3.obj hb72 nos) (fun e => by have := lt_of_some hb72; omega); have hX4 := (hX2.trans hx3).trans' hx4 (fun q hq e => by omega); refine Go ?_; refine WC.block ?_)
  -- loop 0: slots that turn [8, 19], that stay [7, 17, 18]
  all_goals (refine WC.loopG (X := Nat × Value) (fun x => ([(19, In (x.1 : Int)), (8, x.2)] : Fr)) [(7, _), (17, _), (18, _)] (fun y h' => y.1 ≤ 4 ∧ Own h' y.2 82 2 y.1 (((fl4 s c x).take y.1).flatMap FieldD.cells) ∧ Ext No h4 h' ∧ ∀ q, y.2.ownBlock = some q → h4.size ≤ q) (fun y => 4 - y.1) ((0, .slice none 0 0)) ⟨rfl, rfl, rfl, rfl, rfl, trivial⟩ (by exact ⟨by decide, Own.nil _ _ _, .refl _ _, by simp [Value.ownBlock]⟩) ?_; rintro ⟨k, w⟩ h5 ⟨hk, ho5, hx5, hf5⟩; dsimp only at hk ho5 hf5)
  all_goals (refine WC.sub [(8, _), (19, _), (7, _), (17, _), (18, _)] ⟨rfl, rfl, rfl, rfl, rfl, trivial⟩ ?_; dsimp only)
  all_goals (refine WC.sr ?_; refine Go ?_; refine WC.seq ?_; refine goC 1 2 (Hb.mk fun hb => ?_) (Hb.mk fun hb => ?_))
  all_goals (first | (fail_if_success refine goB 1 ?_) | (
  refine goB 1 ?_
  all_goals (refine WC.skip ?_)
  skip))
  all_goals (first | (fail_if_success refine goB 2 ?_) | (
  refine goB 2 ?_
  all_goals (refine WC.exit ?_; repeat' (with_reducible first | refine thenP_x ?_ | refine blockP_miss rfl ?_ | refine blockP_hit ?_ | refine blockP_n ?_ | refine thenP_n ?_))
  all_goals (refine Br.out (i := 1000) ?_)
  skip))
  all_goals (refine Gn ?_; first | (refine Br.keep ?_) | (refine WC.seq ?_))
  all_goals (first | (refine Br.keep ?_) | (refine WC.block ?_))
  all_goals (first | (refine Br.keep ?_) | (refine WC.sr ?_))
  all_goals (first
               | (refine Br.keep ?_)
               | (obtain ⟨y, hy⟩ : ∃ y, (fl4 s c x)[k]? = some y := ⟨_, List.getElem?_eq_getElem (by show k < 4; omega)⟩
                  have hcode : ([.int .u8 83, .int .u8 86, .int .u8 67, .int .u8 77] : List Value)[k]? = some (.int .u8 y.k) := by have := congrArg (Option.map fun f : FieldD => Value.int .u8 f.k) hy; rw [← List.getElem?_map] at this; exact this
                  have htext : ([St s, St s, St c, St x] : List Value)[k]? = some (St y.t) := by have := congrArg (Option.map fun f : FieldD => St f.t) hy; rw [← List.getElem?_map] at this; exact this
                  have hb45 := hx5.obj hb4 nos
                  have hb75 := hx5.obj hb74 nos))
  all_goals (first | (refine Br.keep ?_) | (refine WL.step (ok_move rfl) rfl rfl rfl ?_))
  all_goals (first | (refine Br.keep ?_) | (refine WL.step (ok_idxAddrA Tryz.underlying85 (fun w => Tryz.sizeOf5 w) rfl rfl rfl (by omega) (by first | rfl | assumption)) rfl rfl rfl ?_))
  all_goals (first | (refine Br.keep ?_) | (refine WL.ld rfl (by first | exact (At.of_block hb45).get k hcode (by omega) | assumption | exact cell_blk (by assumption) rfl) rfl rfl rfl ?_))
  all_goals (refine Go ?_; first | (refine Br.keep ?_) | (refine Gs [(7, _), (8, _), (9, _), (10, _), (17, _), (18, _), (19, _)] ?_))
  all_goals (first | (refine Br.keep ?_) | (refine WC.region ?_))
  all_goals (refine Go ?_; first | (refine Br.keep ?_) | (refine WL.step (ok_idxAddrR Tryz.underlying265 (fun w => Tryz.sizeOf9 w) rfl rfl rfl (by omega)) rfl rfl rfl ?_))
  all_goals (first | (refine Br.keep ?_) | (refine WL.ld rfl (by first | exact (At.of_block hb75).get k htext (by omega) | assumption | exact cell_blk (by assumption) rfl) rfl rfl rfl ?_))
  all_goals (first | (refine Br.keep ?_) | (refine WL.step (ok_buildF (vs := [_, _]) (cs := [_, _]) (fun | [a0, a1] => [a0, a1] | _ => []) rfl rfl (by kernel_rfl)) rfl rfl rfl ?_))
  all_goals (first
               | (refine Br.keep ?_)
               | (refine WL.stepR (okE_buildSlice (vs := [_]) (cs := [_, _]) (fun | [.agg ⟨[a0, a1]⟩] => [a0, a1] | _ => []) Tryz.underlying40 rfl rfl (by kernel_rfl)) rfl rfl rfl ?_
                  rintro _ h6 ⟨b6, rfl, hg6, hb6, hx6⟩))
  all_goals (first
               | (refine Br.keep ?_)
               | (refine WL.stepR (ok_append (sz := 2) (bytes := 24) rfl Tryz.underlying40 (show Tryz.prog.info? 82 = some Tryz.t82 by kernel_rfl) rfl rfl rfl rfl (by decide) rfl rfl (ho5.ext hx6 (fun _ _ => nos)) (rd_blk hb6 rfl) (by simp [Value.oneCell']) (by simp only [maxLen]; omega) (by omega)) rfl rfl rfl ?_
                  rintro v7 h7 ⟨ho7, hx7, hl7⟩))
  all_goals (refine Go ?_; first | (refine Br.keep ?_) | (refine Gs [(7, _), (8, _), (17, _), (18, _), (19, _)] ?_))
  all_goals (first | (refine Br.keep ?_) | (refine WC.region ?_))
  all_goals (refine Go ?_; first | (refine Br.keep ?_) | (exact ⟨(k + 1, _), ⟨rfl, rfl, rfl, rfl, rfl, trivial⟩, (by exact ⟨by omega, by rw [List.take_add_one, hy, List.flatMap_append]; simpa [FieldD.cells] using ho7, (hx5.trans hx6).trans' hx7 (fun q hq e => by have := hf5 q e; omega), fresh_of hl7 hf5 (by have := hx5.size; have := hx6.size; omega)⟩), (by simp; omega)⟩))
  all_goals (try (refine Br.mk (i := 1000) ?_))
  all_goals (refine Gn ?_; refine Gs [(8, _)] ?_; refine WC.sr ?_; refine Go ?_; refine Gt ?_; (have hk4 : k = 4 := by omega); subst hk4; exact ⟨ho5, hX4.trans hx5, fun q hq => by have := hf5 q hq; have := hX4.size; omega⟩)
abbrev nilV : Value := .slice none 0 0
/-- A fault. -/
def eB (v : Value) : List Value := [.int .u8 69, .int .u8 0, St [], St [], St [], In 0, In 0, nilV, nilV, nilV, v]
theorem own_kind {h : Heap} {T : TypeId} {sz n q : Nat} {v : Value} {xs : List Value} (ho : Own h v T sz n xs) (hq : v.ownBlock = some q) : ∃ cur, h[q]? = some (.cells cur T (0, 0)) := by
  obtain ⟨_, ⟨e1, _⟩ | ⟨g, cap, cur, e1, hg, _⟩⟩ := ho
  · rw [e1] at hq; cases hq
  · rw [e1] at hq
    have : g = q := by simpa [Value.ownBlock] using hq
    exact ⟨cur, this ▸ hg⟩
set_option maxHeartbeats 2000000 in
set_option maxRecDepth 100000 in
theorem error_f {h : Heap} (c x : List UInt8) : CallsH Tryz.prog 57 ⟨[St c, St x]⟩ h fun u h' => ∃ v, u = .agg ⟨eB v⟩ ∧ Own h' v 82 2 4 ((fl4 ([69, 82, 82, 79, 82] : List UInt8) c x).flatMap FieldD.cells) ∧ Ext No h h' ∧ ∀ q, v.ownBlock = some q → h.size ≤ q := by
  have kt : ∀ h', CallsH Tryz.prog 103 ⟨[St ([69, 82, 82, 79, 82] : List UInt8), St c, St x]⟩ h' fun u h'' => ∃ v, u = .agg ⟨eB v⟩ ∧ Own h'' v 82 2 4 ((fl4 ([69, 82, 82, 79, 82] : List UInt8) c x).flatMap FieldD.cells) ∧ Ext No h' h'' ∧ ∀ q, v.ownBlock = some q → h'.size ≤ q := fun h' => by
    refine calls [(0, _), (1, _), (2, _)] Tryz.func103 rfl Tryz.ntmps103 rfl ⟨rfl, rfl, rfl, trivial⟩ ?_
    all_goals (refine WC.sr ?_; refine WL.stepR (okE_alloc (fun w => Tryz.zeroValue42 w)) rfl rfl rfl ?_; rintro _ h1 ⟨b1, rfl, hg1, hb1, hx1⟩; refine Gn ?_; refine WC.sr ?_; refine Go ?_; refine WL.call (vs := [_, _, _]) rfl (fun a w => Tryz.call154 a w) rfl (make_f ([69, 82, 82, 79, 82] : List UInt8) c x) rfl rfl rfl ?_; rintro v2 h2 ⟨ho2, hx2, hf2⟩; obtain ⟨A2, c2, rfl, _⟩ := ho2.slice; refine WL.step (ok_buildF (vs := [_, _]) (cs := [_, _, _, _, _, _, _, _, _, _, _]) (fun | [a0, a10] => [a0, (.int .u8 0), (St []), (St []), (St []), (.int .i64 0), (.int .i64 0), (.slice none 0 0), (.slice none 0 0), (.slice none 0 0), a10] | _ => []) rfl rfl (by kernel_rfl)) rfl rfl rfl ?_; refine WL.stepR0 (okE_storeW (fun w => Tryz.sizeOf42 w) rfl rfl rfl (hx2.obj hb1 nos) rfl (by simp [Value.oneCell'])) rfl rfl ?_; rintro _ h3 ⟨hb3, hx3⟩; refine Gn ?_; refine Gs [(6, _)] ?_; refine WC.ret ?_; repeat' (with_reducible first | refine thenP_r ?_ | refine blockP_r ?_))
    all_goals (refine retP_1 _ ⟨⟨_, rfl, ld_blk (fun w => Tryz.isAgg42 w) (fun w => Tryz.sizeOf42 w) hb3 rfl⟩, trivial⟩ ?_; exact ⟨_, rfl, ho2.ext hx3 (fun q hq e => by obtain ⟨_, z⟩ := own_kind ho2 hq; rw [e, hx2.obj hb1 nos] at z; simp at z), (hx1.trans hx2).trans' hx3 (fun q hq e => by omega), fun q hq => by have := hf2 q hq; have := hx1.size; omega⟩)
  refine calls [(0, _), (1, _)] Tryz.func57 rfl Tryz.ntmps57 rfl ⟨rfl, rfl, trivial⟩ ?_
  all_goals (refine WC.sr ?_; refine WL.stepR (okE_alloc (fun w => Tryz.zeroValue42 w)) rfl rfl rfl ?_; rintro _ h1 ⟨b1, rfl, hg1, hb1, hx1⟩; refine Gn ?_; refine WC.sr ?_; refine Go ?_; refine WL.call (vs := [_, _, _]) rfl (fun a w => Tryz.call103 a w) rfl (kt _) rfl rfl rfl ?_; rintro _ h2 ⟨v2, rfl, ho2, hx2, hf2⟩; obtain ⟨A2, c2, rfl, _⟩ := ho2.slice; refine WL.stepR0 (okE_storeW (fun w => Tryz.sizeOf42 w) rfl rfl rfl (hx2.obj hb1 nos) rfl (by simp [eB, Value.oneCell'])) rfl rfl ?_; rintro _ h3 ⟨hb3, hx3⟩; refine Gn ?_; refine Gs [(4, _)] ?_; refine WC.ret ?_; repeat' (with_reducible first | refine thenP_r ?_ | refine blockP_r ?_))
  all_goals (refine retP_1 _ ⟨⟨_, rfl, ld_blk (fun w => Tryz.isAgg42 w) (fun w => Tryz.sizeOf42 w) hb3 rfl⟩, trivial⟩ ?_; exact ⟨_, rfl, ho2.ext hx3 (fun q hq e => by obtain ⟨_, z⟩ := own_kind ho2 hq; rw [e, hx2.obj hb1 nos] at z; simp at z), (hx1.trans hx2).trans' hx3 (fun q hq e => by omega), fun q hq => by have := hf2 q hq; have := hx1.size; omega⟩)
end Go.Proofs.YtbokngiajfdanaaGreatDoor


/-
  SESSIONS (layer 30), in plain Lean: what a session has, and what it says of a message.
-/
namespace Go.Proofs.YtbokngiajfdanaaGreatDoor
open Go Go.RK

abbrev CelP := Bool × List UInt8
abbrev StP := List UInt8 × List Int
abbrev PdP := List UInt8 × List Int × List CelP × List (List CelP) × Bool × Bool
abbrev ErP := Option (List UInt8 × List UInt8)
/-- What a session has. -/
structure SP where
  st : Int
  sk : Bool
  ov : Bool
  cnt : Int
  L : List (List UInt8 × StP)
  P : List (List UInt8 × PdP)
/-- What a message says, as far as a session looks at it. -/
structure FmP where
  kind : Int
  what : Int
  name : List UInt8
  portal : List UInt8
  text : List UInt8
  oids : List Int
  params : List CelP
  max : Int
/-- What a reply says. -/
structure BkP where
  kind : Int
  status : Int := 0
  tag : List UInt8 := []
  name : List UInt8 := []
  value : List UInt8 := []
  n : Int := 0
  m : Int := 0
  oids : List Int := []
  cols : List ColD := []
  row : List CelP := []
  fields : List FieldD := []
def Fm.p (f : Fm) : FmP := ⟨f.kind, f.what, f.name, f.portal, f.text, f.oids, f.params.map Cel.pl, f.max⟩
def Bk.p (b : Bk) : BkP := ⟨b.kind, b.status, b.tag, b.name, b.value, b.n, b.m, b.oids, b.cols, b.row.map Cel.pl, b.fields⟩
def plL (L : List (List UInt8 × StD)) : List (List UInt8 × StP) := L.map fun q => (q.1, q.2.text, q.2.oids)
def plP (P : List (List UInt8 × ItD)) : List (List UInt8 × PdP) := P.map fun q => (q.1, q.2.d.pl)
abbrev SayP := SP × List BkP × ErP
def stmtP (s : SP) (n : List UInt8) : ErP := match getK s.L n with
  | none => some (([50, 54, 48, 48, 48] : List UInt8), missL n)
  | some t => abortP t.1 s.st
def portP (s : SP) (n : List UInt8) : ErP := match getK s.P n with
  | none => some (([51, 52, 48, 48, 48] : List UInt8), saysL ([112, 111, 114, 116, 97, 108] : List UInt8) n ([100, 111, 101, 115, 32, 110, 111, 116, 32, 101, 120, 105, 115, 116] : List UInt8))
  | some p => abortP p.1 s.st
def parseP (s : SP) (f : FmP) : SayP :=
  let s1 : SP := if f.name = [] then { s with L := delK s.L [] } else s
  match refP f.text s.st with
  | some e => (s1, [], some e)
  | none => if (getK s1.L f.name).isSome = true then (s1, [], some (([52, 50, 80, 48, 53] : List UInt8), exisL f.name)) else ({ s1 with L := putK s1.L f.name (f.text, f.oids) }, [{ kind := 49 }], none)
def bindP (s : SP) (f : FmP) : SayP := match stmtP s f.name with
  | some e => (s, [], some e)
  | none => match getK s.L f.name with
    | none => (s, [], none)
    | some t => if f.params.length ≠ t.2.length then (s, [], some (([48, 56, 80, 48, 49] : List UInt8), arityL (f.params.length : Int) f.name (t.2.length : Int)))
      else if f.portal ≠ [] ∧ (getK s.P f.portal).isSome = true then (s, [], some (([52, 50, 80, 48, 51] : List UInt8), saysL ([99, 117, 114, 115, 111, 114] : List UInt8) f.portal ([97, 108, 114, 101, 97, 100, 121, 32, 101, 120, 105, 115, 116, 115] : List UInt8)))
      else ({ s with P := putK s.P f.portal (t.1, t.2, f.params, [], false, false) }, [{ kind := 50 }], none)
def colP (nm : List UInt8) : ColD := ⟨nm, 0, 0, 25, -1, -1, 0⟩
def descP (n : Int) : BkP := { kind := 84, cols := (colsL (heldN n)).map colP }
def shapeP (t : StP) : BkP := if rowsB (verbP t.1) = true then descP (colN (verbP t.1) t.2.length) else { kind := 110 }
def describeP (s : SP) (f : FmP) : SayP := if f.what = 83 then (match stmtP s f.name with
    | some e => (s, [], some e)
    | none => match getK s.L f.name with
      | none => (s, [], none)
      | some t => (s, [{ kind := 116, oids := t.2 }, shapeP t], none))
  else match portP s f.portal with
    | some e => (s, [], some e)
    | none => match getK s.P f.portal with
      | none => (s, [], none)
      | some p => (s, [shapeP (p.1, p.2.1)], none)
def tagP (n : Nat) : List UInt8 := ([83, 69, 76, 69, 67, 84, 32] : List UInt8) ++ deci (n : Int)
def rowsRep (l : List (List CelP)) (more : Bool) : List BkP := l.map (fun r => ({ kind := 68, row := r } : BkP)) ++ [if more = true then { kind := 115 } else { kind := 67, tag := tagP l.length }]
def turnP (s : SP) (v : VeD) : SayP := if v.k = 1 then (s, [{ kind := 73 }], none) else if v.k = 8 then (s, [], some (v.c, ([102, 97, 105, 108, 101, 100, 32, 111, 110, 32, 112, 117, 114, 112, 111, 115, 101] : List UInt8)))
  else ({ s with st := (nextP s.st v).1, P := if exitB v = true then [] else s.P }, [{ kind := 67, tag := (nextP s.st v).2 }], none)
/-- What the engine tells of a verb, and how often it was asked then. -/
def engP (v : VeD) (ps : List CelP) (cnt : Int) : List (List CelP) × Int := if v.k = 5 then (rowsP (heldN v.n), cnt) else if v.k = 6 then ([ps], cnt) else if v.k = 7 then ([[(false, deci (cnt + 1))]], cnt + 1) else ([], cnt)
/-- A portal that ran: its next rows, and whether some are left. -/
def fetP (rs : List (List CelP)) (ov : Bool) (most : Int) : List (List CelP) × List (List CelP) × Bool :=
  if ov = true then ([], rs, true) else
    let n := if 0 < most then min rs.length most.toNat else rs.length
    (rs.take n, rs.drop n, decide ((rs.drop n).length = 0))
def executeP (s : SP) (f : FmP) : SayP := match portP s f.portal with
  | some e => (s, [], some e)
  | none => match getK s.P f.portal with
    | none => (s, [], none)
    | some (t, o, ps, rs, ran, ov) =>
      if rowsB (verbP t) = true then
        let rc := if ran = true then (rs, s.cnt) else engP (verbP t) ps s.cnt
        let q := fetP rc.1 ov f.max
        ({ s with cnt := rc.2, P := putK s.P f.portal (t, o, ps, q.2.1, true, q.2.2) }, rowsRep q.1 (!q.2.2), none)
      else if ran = true ∧ (verbP t).k ≠ 1 then (s, [], some (([53, 53, 48, 48, 48] : List UInt8), ([112, 111, 114, 116, 97, 108, 32, 99, 97, 110, 110, 111, 116, 32, 98, 101, 32, 114, 117, 110] : List UInt8)))
      else match turnP s (verbP t) with
        | (s1, out, none) => ({ s1 with P := if exitB (verbP t) = true ∨ ran = true then s1.P else putK s1.P f.portal (t, o, ps, [], true, ov) }, out, none)
        | r => r
def shutP (s : SP) (f : FmP) : SayP := if f.what = 83 then ({ s with L := delK s.L f.name }, [{ kind := 51 }], none) else ({ s with P := delK s.P f.portal }, [{ kind := 51 }], none)
def queryP (s : SP) (f : FmP) : SayP :=
  let s1 : SP := { s with L := delK s.L [], P := delK s.P [] }
  match refP f.text s.st with
  | some e => (s1, [], some e)
  | none => if rowsB (verbP f.text) = true then
      let rc := engP (verbP f.text) [] s.cnt
      ({ s1 with cnt := rc.2 }, descP (colN (verbP f.text) 0) :: rowsRep rc.1 false, none)
    else turnP s1 (verbP f.text)
def syncP (s : SP) : SP × BkP := ({ s with P := if s.st = 73 then [] else s.P }, { kind := 90, status := s.st })
def dealP (s : SP) (f : FmP) : SayP :=
  if f.kind = 80 then parseP s f else if f.kind = 66 then bindP s f else if f.kind = 68 then describeP s f else if f.kind = 69 then executeP s f
  else if f.kind = 67 then shutP s f else if f.kind = 81 then queryP s f else (s, [], none)
def errP (c t : List UInt8) : BkP := { kind := 69, fields := fl4 ([69, 82, 82, 79, 82] : List UInt8) c t }
def failedP (s : SP) (c t : List UInt8) : SP × BkP := ({ s with st := failP s.st, P := if failP s.st = 69 then [] else s.P }, errP c t)
/-- What is said of a message behind what is dealt. -/
def restP (f : FmP) (r : SayP) : SP × List BkP :=
  let a : SP × List BkP := match r.2.2 with
    | some (c, t) => ((failedP { r.1 with sk := decide (f.kind ≠ 81) } c t).1, r.2.1 ++ [(failedP r.1 c t).2])
    | none => (r.1, r.2.1)
  if f.kind = 81 then ((syncP a.1).1, a.2 ++ [(syncP a.1).2]) else a
/-- What is said of a message. -/
def doP (s : SP) (f : FmP) : SP × List BkP :=
  if s.ov = true then (s, [])
  else if f.kind = 88 then ({ s with ov := true }, [])
  else if f.kind = 83 then ((syncP { s with sk := false }).1, [(syncP s).2])
  else if s.sk = true then (s, [])
  else restP f (dealP s f)
/-! ### maps, told plainly -/
section
variable {κ α β : Type} [DecidableEq κ]
theorem getK_map (F : α → β) (E : List (κ × α)) (n : κ) : getK (E.map fun q => (q.1, F q.2)) n = (getK E n).map F := by
  induction E with
  | nil => rfl
  | cons a E ih => rw [List.map_cons, getK_cons, getK_cons, ih]; split <;> rfl
theorem delK_map (F : α → β) (E : List (κ × α)) (n : κ) : delK (E.map fun q => (q.1, F q.2)) n = (delK E n).map fun q => (q.1, F q.2) := by
  unfold delK
  rw [List.filter_map]
  rfl
theorem putK_map (F : α → β) (E : List (κ × α)) (n : κ) (v : α) : putK (E.map fun q => (q.1, F q.2)) n (F v) = (putK E n v).map fun q => (q.1, F q.2) := by
  unfold putK
  rw [getK_map]
  rcases getK E n with _ | w
  · simp
  · simp only [Option.map_some, Option.isSome_some, if_true, List.map_map]
    refine List.map_congr_left fun p _ => ?_
    simp only [Function.comp]
    split <;> rfl
end
theorem getL_pl (L : List (List UInt8 × StD)) (n : List UInt8) : getK (plL L) n = (getK L n).map fun q => (q.text, q.oids) := getK_map (fun q : StD => (q.text, q.oids)) L n
theorem getP_pl (P : List (List UInt8 × ItD)) (n : List UInt8) : getK (plP P) n = (getK P n).map fun q => q.d.pl := getK_map (fun q : ItD => q.d.pl) P n
theorem delL_pl (L : List (List UInt8 × StD)) (n : List UInt8) : plL (delK L n) = delK (plL L) n := (delK_map (fun q : StD => (q.text, q.oids)) L n).symm
theorem delP_pl (P : List (List UInt8 × ItD)) (n : List UInt8) : plP (delK P n) = delK (plP P) n := (delK_map (fun q : ItD => q.d.pl) P n).symm
theorem putL_pl (L : List (List UInt8 × StD)) (n : List UInt8) (v : StD) : plL (putK L n v) = putK (plL L) n (v.text, v.oids) := (putK_map (fun q : StD => (q.text, q.oids)) L n v).symm
theorem putP_pl (P : List (List UInt8 × ItD)) (n : List UInt8) (v : ItD) : plP (putK P n v) = putK (plP P) n v.d.pl := (putK_map (fun q : ItD => q.d.pl) P n v).symm
/-! ### replies in memory -/
def Bk.F (b : Bk) (q : Nat) : Prop := (0 < b.oids.length ∧ b.vo.ownBlock = some q) ∨ (0 < b.cols.length ∧ b.vc.ownBlock = some q) ∨ CelsF b.vr b.row q ∨ (0 < b.fields.length ∧ b.vf.ownBlock = some q)
theorem Bk.ok.ext {h h' : Heap} {S : Nat → Prop} {b : Bk} (k : b.ok h) (a : Ext S h h') (hS : ∀ q, b.F q → ¬ S q) : b.ok h' := by
  refine ⟨⟨k.oids.1.ext' a fun q h1 h2 => hS q (.inl ⟨?_, h2⟩), k.oids.2⟩, ⟨k.cols.1.ext' a fun q h1 h2 => hS q (.inr (.inl ⟨?_, h2⟩)), k.cols.2⟩, k.row.ext a fun q hq => hS q (.inr (.inr (.inl hq))), ⟨k.fields.1.ext' a fun q h1 h2 => hS q (.inr (.inr (.inr ⟨?_, h2⟩))), k.fields.2⟩⟩
  · exact h1
  · exact h1
  · exact h1
theorem Bk.ok.lt {h : Heap} {b : Bk} {q : Nat} (k : b.ok h) (hq : b.F q) : q < h.size := by
  rcases hq with ⟨h1, h2⟩ | ⟨h1, h2⟩ | hq | ⟨h1, h2⟩
  · exact k.oids.1.lt h1 h2
  · exact k.cols.1.lt h1 h2
  · exact k.row.lt hq
  · exact k.fields.1.lt h1 h2
theorem Bk.ok.one {h : Heap} {b : Bk} (k : b.ok h) : ∀ v ∈ b.cells, v.oneCell' = true := by
  obtain ⟨_, _, e1, _⟩ := k.oids.1
  obtain ⟨_, _, e2, _⟩ := k.cols.1
  obtain ⟨_, ⟨_, _, _, e3, _⟩, _⟩ := k.row
  obtain ⟨_, _, e4, _⟩ := k.fields.1
  simp [Bk.cells, Value.oneCell', e1, e2, e3, e4]
theorem Bk.len' (b : Bk) : b.cells.length = 11 := rfl
/-- Replies in a row of one's own, all made behind h0. -/
structure Outs (h0 h : Heap) (v : Value) (B : List Bk) : Prop where
  own : Own h v 42 11 B.length (B.flatMap Bk.cells)
  ok : ∀ b ∈ B, b.ok h
  vf : ∀ q, v.ownBlock = some q → h0.size ≤ q
  bf : ∀ b ∈ B, ∀ q, b.F q → h0.size ≤ q
  dj : ∀ b ∈ B, ∀ q, b.F q → v.ownBlock ≠ some q
theorem Outs.nil (h0 h : Heap) : Outs h0 h (.slice none 0 0) [] := ⟨Own.nil _ _ _, (fun _ h => nomatch h), by simp [Value.ownBlock], (fun _ h => nomatch h), (fun _ h => nomatch h)⟩
theorem Outs.ext {h0 h h' : Heap} {S : Nat → Prop} {v : Value} {B : List Bk} (k : Outs h0 h v B) (x : Ext S h h') (hS : ∀ q, S q → q < h0.size) : Outs h0 h' v B :=
  ⟨k.own.ext x fun q hq e => by have := k.vf q hq; have := hS q e; omega, fun b hb => (k.ok b hb).ext x fun q hq e => by have := k.bf b hb q hq; have := hS q e; omega, k.vf, k.bf, k.dj⟩
theorem Outs.ext0 {h0 h h' : Heap} {v : Value} {B : List Bk} (k : Outs h0 h v B) (x : Ext No h h') : Outs h0 h' v B := k.ext x fun _ e => e.elim
theorem Outs.mono {h0 h1 h : Heap} {v : Value} {B : List Bk} (k : Outs h1 h v B) (e : h0.size ≤ h1.size) : Outs h0 h v B :=
  ⟨k.own, k.ok, fun q hq => Nat.le_trans e (k.vf q hq), fun b hb q hq => Nat.le_trans e (k.bf b hb q hq), k.dj⟩
/-- One more reply. -/
theorem Outs.snoc {h0 h h' : Heap} {v v' : Value} {B : List Bk} {b : Bk} (k : Outs h0 h v B) (ok : b.ok h) (fb : ∀ z, b.F z → h0.size ≤ z) (hd : ∀ z, b.F z → v.ownBlock ≠ some z) (hs : h0.size ≤ h.size)
    (ho : Own h' v' 42 11 (B.length + 1) (B.flatMap Bk.cells ++ b.cells)) (hx : Ext (fun z => v.ownBlock = some z) h h') (hl : v'.ownBlock = v.ownBlock ∨ v'.ownBlock = some h.size) : Outs h0 h' v' (B ++ [b]) := by
  have okB : ∀ c ∈ B ++ [b], c.ok h ∧ (∀ z, c.F z → h0.size ≤ z) ∧ ∀ z, c.F z → v.ownBlock ≠ some z := fun c hc => by
    rcases List.mem_append.1 hc with hc | hc
    · exact ⟨k.ok c hc, k.bf c hc, k.dj c hc⟩
    · obtain rfl := List.mem_singleton.1 hc
      exact ⟨ok, fb, hd⟩
  refine ⟨by simpa using ho, fun c hc => (okB c hc).1.ext hx fun z hz e => (okB c hc).2.2 z hz e, fun q hq => ?_, fun c hc => (okB c hc).2.1, fun c hc z hz e => ?_⟩
  · rcases hl with e | e
    · exact k.vf q (e ▸ hq)
    · rw [e] at hq
      simp only [Option.some.injEq] at hq
      omega
  · rcases hl with e2 | e2
    · exact (okB c hc).2.2 z hz (e2 ▸ e)
    · rw [e2] at e
      simp only [Option.some.injEq] at e
      have := (okB c hc).1.lt hz
      omega
/-- A reply with a tag at most. -/
def bk0 (k st : Int) (tag : List UInt8) : Bk := ⟨k, st, tag, [], [], 0, 0, nS, [], nS, [], nS, [], nS, []⟩
theorem bk0_ok (h : Heap) (k st : Int) (tag : List UInt8) : (bk0 k st tag).ok h := ⟨⟨Rd.nil _ _, by simp [bk0]⟩, ⟨Rd.nil _ _, by simp [bk0]⟩, cels_zero h _, ⟨Rd.nil _ _, by simp [bk0]⟩⟩
theorem bk0_F {k st : Int} {tag : List UInt8} {q : Nat} : ¬ (bk0 k st tag).F q := fun e => by
  rcases e with ⟨e, _⟩ | ⟨e, _⟩ | e | ⟨e, _⟩
  · exact absurd e (Nat.lt_irrefl 0)
  · exact absurd e (Nat.lt_irrefl 0)
  · exact (celsF_nil rfl e).elim
  · exact absurd e (Nat.lt_irrefl 0)
theorem Outs.one {h0 h : Heap} {q : Nat} {b : Bk} (hq : h[q]? = some (.cells ⟨b.cells⟩ 42 (0, 0))) (ok : b.ok h) (hg : h0.size ≤ q) (hF : ∀ z, b.F z → h0.size ≤ z ∧ z ≠ q) : Outs h0 h (.slice (some ⟨q, 0, none⟩) 1 1) [b] :=
  ⟨by simpa using own_blk hq (len := 1) rfl (by simp [maxLen]), by simpa using ok, fun z hz => by simp [Value.ownBlock] at hz; omega, by simpa using fun z hz => (hF z hz).1, by simpa [Value.ownBlock] using fun z hz e => (hF z hz).2 e.symm⟩
theorem Outs.tag {h0 h : Heap} {q : Nat} {k st : Int} {tag : List UInt8} (hq : h[q]? = some (.cells ⟨bkC k st tag⟩ 42 (0, 0))) (hg : h0.size ≤ q) : Outs h0 h (.slice (some ⟨q, 0, none⟩) 1 1) [bk0 k st tag] :=
  .one hq (bk0_ok _ _ _ _) hg fun _ e => (bk0_F e).elim
/-- More replies. -/
theorem Outs.append {h0 h h' : Heap} {v w v' : Value} {B C : List Bk} (k : Outs h0 h v B) (j : Outs h0 h w C) (hd : ∀ c ∈ C, ∀ z, c.F z → v.ownBlock ≠ some z) (hs : h0.size ≤ h.size)
    (ho : Own h' v' 42 11 (B.length + C.length) (B.flatMap Bk.cells ++ C.flatMap Bk.cells)) (hx : Ext (fun z => v.ownBlock = some z) h h') (hl : v'.ownBlock = v.ownBlock ∨ v'.ownBlock = some h.size) : Outs h0 h' v' (B ++ C) := by
  have okB : ∀ c ∈ B ++ C, c.ok h ∧ (∀ z, c.F z → h0.size ≤ z) ∧ ∀ z, c.F z → v.ownBlock ≠ some z := fun c hc => by
    rcases List.mem_append.1 hc with hc | hc
    · exact ⟨k.ok c hc, k.bf c hc, k.dj c hc⟩
    · exact ⟨j.ok c hc, j.bf c hc, hd c hc⟩
  refine ⟨by simpa using ho, fun c hc => (okB c hc).1.ext hx fun z hz e => (okB c hc).2.2 z hz e, fun q hq => ?_, fun c hc => (okB c hc).2.1, fun c hc z hz e => ?_⟩
  · rcases hl with e | e
    · exact k.vf q (e ▸ hq)
    · rw [e] at hq
      simp only [Option.some.injEq] at hq
      omega
  · rcases hl with e2 | e2
    · exact (okB c hc).2.2 z hz (e2 ▸ e)
    · rw [e2] at e
      simp only [Option.some.injEq] at e
      have := (okB c hc).1.lt hz
      omega
/-- Replies stay, whatever else is turned. -/
theorem Outs.ext' {h0 h h' : Heap} {S : Nat → Prop} {v : Value} {B : List Bk} (k : Outs h0 h v B) (x : Ext S h h') (h1 : ∀ q, v.ownBlock = some q → ¬ S q) (h2 : ∀ b ∈ B, ∀ q, b.F q → ¬ S q) : Outs h0 h' v B :=
  ⟨k.own.ext x h1, fun b hb => (k.ok b hb).ext x (h2 b hb), k.vf, k.bf, k.dj⟩
theorem Bk.noF {b : Bk} (h1 : b.oids = []) (h2 : b.cols = []) (h3 : b.row = []) (h4 : b.fields = []) (q : Nat) : ¬ b.F q := fun e => by
  rcases e with ⟨e, _⟩ | ⟨e, _⟩ | e | ⟨e, _⟩
  · rw [h1] at e; exact absurd e (Nat.lt_irrefl 0)
  · rw [h2] at e; exact absurd e (Nat.lt_irrefl 0)
  · exact (celsF_nil h3 e).elim
  · rw [h4] at e; exact absurd e (Nat.lt_irrefl 0)
/-- A message's lists. -/
def Fm.F (f : Fm) (q : Nat) : Prop := (0 < f.oids.length ∧ f.vo.ownBlock = some q) ∨ CelsF f.vp f.params q
structure FmLim (f : Fm) : Prop where
  n : f.name.length ≤ 100000
  p : f.portal.length ≤ 100000
  t : f.text.length ≤ 100000
  o : f.oids.length ≤ 20000
  m : f.params.length ≤ 100000
  x : -9223372036854775808 ≤ f.max ∧ f.max ≤ 9223372036854775807
end Go.Proofs.YtbokngiajfdanaaGreatDoor


/-
  SESSIONS (layer 30), by the code: a statement, and a portal, that may be used.
-/
namespace Go.Proofs.YtbokngiajfdanaaGreatDoor
open Go Go.RK

/-- What a session has, told plainly. -/
def spO (st : Int) (sk ov : Bool) (cnt : Int) (L : List (List UInt8 × StD)) (P : List (List UInt8 × ItD)) : SP := ⟨st, sk, ov, cnt, plL L, plP P⟩
/-- A session behind a call: what was turned is its own. -/
def Sv (g : Heap) (A : Ad) (P0 : List (List UInt8 × ItD)) (h : Heap) (s : SP) : Prop := ∃ L P, Ss h A s.st s.sk s.ov s.cnt L P ∧ plL L = s.L ∧ plP P = s.P ∧ Tn A P0 g h P
/-- What may be said of lengths. -/
structure LimP (s : SP) : Prop where
  l : ∀ q ∈ s.L, q.2.1.length ≤ 100000
  p : ∀ q ∈ s.P, q.2.1.length ≤ 100000 ∧ q.2.2.1.length ≤ 20000 ∧ q.2.2.2.1.length ≤ 100000 ∧ q.2.2.2.2.1.length ≤ 100000 ∧ ∀ r ∈ q.2.2.2.2.1, r.length ≤ 100000
  c : s.cnt < 1000000
/-- What is dealt: replies or a fault, and the session behind it. -/
def Dealt (h : Heap) (A : Ad) (P : List (List UInt8 × ItD)) (r : SayP) (u : Value) (h' : Heap) : Prop := ∃ v B, (r.2.2 ≠ none → v = nS) ∧ u = .tuple ⟨[v, erV r.2.2]⟩ ∧ Outs h h' v B ∧ B.map Bk.p = r.2.1 ∧ Sv h A P h' r.1
/-- The same, where no statement and no portal was made. -/
def DealtS (h : Heap) (A : Ad) (L : List (List UInt8 × StD)) (P : List (List UInt8 × ItD)) (r : SayP) (u : Value) (h' : Heap) : Prop := ∃ v B, (r.2.2 ≠ none → v = nS) ∧ u = .tuple ⟨[v, erV r.2.2]⟩ ∧ Outs h h' v B ∧ B.map Bk.p = r.2.1 ∧ ∃ L' P', (∀ q ∈ L', q ∈ L) ∧ (∀ q ∈ P', q ∈ P) ∧ Ss h' A r.1.st r.1.sk r.1.ov r.1.cnt L' P' ∧ plL L' = r.1.L ∧ plP P' = r.1.P ∧ Tn A P h h' P'
theorem DealtS.toD {h h' : Heap} {A : Ad} {L : List (List UInt8 × StD)} {P : List (List UInt8 × ItD)} {r : SayP} {u : Value} (d : DealtS h A L P r u h') : Dealt h A P r u h' := by
  obtain ⟨v, B, c, e, O, p, L', P', _, _, k⟩ := d
  exact ⟨v, B, c, e, O, p, L', P', k⟩
section
variable {h h' : Heap} {A : Ad} {st : Int} {sk ov : Bool} {cnt : Int} {L : List (List UInt8 × StD)} {P : List (List UInt8 × ItD)}
theorem LimP.tl (lm : LimP (spO st sk ov cnt L P)) : ∀ q ∈ L, q.2.text.length ≤ 100000 := fun q hq => lm.l _ (List.mem_map.2 ⟨q, hq, rfl⟩)
theorem LimP.tp (lm : LimP (spO st sk ov cnt L P)) : ∀ q ∈ P, q.2.d.text.length ≤ 100000 ∧ q.2.d.oids.length ≤ 20000 ∧ (q.2.d.ps.map Cel.pl).length ≤ 100000 ∧ (q.2.d.rs.map Rw.pl).length ≤ 100000 ∧ ∀ r ∈ q.2.d.rs.map Rw.pl, r.length ≤ 100000 := fun q hq => lm.p _ (List.mem_map.2 ⟨q, hq, rfl⟩)
set_option maxHeartbeats 2000000 in
set_option maxRecDepth 100000 in
theorem stmt_v (k : Ss h A st sk ov cnt L P) (lm : LimP (spO st sk ov cnt L P)) (n : List UInt8) (hn : n.length ≤ 100000) : CallsH Tryz.prog 83 ⟨[.pointer (some ⟨A.bs, 0, none⟩), St n]⟩ h fun u h' =>
    (∃ q : StD, u = .tuple ⟨[stE q, erV (stmtP (spO st sk ov cnt L P) n)]⟩ ∧ (∃ B c, q.vo = .slice B q.oids.length c) ∧ (stmtP (spO st sk ov cnt L P) n = none → getK L n = some q)) ∧ Ext No h h' := by
  have hlk := alook_encK stE L n
  have hsp : stmtP (spO st sk ov cnt L P) n = match (getK L n).map fun q => (q.text, q.oids) with
    | none => some (([50, 54, 48, 48, 48] : List UInt8), missL n)
    | some t => abortP t.1 st := by rw [← getL_pl]; rfl
  rcases hg : getK L n with _ | ⟨text, vo, oids⟩
  · rw [hg] at hlk hsp
    dsimp only [Option.map_none] at hlk hsp
    rw [hsp]
    refine calls [(0, _), (1, _)] Tryz.func83 rfl Tryz.ntmps83 rfl ⟨rfl, rfl, trivial⟩ ?_
    all_goals (refine WC.sr ?_; refine WL.stepR (okE_alloc (fun w => Tryz.zeroValue135 w)) rfl rfl rfl ?_; rintro _ h1 ⟨b4, rfl, hg1, hb4, hx1⟩; refine Go ?_; refine WC.sr ?_; have k1 := k.ext0 hx1; have hb := k1.se.blk; have hms := k1.se.stm; have l4 := lt_of_some hb4; refine WL.step (ok_move rfl) rfl rfl rfl ?_; refine WL.step (ok_nilCheck rfl) rfl rfl rfl ?_; refine Go ?_; refine WL.ld rfl (by first | exact cell_blk hb rfl | assumption | exact cell_blk (by assumption) rfl) rfl rfl rfl ?_; refine Go ?_; refine WL.step ((ok_lookup_no keyS Tryz.underlying50 Tryz.underlying9 (fun w => Tryz.zeroValue135 w) rfl rfl hms hlk).1) rfl rfl rfl ?_; refine Go ?_; refine WL.stepR (okE_alloc (fun w => Tryz.zeroValue135 w)) rfl rfl rfl ?_; rintro _ h2 ⟨b6, rfl, hg2, hb6, hx2⟩; refine WL.stepR0 (okE_storeW (fun w => Tryz.sizeOf135 w) rfl rfl rfl hb6 rfl (by simp [Value.oneCell'])) rfl rfl ?_; rintro _ h3 ⟨hb63, hx3⟩; have X3 : Ext No h1 h3 := hx2.trans' hx3 (fun q hq e => by omega); have hb43 := X3.obj hb4 nos; refine Go ?_; refine Gs [(0, _), (1, _), (4, _), (6, _), (7, _)] ?_; refine WC.seq ?_; refine WC.sr ?_; refine Go ?_; refine goC 1 2 ?_ TT.mk; refine goB 1 ?_; refine WC.sr ?_; refine WL.step (ok_buildF (vs := []) (cs := [_, _]) (fun | [] => [(St []), (.slice none 0 0)] | _ => []) rfl rfl (by kernel_rfl)) rfl rfl rfl ?_; refine Go ?_; refine WL.call (vs := [_]) rfl (fun a w => Tryz.call130 a w) rfl (missing_any n hn) rfl rfl rfl ?_; rintro _ h4 ⟨rfl, hx4⟩; refine WL.call (vs := [_, _]) rfl (fun a w => Tryz.call79 a w) rfl (stop_v _ _) rfl rfl rfl ?_; rintro _ hq ⟨rfl, hz⟩; replace hz := hz.symm; subst hz; refine WL.stepR0 (okE_storeW (fun w => Tryz.sizeOf135 w) rfl rfl rfl (hx4.obj hb43 nos) rfl (by simp [Value.oneCell'])) rfl rfl ?_; rintro _ h5 ⟨hb5, hx5⟩; refine Go ?_; refine Gs [(4, _), (5, _)] ?_; refine WC.ret ?_; repeat' (with_reducible first | refine thenP_r ?_ | refine blockP_r ?_))
    all_goals (refine retP_2 _ _ ⟨⟨_, rfl, ld_blk (fun w => Tryz.isAgg135 w) (fun w => Tryz.sizeOf135 w) hb5 rfl⟩, rfl, trivial⟩ ?_; exact ⟨⟨⟨[], .slice none 0 0, []⟩, rfl, ⟨_, _, rfl⟩, fun e => by cases e⟩, ((hx1.trans X3).trans hx4).trans' hx5 (fun q hq e => by omega)⟩)
  · have hm := getK_mem hg
    have htl := lm.tl _ hm
    obtain ⟨B, c, hvo, _⟩ := (k.sok _ hm).1
    dsimp only at htl hvo
    subst hvo
    rw [hg] at hlk hsp
    dsimp only [Option.map_some, stE] at hlk hsp
    rw [hsp]
    unfold stE
    refine calls [(0, _), (1, _)] Tryz.func83 rfl Tryz.ntmps83 rfl ⟨rfl, rfl, trivial⟩ ?_
    all_goals (refine WC.sr ?_; refine WL.stepR (okE_alloc (fun w => Tryz.zeroValue135 w)) rfl rfl rfl ?_; rintro _ h1 ⟨b4, rfl, hg1, hb4, hx1⟩; refine Go ?_; refine WC.sr ?_; have k1 := k.ext0 hx1; have hb := k1.se.blk; have hms := k1.se.stm; have l4 := lt_of_some hb4; refine WL.step (ok_move rfl) rfl rfl rfl ?_; refine WL.step (ok_nilCheck rfl) rfl rfl rfl ?_; refine Go ?_; refine WL.ld rfl (by first | exact cell_blk hb rfl | assumption | exact cell_blk (by assumption) rfl) rfl rfl rfl ?_; refine Go ?_; refine WL.step ((ok_lookup keyS Tryz.underlying50 Tryz.underlying9 rfl rfl hms hlk).1) rfl rfl rfl ?_; refine Go ?_; refine WL.stepR (okE_alloc (fun w => Tryz.zeroValue135 w)) rfl rfl rfl ?_; rintro _ h2 ⟨b6, rfl, hg2, hb6, hx2⟩; refine WL.stepR0 (okE_storeW (fun w => Tryz.sizeOf135 w) rfl rfl rfl hb6 rfl (by simp [Value.oneCell'])) rfl rfl ?_; rintro _ h3 ⟨hb63, hx3⟩; have X3 : Ext No h1 h3 := hx2.trans' hx3 (fun q hq e => by omega); have k3 := k1.ext0 X3; have hb43 := X3.obj hb4 nos; (have n64 : ¬ b6 = b4 := by omega); refine Go ?_; refine Gs [(0, _), (1, _), (4, _), (6, _), (7, _)] ?_; refine WC.seq ?_; refine WC.sr ?_; refine Go ?_; refine goC 1 2 ?_ TT.mk; refine goB 2 ?_; refine WC.skip ?_; refine Gn ?_; refine Gs [(0, _), (4, _), (6, _)] ?_; refine WC.seq ?_; refine WC.drawH (fun h' => Ext (fun q => q = b4) h3 h') 6 6 rfl fol ?_; refine WH.tk 0 rfl (fun hq hC => ok_loadN (fun w => Tryz.isAgg135 w) (fun w => Tryz.sizeOf135 w) rfl rfl (by exact (At.of_block hb63).ext hC n64)) rfl rfl rfl ?_; refine WH.tk 1 rfl (fun hq hC => ok_move rfl) rfl rfl rfl ?_; refine WH.tk 2 rfl (fun hq hC => ok_loadN (fun w => Tryz.isAgg135 w) (fun w => Tryz.sizeOf135 w) rfl rfl (by exact (At.of_block hb63).ext hC n64)) rfl rfl rfl ?_; refine WH.one 3 (by kernel_rfl) ?_; refine Comes1.call (vs := [_, _]) rfl rfl (fun a w => Tryz.call131 a w) rfl (aborted_v k3 text (by omega) ⟨_, _, _, rfl⟩) rfl rfl rfl ?_ (fun _ => by kernel_rfl); rintro _ h4 ⟨rfl, hx4⟩; refine ⟨fun _ => hx4.mono fun _ _ e => e.elim, ?_⟩; (have hC4 : Ext (fun q => q = b4) h3 h4 := hx4.mono fun _ _ e => e.elim); refine WH.one 4 (by kernel_rfl) ?_; refine Comes1.run0 rfl (okE_storeW (fun w => Tryz.sizeOf135 w) rfl rfl rfl (hx4.obj hb43 nos) rfl (by simp [Value.oneCell'])) rfl rfl ?_ (fun _ => by kernel_rfl); rintro _ h5 ⟨hb5, hx5⟩; refine ⟨fun _ => hC4.trans hx5, ?_⟩; have hC5 := hC4.trans hx5; refine WH.tk 5 rfl (fun hq hC => ok_assign rfl) rfl rfl rfl ?_; refine WH.done (by kernel_rfl) ?_; refine Gn ?_; refine Gs [(4, _), (5, _)] ?_; refine WC.ret ?_; repeat' (with_reducible first | refine thenP_r ?_ | refine blockP_r ?_))
    all_goals (refine retP_2 _ _ ⟨⟨_, rfl, ld_blk (fun w => Tryz.isAgg135 w) (fun w => Tryz.sizeOf135 w) hb5 rfl⟩, rfl, trivial⟩ ?_; exact ⟨⟨⟨text, _, oids⟩, rfl, ⟨_, _, rfl⟩, fun _ => rfl⟩, (hx1.trans X3).trans' hC5 (fun q hq e => by omega)⟩)
theorem Ss.pe (k : Ss h A st sk ov cnt L P) {n : List UInt8} {i : ItD} (hi : getK P n = some i) : Pe h A.bp A.mp (encK pcE P) i.p n i.d :=
  have hm := getK_mem hi
  ⟨k.se.pb, k.se.pm, by rw [alook_encK, hi]; rfl, (k.pok _ hm).1, (k.pok _ hm).2.1, fun q hq e => (k.pok _ hm).2.2 q hq (e ▸ .inr (.inr (.inr (.inr ⟨_, hm, rfl⟩))))⟩
set_option maxHeartbeats 2000000 in
set_option maxRecDepth 100000 in
theorem portal_v (k : Ss h A st sk ov cnt L P) (lm : LimP (spO st sk ov cnt L P)) (n : List UInt8) (hn : n.length ≤ 100000) : CallsH Tryz.prog 88 ⟨[.pointer (some ⟨A.bs, 0, none⟩), St n]⟩ h fun u h' =>
    (∃ d : PD, u = .tuple ⟨[.agg ⟨d.cells⟩, erV (portP (spO st sk ov cnt L P) n)]⟩ ∧ d.ok h' ∧ (∀ q, d.F q → h.size ≤ q) ∧ (portP (spO st sk ov cnt L P) n = none → ∃ i, getK P n = some i ∧ d.pl = i.d.pl)) ∧ Ext No h h' := by
  have hlk := alook_encK pcE P n
  have hsp : portP (spO st sk ov cnt L P) n = match (getK P n).map fun q => q.d.pl with
    | none => some (([51, 52, 48, 48, 48] : List UInt8), saysL ([112, 111, 114, 116, 97, 108] : List UInt8) n ([100, 111, 101, 115, 32, 110, 111, 116, 32, 101, 120, 105, 115, 116] : List UInt8))
    | some t => abortP t.1 st := by rw [← getP_pl]; rfl
  rcases hg : getK P n with _ | i
  · rw [hg] at hlk hsp
    dsimp only [Option.map_none] at hlk hsp
    rw [hsp]
    have kg := fun (g : Heap) (k : Ss g A st sk ov cnt L P) => get_no n k.se.pb k.se.pm hlk
    unfold PD0 PD.cells at kg
    refine calls [(0, _), (1, _)] Tryz.func88 rfl Tryz.ntmps88 rfl ⟨rfl, rfl, trivial⟩ ?_
    all_goals (refine WC.sr ?_; refine WL.stepR (okE_alloc (fun w => Tryz.zeroValue147 w)) rfl rfl rfl ?_; rintro _ h1 ⟨b4, rfl, hg1, hb4, hx1⟩; refine Go ?_; refine WC.sr ?_; have k1 := k.ext0 hx1; have hb := k1.se.blk; have l4 := lt_of_some hb4; refine WL.step (ok_move rfl) rfl rfl rfl ?_; refine WL.step (ok_nilCheck rfl) rfl rfl rfl ?_; refine Go ?_; refine WL.ld rfl (by first | exact cell_blk hb rfl | assumption | exact cell_blk (by assumption) rfl) rfl rfl rfl ?_; refine Go ?_; refine WL.call (vs := [_, _]) rfl (fun a w => Tryz.call135 a w) rfl (kg _ k1) rfl rfl rfl ?_; rintro _ h2 ⟨rfl, hx2⟩; refine Go ?_; refine WL.stepR (okE_alloc (fun w => Tryz.zeroValue147 w)) rfl rfl rfl ?_; rintro _ h3 ⟨b6, rfl, hg3, hb6, hx3⟩; refine WL.stepR0 (okE_storeW (fun w => Tryz.sizeOf147 w) rfl rfl rfl hb6 rfl (by simp [Value.oneCell'])) rfl rfl ?_; rintro _ h4 ⟨hb64, hx4⟩; have X14 : Ext No h1 h4 := hx2.trans (hx3.trans' hx4 (fun q hq e => by omega)); have hb44 := X14.obj hb4 nos; refine Go ?_; refine Gs [(0, _), (1, _), (4, _), (6, _), (7, _)] ?_; refine WC.seq ?_; refine WC.sr ?_; refine Go ?_; refine goC 1 2 ?_ TT.mk; refine goB 1 ?_; refine WC.sr ?_; refine WL.step (ok_buildF (vs := []) (cs := [_, _, _, _, _, _]) (fun | [] => [(St []), (.slice none 0 0), (.slice none 0 0), (.slice none 0 0), (.bool false), (.bool false)] | _ => []) rfl rfl (by kernel_rfl)) rfl rfl rfl ?_; refine Go ?_; refine WL.call (vs := [_]) rfl (fun a w => Tryz.call136 a w) rfl (portal_any n hn) rfl rfl rfl ?_; rintro _ h5 ⟨rfl, hx5⟩; refine WL.call (vs := [_, _]) rfl (fun a w => Tryz.call79 a w) rfl (stop_v _ _) rfl rfl rfl ?_; rintro _ hq ⟨rfl, hz⟩; replace hz := hz.symm; subst hz; refine WL.stepR0 (okE_storeW (fun w => Tryz.sizeOf147 w) rfl rfl rfl (hx5.obj hb44 nos) rfl (by simp [Value.oneCell'])) rfl rfl ?_; rintro _ h6 ⟨hb6', hx6⟩; refine Go ?_; refine Gs [(4, _), (5, _)] ?_; refine WC.ret ?_; repeat' (with_reducible first | refine thenP_r ?_ | refine blockP_r ?_))
    all_goals (refine retP_2 _ _ ⟨⟨_, rfl, ld_blk (fun w => Tryz.isAgg147 w) (fun w => Tryz.sizeOf147 w) hb6' rfl⟩, rfl, trivial⟩ ?_)
    all_goals (exact ⟨⟨PD0, rfl, pd0_ok _, fun q hq => by
                rcases hq with ⟨h0, _⟩ | hq | hq
                · exact absurd h0 (by decide)
                · exact (celsF_nil rfl hq).elim
                · exact (rwsF_nil rfl hq).elim, fun e => by cases e⟩, ((hx1.trans X14).trans hx5).trans' hx6 (fun q hq e => by omega)⟩)
  · have hpe := k.pe hg
    have htl := (lm.tp _ (getK_mem hg)).1
    dsimp only at htl
    rw [hg] at hsp
    dsimp only [Option.map_some] at hsp
    rw [hsp]
    have kg := fun (g : Heap) (k : Ss g A st sk ov cnt L P) => get_f (k.pe hg)
    refine calls [(0, _), (1, _)] Tryz.func88 rfl Tryz.ntmps88 rfl ⟨rfl, rfl, trivial⟩ ?_
    all_goals (refine WC.sr ?_; refine WL.stepR (okE_alloc (fun w => Tryz.zeroValue147 w)) rfl rfl rfl ?_; rintro _ h1 ⟨b4, rfl, hg1, hb4, hx1⟩; refine Go ?_; refine WC.sr ?_; have k1 := k.ext0 hx1; have hb := k1.se.blk; have l4 := lt_of_some hb4; refine WL.step (ok_move rfl) rfl rfl rfl ?_; refine WL.step (ok_nilCheck rfl) rfl rfl rfl ?_; refine Go ?_; refine WL.ld rfl (by first | exact cell_blk hb rfl | assumption | exact cell_blk (by assumption) rfl) rfl rfl rfl ?_; refine Go ?_; refine WL.call (vs := [_, _]) rfl (fun a w => Tryz.call135 a w) rfl (kg _ k1) rfl rfl rfl ?_; rintro _ h2 ⟨⟨d2, rfl, ok2, pl2, hf2⟩, hx2⟩; refine Go ?_; refine WL.stepR (okE_alloc (fun w => Tryz.zeroValue147 w)) rfl rfl rfl ?_; rintro _ h3 ⟨b6, rfl, hg3, hb6, hx3⟩; refine WL.stepR0 (okE_storeW (fun w => Tryz.sizeOf147 w) rfl rfl rfl hb6 rfl (pd_one ok2)) rfl rfl ?_; rintro _ h4 ⟨hb64, hx4⟩)
    all_goals (have X14 : Ext No h1 h4 := hx2.trans (hx3.trans' hx4 (fun q hq e => by omega))
               have k4 := k1.ext0 X14
               have ok4 := ok2.ext (hx3.trans' (S := No) hx4 (fun q hq e => by omega)) (fun _ _ => nos)
               have hb44 := X14.obj hb4 nos
               have n64 : ¬ b6 = b4 := by have := hx2.size; omega
               have hti : d2.text = i.d.text := congrArg (·.1) pl2
               obtain ⟨text, vo, oids, vp, ps, vr, rs, ran, over⟩ := d2
               dsimp only at hti
               subst hti
               dsimp only [PD.cells] at hb64
               obtain ⟨A3, c3, hvo, _⟩ := id ok4.oids
               dsimp only at hvo
               subst hvo)
    all_goals (refine Go ?_; refine Gs [(0, _), (1, _), (4, _), (6, _), (7, _)] ?_; refine WC.seq ?_; refine WC.sr ?_; refine Go ?_; refine goC 1 2 ?_ TT.mk; refine goB 2 ?_; refine WC.skip ?_; refine Gn ?_; refine Gs [(0, _), (4, _), (6, _)] ?_; refine WC.seq ?_; refine WC.drawH (fun h' => Ext (fun q => q = b4) h4 h') 7 7 rfl fol ?_; refine WH.tk 0 rfl (fun hq hC => ok_loadN (fun w => Tryz.isAgg147 w) (fun w => Tryz.sizeOf147 w) rfl rfl (by exact (At.of_block hb64).ext hC n64)) rfl rfl rfl ?_; refine WH.tk 1 rfl (fun hq hC => ok_move rfl) rfl rfl rfl ?_; refine WH.tk 2 rfl (fun hq hC => ok_fieldAddr rfl Tryz.underlying147 rfl (fun w => Tryz.sizeOf135 w)) rfl rfl rfl ?_; refine WH.tk 3 rfl (fun hq hC => ok_loadN (fun w => Tryz.isAgg135 w) (fun w => Tryz.sizeOf135 w) rfl rfl (by exact At.pre (xs := [_, _]) (ys := [_, _, _, _]) ((At.of_block hb64).ext hC n64))) rfl rfl rfl ?_; refine WH.one 4 (by kernel_rfl) ?_; refine Comes1.call (vs := [_, _]) rfl rfl (fun a w => Tryz.call131 a w) rfl (aborted_v k4 i.d.text (by omega) ⟨_, _, _, rfl⟩) rfl rfl rfl ?_ (fun _ => by kernel_rfl); rintro _ h5 ⟨rfl, hx5⟩; refine ⟨fun _ => hx5.mono fun _ _ e => e.elim, ?_⟩; (have hC5 : Ext (fun q => q = b4) h4 h5 := hx5.mono fun _ _ e => e.elim); refine WH.one 5 (by kernel_rfl) ?_; refine Comes1.run0 rfl (okE_storeW (fun w => Tryz.sizeOf147 w) rfl rfl rfl (hx5.obj hb44 nos) rfl (pd_one ok4)) rfl rfl ?_ (fun _ => by kernel_rfl); rintro _ h6 ⟨hb6', hx6⟩; refine ⟨fun _ => hC5.trans hx6, ?_⟩; have hC6 := hC5.trans hx6; refine WH.tk 6 rfl (fun hq hC => ok_assign rfl) rfl rfl rfl ?_; refine WH.done (by kernel_rfl) ?_; refine Gn ?_; refine Gs [(4, _), (5, _)] ?_; refine WC.ret ?_; repeat' (with_reducible first | refine thenP_r ?_ | refine blockP_r ?_))
    all_goals (refine retP_2 _ _ ⟨⟨_, rfl, ld_blk (fun w => Tryz.isAgg147 w) (fun w => Tryz.sizeOf147 w) hb6' rfl⟩, rfl, trivial⟩ ?_; exact ⟨⟨⟨i.d.text, _, oids, vp, ps, vr, rs, ran, over⟩, rfl, (ok4.ext hx5 (fun _ _ => nos)).ext hx6 (fun q hq e => by subst e; have := hf2 _ hq; omega), fun q hq => by have := hf2 q hq; have := hx1.size; omega, fun _ => ⟨i, rfl, pl2⟩⟩, (hx1.trans X14).trans' hC6 (fun q hq e => by omega)⟩)
end
end Go.Proofs.YtbokngiajfdanaaGreatDoor


/-
  SESSIONS (layer 30), by the code: a P.
-/
namespace Go.Proofs.YtbokngiajfdanaaGreatDoor
open Go Go.RK

section
variable {h h' : Heap} {A : Ad} {st : Int} {sk ov : Bool} {cnt : Int} {L : List (List UInt8 × StD)} {P : List (List UInt8 × ItD)}
def delE (L : List (List UInt8 × StD)) (n : List UInt8) : List (List UInt8 × StD) := if n = [] then delK L [] else L
theorem parse_eq (f : FmP) : parseP (spO st sk ov cnt L P) f = match refP f.text st with
    | some e => (spO st sk ov cnt (delE L f.name) P, [], some e)
    | none => match getK (delE L f.name) f.name with
      | some _ => (spO st sk ov cnt (delE L f.name) P, [], some (([52, 50, 80, 48, 53] : List UInt8), exisL f.name))
      | none => ({ spO st sk ov cnt (delE L f.name) P with L := putK (plL (delE L f.name)) f.name (f.text, f.oids) }, [{ kind := 49 }], none) := by
  have e1 : (if f.name = [] then { spO st sk ov cnt L P with L := delK (spO st sk ov cnt L P).L [] } else spO st sk ov cnt L P) = spO st sk ov cnt (delE L f.name) P := by
    unfold delE
    split
    · simp only [spO, delL_pl]
    · rfl
  unfold parseP
  dsimp only
  rw [e1]
  have hg := getL_pl (delE L f.name) f.name
  rcases hr : refP f.text st with _ | e
  · simp only [spO, hr, hg]
    cases getK (delE L f.name) f.name <;> simp
  · simp only [spO, hr]
/-- Nothing said, and a fault. -/
theorem Dealt.err {r : SayP} {a c : List UInt8} {s : SP} (hr : r = (s, [], some (a, c))) (k : Sv h A P h' s) : Dealt h A P r (.tuple ⟨[.slice none 0 0, erV (some (a, c))]⟩) h' := by
  subst hr
  exact ⟨_, [], fun _ => rfl, rfl, Outs.nil _ _, rfl, k⟩
theorem Sv.of {P0 : List (List UInt8 × ItD)} {g : Heap} (k : Ss h A st sk ov cnt L P) (t : Tn A P0 g h P) : Sv g A P0 h (spO st sk ov cnt L P) := ⟨L, P, k, rfl, rfl, t⟩
set_option maxHeartbeats 2000000 in
set_option maxRecDepth 100000 in
theorem parse_v (k : Ss h A st sk ov cnt L P) (f : Fm) (hf : f.ok h) (hF : ∀ q, f.F q → ¬ Mu A P q) (fl : FmLim f) : CallsH Tryz.prog 46 ⟨[.pointer (some ⟨A.bs, 0, none⟩), .agg ⟨f.cells⟩]⟩ h (Dealt h A P (parseP (spO st sk ov cnt L P) f.p)) := by
  have hpe := parse_eq (st := st) (sk := sk) (ov := ov) (cnt := cnt) (L := L) (P := P) f.p
  obtain ⟨⟨e1, _⟩, ⟨e2, _⟩, ⟨e3, _⟩, e4, _⟩ := hf
  obtain ⟨fl1, fl2, fl3, fl4, _⟩ := fl
  obtain ⟨fk, w, n, p, t, vo, o, vf, fs, vs, rs, vp, ps, mx⟩ := f
  dsimp only [Fm.p] at e1 e2 e3 e4 hpe fl1 fl2 fl3 fl4
  have er := e1
  obtain ⟨A1, c1, rfl, _⟩ := e1
  obtain ⟨_, _, rfl, _⟩ := e2
  obtain ⟨_, _, rfl, _⟩ := e3
  obtain ⟨_, _, rfl, _⟩ := e4
  dsimp only [Fm.cells, Fm.p]
  obtain ⟨L1, hL1⟩ : ∃ L1, delE L n = L1 := ⟨_, rfl⟩
  rw [hL1] at hpe
  obtain ⟨r, hr⟩ : ∃ r, refP t st = r := ⟨_, rfl⟩
  obtain ⟨g, hg⟩ : ∃ g, getK L1 n = g := ⟨_, rfl⟩
  have hlk := alook_encK stE L1 n
  rw [hg] at hlk
  rw [hr, hg] at hpe
  rcases (show (n = [] ∧ L1 = delK L [] ∧ g = none) ∨ (n ≠ [] ∧ L1 = L) by
    unfold delE at hL1
    by_cases hn : n = []
    · rw [if_pos hn] at hL1
      exact .inl ⟨hn, hL1.symm, by rw [← hg, ← hL1, hn, getK_del, if_pos rfl]⟩
    · rw [if_neg hn] at hL1
      exact .inr ⟨hn, hL1.symm⟩) with ⟨hn, hL, hg0⟩ | ⟨hn, hL⟩
  · subst hg0
    rcases r with _ | ⟨ra, rb⟩
    all_goals
      dsimp only [Option.map_none] at hlk hpe
      refine calls [(0, _), (1, _)] Tryz.func46 rfl Tryz.ntmps46 rfl ⟨rfl, rfl, trivial⟩ ?_
      all_goals (refine WC.sr ?_; refine WL.stepR (okE_box rfl) rfl rfl rfl ?_; rintro _ h1 ⟨b3, rfl, hg1, hb1, hx1⟩; have k1 := k.ext0 hx1; have hbs1 := k1.se.blk; have hms1 := k1.se.stm; refine Go ?_; refine WC.seq ?_; refine WC.sr ?_; refine Go ?_; refine WL.ld rfl (by first | exact cell_blk hb1 rfl | assumption | exact cell_blk (by assumption) rfl) rfl rfl rfl ?_; refine Go ?_; refine Gs [(0, _), (3, _), (11, _)] ?_; refine goC 1 2 ?_ TT.mk; refine goB 1 ?_; refine WC.region ?_; refine Go ?_; refine WL.step (ok_nilCheck rfl) rfl rfl rfl ?_; refine Go ?_; refine WL.ld rfl (by first | exact cell_blk hbs1 rfl | assumption | exact cell_blk (by assumption) rfl) rfl rfl rfl ?_; refine WL.stepR0 (ok_delete rfl keyS Tryz.underlying50 Tryz.underlying9 rfl rfl hms1) rfl rfl ?_; rintro _ h2 ⟨hm2, hx2⟩)
      all_goals (rw [adel_encK, ← hL] at hm2
                 obtain ⟨k2, t2⟩ := k1.turnL hx2 hm2 (fun q hq => .inl (mem_delK (hL ▸ hq)).1)
                 have hb2 := t2.1.obj hb1 (k1.not hb1 (by decide) (by decide) (by decide))
                 have T2 := (Tn.no (A := A) (P := P) hx1).trans t2)
      all_goals (refine Gn ?_; refine Gn ?_; refine WC.seq ?_; refine WC.sr ?_; refine Go ?_; refine WL.ld rfl (by first | exact cell_blk hb2 rfl | assumption | exact cell_blk (by assumption) rfl) rfl rfl rfl ?_)
      all_goals (refine WL.call (vs := [_, _]) rfl (fun a w => Tryz.call78 a w) rfl (refused_v k2 t (by omega)) rfl rfl rfl ?_
                 rintro _ h3 ⟨rfl, hx3⟩
                 rw [hr]
                 dsimp only [erV]
                 have k3 := k2.ext0 hx3
                 have hb3 := hx3.obj hb2 nos
                 have hbs3 := k3.se.blk
                 have hms3 := k3.se.stm
                 have T3 := T2.trans (Tn.no (A := A) (P := P) hx3))
      all_goals (refine Go ?_; refine Gs [(0, _), (3, _), (6, _)] ?_; refine WC.sr ?_; refine Go ?_; first | (refine WL.step (ok_neqIh (by kernel_rfl) rfl rfl) rfl rfl rfl ?_) | (refine WL.step (ok_neqIn (by kernel_rfl) rfl rfl) rfl rfl rfl ?_))
      all_goals (refine Gn ?_; refine goC 3 4 ?_ TT.mk)
      all_goals (first | (fail_if_success refine goB 3 ?_) | (
      refine goB 3 ?_
      all_goals (refine WC.sr ?_; refine Go ?_; refine Gs [(4, _), (5, _)] ?_; refine Gt ?_)
      all_goals (first
                  | exact Dealt.err hpe (.of k3 T3)
                  | exact Dealt.err hpe (.of (k5.ext0 hx6) (T5.trans (Tn.no (A := A) (P := P) hx6)))
                  | (rw [hpe]; exact ⟨_, [bk0 49 0 []], (fun e => absurd rfl e), rfl, .tag hq8 (by have := T7.1.size; omega), rfl, _, _, k7.ext0 hx8, putL_pl _ _ _, rfl, T7.trans (Tn.no (A := A) (P := P) hx8)⟩))
      skip))
      all_goals (refine goB 4 ?_; refine WC.skip ?_; refine Gn ?_; refine WC.seq ?_; refine WC.seq ?_; refine WC.drawH (fun h' => Ext No h3 h') 13 13 rfl fol ?_; refine WH.tk 0 rfl (fun hq hC => ok_move rfl) rfl rfl rfl ?_; refine WH.tk 1 rfl (fun hq hC => ok_nilCheck rfl) rfl rfl rfl ?_; refine WH.tk 2 rfl (fun hq hC => ok_fieldAddr rfl Tryz.underlying54 rfl (fun w => Tryz.sizeOf50 w)) rfl rfl rfl ?_; refine WH.tk 3 rfl (fun hq hC => ok_load (fun w => Tryz.isAgg50 w) rfl (by first | exact hC.cell (by first | exact cell_blk hbs3 rfl | assumption | exact cell_blk (by assumption) rfl) nos)) rfl rfl rfl ?_; refine WH.tk 4 rfl (fun hq hC => ok_fieldAddr rfl Tryz.underlying32 rfl (fun w => Tryz.sizeOf9 w)) rfl rfl rfl ?_; refine WH.tk 5 rfl (fun hq hC => ok_load (fun w => Tryz.isAgg9 w) rfl (by first | exact hC.cell (by first | exact cell_blk hb3 rfl | assumption | exact cell_blk (by assumption) rfl) nos)) rfl rfl rfl ?_; refine WH.tk 6 rfl (fun hq hC => (ok_lookup_no keyS Tryz.underlying50 Tryz.underlying9 (fun w => Tryz.zeroValue135 w) rfl rfl (hms3.ext hC nos) hlk).1) rfl rfl rfl ?_; refine WH.tk 7 rfl (fun hq hC => ok_move rfl) rfl rfl rfl ?_; refine WH.tk 8 rfl (fun hq hC => ok_extract rfl rfl) rfl rfl rfl ?_; refine WH.tk 9 rfl (fun hq hC => ok_extract rfl rfl) rfl rfl rfl ?_; refine WH.one 10 (by kernel_rfl) ?_; refine Comes1.run rfl (okE_alloc (fun w => Tryz.zeroValue135 w)) rfl rfl rfl ?_ (fun _ => by kernel_rfl); rintro _ h4 ⟨b7, rfl, hg4, hb4, hx4⟩; refine ⟨fun _ => hx4, ?_⟩; refine WH.one 11 (by kernel_rfl) ?_; refine Comes1.run0 rfl (okE_storeW (fun w => Tryz.sizeOf135 w) rfl rfl rfl hb4 rfl (by first | (simp [Value.oneCell']; done) | (simp [Value.oneCell']; exact hone _ hg))) rfl rfl ?_ (fun _ => by kernel_rfl); rintro _ h5 ⟨hb5, hx5⟩; refine ⟨fun _ => hx4.trans' hx5 (fun q hq e => by omega), ?_⟩; have X5 : Ext No h3 h5 := hx4.trans' hx5 (fun q hq e => by omega); have k5 := k3.ext0 X5; have hbs5 := k5.se.blk; have hms5 := k5.se.stm; have hb35 := X5.obj hb3 nos; have T5 := T3.trans (Tn.no (A := A) (P := P) X5); refine WH.tk 12 rfl (fun hq hC => ok_assign rfl) rfl rfl rfl ?_; refine WH.done (by kernel_rfl) ?_; refine Gn ?_; refine Gs [(0, _), (3, _), (8, _)] ?_; refine WC.sr ?_; refine Go ?_; refine goC 5 6 ?_ TT.mk; refine goB 6 ?_; refine WC.skip ?_; refine Gn ?_; refine WC.seq ?_; refine WC.drawH (fun h' => Ext No h5 h') 12 13 rfl fol ?_; refine WH.tk 0 rfl (fun hq hC => ok_move rfl) rfl rfl rfl ?_; refine WH.tk 1 rfl (fun hq hC => ok_nilCheck rfl) rfl rfl rfl ?_; refine WH.tk 2 rfl (fun hq hC => ok_fieldAddr rfl Tryz.underlying54 rfl (fun w => Tryz.sizeOf50 w)) rfl rfl rfl ?_; refine WH.tk 3 rfl (fun hq hC => ok_load (fun w => Tryz.isAgg50 w) rfl (by first | exact hC.cell (by first | exact cell_blk hbs5 rfl | assumption | exact cell_blk (by assumption) rfl) nos)) rfl rfl rfl ?_; refine WH.tk 4 rfl (fun hq hC => ok_fieldAddr rfl Tryz.underlying32 rfl (fun w => Tryz.sizeOf9 w)) rfl rfl rfl ?_; refine WH.tk 5 rfl (fun hq hC => ok_load (fun w => Tryz.isAgg9 w) rfl (by first | exact hC.cell (by first | exact cell_blk hb35 rfl | assumption | exact cell_blk (by assumption) rfl) nos)) rfl rfl rfl ?_)
      all_goals (refine WH.tk 6 rfl (fun hq hC => ok_fieldAddr rfl Tryz.underlying32 rfl (fun w => Tryz.sizeOf9 w)) rfl rfl rfl ?_; refine WH.tk 7 rfl (fun hq hC => ok_load (fun w => Tryz.isAgg9 w) rfl (by first | exact hC.cell (by first | exact cell_blk hb35 rfl | assumption | exact cell_blk (by assumption) rfl) nos)) rfl rfl rfl ?_; refine WH.tk 8 rfl (fun hq hC => ok_fieldAddr rfl Tryz.underlying32 rfl (fun w => Tryz.sizeOf29 w)) rfl rfl rfl ?_; refine WH.tk 9 rfl (fun hq hC => ok_load (fun w => Tryz.isAgg29 w) rfl (by first | exact hC.cell (by first | exact cell_blk hb35 rfl | assumption | exact cell_blk (by assumption) rfl) nos)) rfl rfl rfl ?_; refine WH.one 10 (by kernel_rfl) ?_; refine Comes1.call (vs := [_]) rfl rfl (fun a w => Tryz.call81 a w) rfl (clone_ints o (er.ext' T5.1 (fun q h1 h2 => hF q (.inl ⟨h1, h2⟩))) (by unfold reachBytes; omega)) rfl rfl rfl ?_ (fun _ => by kernel_rfl); rintro v6 h6 ⟨ho6, hx6, hf6⟩; obtain ⟨A6, c6, rfl, _⟩ := ho6.slice; refine ⟨fun _ => hx6, ?_⟩; refine WH.tk 11 rfl (fun hq hC => ok_buildF (vs := [_, _]) (cs := [_, _]) (fun | [a0, a1] => [a0, a1] | _ => []) rfl rfl (by kernel_rfl)) rfl rfl rfl ?_; refine WH.one 12 (by kernel_rfl) ?_; refine Comes1.run0 rfl (ok_mapUpdate keyS Tryz.underlying50 Tryz.underlying9 rfl rfl rfl (hms5.ext hx6 nos)) rfl rfl ?_ (fun _ => by kernel_rfl); rintro _ h7 ⟨hm7, hx7⟩; refine ⟨fun e => (by cases e), ?_⟩)
      all_goals (rw [show (Value.agg ⟨[St t, .slice A6 o.length c6]⟩) = stE ⟨t, .slice A6 o.length c6, o⟩ from rfl, aput_encK] at hm7
                 have k6 := k5.ext0 hx6
                 obtain ⟨k7, t7⟩ := k6.turnL hx7 hm7 (fun q hq => (mem_putK hq).elim (fun e => .inr (by subst e; exact ⟨ho6.rd, fl4, fun z _ hz => k6.notOwn ho6 (by decide) (by decide) (by decide) z hz⟩)) (fun e => .inl e.1))
                 have T7 := (T5.trans (Tn.no (A := A) (P := P) hx6)).trans t7)
      all_goals (refine WH.done (by kernel_rfl) ?_; refine Gn ?_; refine Gs [] ?_; refine WC.sr ?_; refine WL.call (vs := [_]) rfl (fun a w => Tryz.call82 a w) rfl (plain_v 49) rfl rfl rfl ?_; rintro _ h8 ⟨q, rfl, hq8, hgq, hx8⟩; refine Go ?_; refine Gt ?_)
      all_goals (first
                  | exact Dealt.err hpe (.of k3 T3)
                  | exact Dealt.err hpe (.of (k5.ext0 hx6) (T5.trans (Tn.no (A := A) (P := P) hx6)))
                  | (rw [hpe]; exact ⟨_, [bk0 49 0 []], (fun e => absurd rfl e), rfl, .tag hq8 (by have := T7.1.size; omega), rfl, _, _, k7.ext0 hx8, putL_pl _ _ _, rfl, T7.trans (Tn.no (A := A) (P := P) hx8)⟩))
  · rcases r with _ | ⟨ra, rb⟩
    · rcases g with _ | gq
      all_goals
        have hone : ∀ q, getK L1 n = some q → q.vo.oneCell' = true := fun q hq => by
          obtain ⟨_, _, e, _⟩ := (k.sok _ (getK_mem (hL ▸ hq))).1
          rw [e]; rfl
        dsimp only [Option.map_none, Option.map_some, stE] at hlk hpe
        refine calls [(0, _), (1, _)] Tryz.func46 rfl Tryz.ntmps46 rfl ⟨rfl, rfl, trivial⟩ ?_
        all_goals (refine WC.sr ?_; refine WL.stepR (okE_box rfl) rfl rfl rfl ?_; rintro _ h1 ⟨b3, rfl, hg1, hb2, hx1⟩; have k2 : Ss h1 A st sk ov cnt L1 P := hL ▸ k.ext0 hx1; have T2 := Tn.no (A := A) (P := P) hx1; refine Go ?_; refine WC.seq ?_; refine WC.sr ?_; refine Go ?_; refine WL.ld rfl (by first | exact cell_blk hb2 rfl | assumption | exact cell_blk (by assumption) rfl) rfl rfl rfl ?_; refine Go ?_; refine Gs [(0, _), (3, _), (11, _)] ?_; refine goC 1 2 ?_ TT.mk; refine goB 2 ?_; refine WC.skip ?_; refine Gn ?_; refine WC.seq ?_; refine WC.sr ?_; refine Go ?_; refine WL.ld rfl (by first | exact cell_blk hb2 rfl | assumption | exact cell_blk (by assumption) rfl) rfl rfl rfl ?_)
        all_goals (refine WL.call (vs := [_, _]) rfl (fun a w => Tryz.call78 a w) rfl (refused_v k2 t (by omega)) rfl rfl rfl ?_
                   rintro _ h3 ⟨rfl, hx3⟩
                   rw [hr]
                   dsimp only [erV]
                   have k3 := k2.ext0 hx3
                   have hb3 := hx3.obj hb2 nos
                   have hbs3 := k3.se.blk
                   have hms3 := k3.se.stm
                   have T3 := T2.trans (Tn.no (A := A) (P := P) hx3))
        all_goals (refine Go ?_; refine Gs [(0, _), (3, _), (6, _)] ?_; refine WC.sr ?_; refine Go ?_; refine WL.step (ok_neqIn (by kernel_rfl) rfl rfl) rfl rfl rfl ?_; refine Gn ?_; refine goC 3 4 ?_ TT.mk; refine goB 4 ?_; refine WC.skip ?_; refine Gn ?_; refine WC.seq ?_; refine WC.seq ?_; refine WC.drawH (fun h' => Ext No h3 h') 13 13 rfl fol ?_; refine WH.tk 0 rfl (fun hq hC => ok_move rfl) rfl rfl rfl ?_; refine WH.tk 1 rfl (fun hq hC => ok_nilCheck rfl) rfl rfl rfl ?_; refine WH.tk 2 rfl (fun hq hC => ok_fieldAddr rfl Tryz.underlying54 rfl (fun w => Tryz.sizeOf50 w)) rfl rfl rfl ?_; refine WH.tk 3 rfl (fun hq hC => ok_load (fun w => Tryz.isAgg50 w) rfl (by first | exact hC.cell (by first | exact cell_blk hbs3 rfl | assumption | exact cell_blk (by assumption) rfl) nos)) rfl rfl rfl ?_; refine WH.tk 4 rfl (fun hq hC => ok_fieldAddr rfl Tryz.underlying32 rfl (fun w => Tryz.sizeOf9 w)) rfl rfl rfl ?_; refine WH.tk 5 rfl (fun hq hC => ok_load (fun w => Tryz.isAgg9 w) rfl (by first | exact hC.cell (by first | exact cell_blk hb3 rfl | assumption | exact cell_blk (by assumption) rfl) nos)) rfl rfl rfl ?_; first | (refine WH.tk 6 rfl (fun hq hC => (ok_lookup keyS Tryz.underlying50 Tryz.underlying9 rfl rfl (hms3.ext hC nos) hlk).1) rfl rfl rfl ?_) | (refine WH.tk 6 rfl (fun hq hC => (ok_lookup_no keyS Tryz.underlying50 Tryz.underlying9 (fun w => Tryz.zeroValue135 w) rfl rfl (hms3.ext hC nos) hlk).1) rfl rfl rfl ?_))
        all_goals (refine WH.tk 7 rfl (fun hq hC => ok_move rfl) rfl rfl rfl ?_; refine WH.tk 8 rfl (fun hq hC => ok_extract rfl rfl) rfl rfl rfl ?_; refine WH.tk 9 rfl (fun hq hC => ok_extract rfl rfl) rfl rfl rfl ?_; refine WH.one 10 (by kernel_rfl) ?_; refine Comes1.run rfl (okE_alloc (fun w => Tryz.zeroValue135 w)) rfl rfl rfl ?_ (fun _ => by kernel_rfl); rintro _ h4 ⟨b7, rfl, hg4, hb4, hx4⟩; refine ⟨fun _ => hx4, ?_⟩; refine WH.one 11 (by kernel_rfl) ?_; refine Comes1.run0 rfl (okE_storeW (fun w => Tryz.sizeOf135 w) rfl rfl rfl hb4 rfl (by first | (simp [Value.oneCell']; done) | (simp [Value.oneCell']; exact hone _ hg))) rfl rfl ?_ (fun _ => by kernel_rfl); rintro _ h5 ⟨hb5, hx5⟩; refine ⟨fun _ => hx4.trans' hx5 (fun q hq e => by omega), ?_⟩; have X5 : Ext No h3 h5 := hx4.trans' hx5 (fun q hq e => by omega); have k5 := k3.ext0 X5; have hbs5 := k5.se.blk; have hms5 := k5.se.stm; have hb35 := X5.obj hb3 nos; have T5 := T3.trans (Tn.no (A := A) (P := P) X5); refine WH.tk 12 rfl (fun hq hC => ok_assign rfl) rfl rfl rfl ?_; refine WH.done (by kernel_rfl) ?_; refine Gn ?_; refine Gs [(0, _), (3, _), (8, _)] ?_; refine WC.sr ?_; refine Go ?_; refine goC 5 6 ?_ TT.mk)
        all_goals (first | (fail_if_success refine goB 5 ?_) | (
        refine goB 5 ?_
        all_goals (refine WC.sr ?_; refine Go ?_; refine WL.ld rfl (by first | exact cell_blk hb35 rfl | assumption | exact cell_blk (by assumption) rfl) rfl rfl rfl ?_; refine WL.call (vs := [_]) rfl (fun a w => Tryz.call80 a w) rfl (exists_any n (by omega)) rfl rfl rfl ?_; rintro _ h6 ⟨rfl, hx6⟩; refine WL.call (vs := [_, _]) rfl (fun a w => Tryz.call79 a w) rfl (stop_v _ _) rfl rfl rfl ?_; rintro _ hq ⟨rfl, hz⟩; replace hz := hz.symm; subst hz; refine Go ?_; refine Gs [(4, _), (5, _)] ?_; refine Gt ?_)
        all_goals (first
                    | exact Dealt.err hpe (.of k3 T3)
                    | exact Dealt.err hpe (.of (k5.ext0 hx6) (T5.trans (Tn.no (A := A) (P := P) hx6)))
                    | (rw [hpe]; exact ⟨_, [bk0 49 0 []], (fun e => absurd rfl e), rfl, .tag hq8 (by have := T7.1.size; omega), rfl, _, _, k7.ext0 hx8, putL_pl _ _ _, rfl, T7.trans (Tn.no (A := A) (P := P) hx8)⟩))
        skip))
        all_goals (refine goB 6 ?_; refine WC.skip ?_; refine Gn ?_; refine WC.seq ?_; refine WC.drawH (fun h' => Ext No h5 h') 12 13 rfl fol ?_; refine WH.tk 0 rfl (fun hq hC => ok_move rfl) rfl rfl rfl ?_; refine WH.tk 1 rfl (fun hq hC => ok_nilCheck rfl) rfl rfl rfl ?_; refine WH.tk 2 rfl (fun hq hC => ok_fieldAddr rfl Tryz.underlying54 rfl (fun w => Tryz.sizeOf50 w)) rfl rfl rfl ?_; refine WH.tk 3 rfl (fun hq hC => ok_load (fun w => Tryz.isAgg50 w) rfl (by first | exact hC.cell (by first | exact cell_blk hbs5 rfl | assumption | exact cell_blk (by assumption) rfl) nos)) rfl rfl rfl ?_; refine WH.tk 4 rfl (fun hq hC => ok_fieldAddr rfl Tryz.underlying32 rfl (fun w => Tryz.sizeOf9 w)) rfl rfl rfl ?_; refine WH.tk 5 rfl (fun hq hC => ok_load (fun w => Tryz.isAgg9 w) rfl (by first | exact hC.cell (by first | exact cell_blk hb35 rfl | assumption | exact cell_blk (by assumption) rfl) nos)) rfl rfl rfl ?_; refine WH.tk 6 rfl (fun hq hC => ok_fieldAddr rfl Tryz.underlying32 rfl (fun w => Tryz.sizeOf9 w)) rfl rfl rfl ?_; refine WH.tk 7 rfl (fun hq hC => ok_load (fun w => Tryz.isAgg9 w) rfl (by first | exact hC.cell (by first | exact cell_blk hb35 rfl | assumption | exact cell_blk (by assumption) rfl) nos)) rfl rfl rfl ?_; refine WH.tk 8 rfl (fun hq hC => ok_fieldAddr rfl Tryz.underlying32 rfl (fun w => Tryz.sizeOf29 w)) rfl rfl rfl ?_; refine WH.tk 9 rfl (fun hq hC => ok_load (fun w => Tryz.isAgg29 w) rfl (by first | exact hC.cell (by first | exact cell_blk hb35 rfl | assumption | exact cell_blk (by assumption) rfl) nos)) rfl rfl rfl ?_; refine WH.one 10 (by kernel_rfl) ?_; refine Comes1.call (vs := [_]) rfl rfl (fun a w => Tryz.call81 a w) rfl (clone_ints o (er.ext' T5.1 (fun q h1 h2 => hF q (.inl ⟨h1, h2⟩))) (by unfold reachBytes; omega)) rfl rfl rfl ?_ (fun _ => by kernel_rfl); rintro v6 h6 ⟨ho6, hx6, hf6⟩; obtain ⟨A6, c6, rfl, _⟩ := ho6.slice; refine ⟨fun _ => hx6, ?_⟩; refine WH.tk 11 rfl (fun hq hC => ok_buildF (vs := [_, _]) (cs := [_, _]) (fun | [a0, a1] => [a0, a1] | _ => []) rfl rfl (by kernel_rfl)) rfl rfl rfl ?_; refine WH.one 12 (by kernel_rfl) ?_; refine Comes1.run0 rfl (ok_mapUpdate keyS Tryz.underlying50 Tryz.underlying9 rfl rfl rfl (hms5.ext hx6 nos)) rfl rfl ?_ (fun _ => by kernel_rfl); rintro _ h7 ⟨hm7, hx7⟩; refine ⟨fun e => (by cases e), ?_⟩)
        all_goals (rw [show (Value.agg ⟨[St t, .slice A6 o.length c6]⟩) = stE ⟨t, .slice A6 o.length c6, o⟩ from rfl, aput_encK] at hm7
                   have k6 := k5.ext0 hx6
                   obtain ⟨k7, t7⟩ := k6.turnL hx7 hm7 (fun q hq => (mem_putK hq).elim (fun e => .inr (by subst e; exact ⟨ho6.rd, fl4, fun z _ hz => k6.notOwn ho6 (by decide) (by decide) (by decide) z hz⟩)) (fun e => .inl e.1))
                   have T7 := (T5.trans (Tn.no (A := A) (P := P) hx6)).trans t7)
        all_goals (refine WH.done (by kernel_rfl) ?_; refine Gn ?_; refine Gs [] ?_; refine WC.sr ?_; refine WL.call (vs := [_]) rfl (fun a w => Tryz.call82 a w) rfl (plain_v 49) rfl rfl rfl ?_; rintro _ h8 ⟨q, rfl, hq8, hgq, hx8⟩; refine Go ?_; refine Gt ?_)
        all_goals (first
                    | exact Dealt.err hpe (.of k3 T3)
                    | exact Dealt.err hpe (.of (k5.ext0 hx6) (T5.trans (Tn.no (A := A) (P := P) hx6)))
                    | (rw [hpe]; exact ⟨_, [bk0 49 0 []], (fun e => absurd rfl e), rfl, .tag hq8 (by have := T7.1.size; omega), rfl, _, _, k7.ext0 hx8, putL_pl _ _ _, rfl, T7.trans (Tn.no (A := A) (P := P) hx8)⟩))
    · dsimp only at hpe
      refine calls [(0, _), (1, _)] Tryz.func46 rfl Tryz.ntmps46 rfl ⟨rfl, rfl, trivial⟩ ?_
      all_goals (refine WC.sr ?_; refine WL.stepR (okE_box rfl) rfl rfl rfl ?_; rintro _ h1 ⟨b3, rfl, hg1, hb2, hx1⟩; have k2 : Ss h1 A st sk ov cnt L1 P := hL ▸ k.ext0 hx1; have T2 := Tn.no (A := A) (P := P) hx1; refine Go ?_; refine WC.seq ?_; refine WC.sr ?_; refine Go ?_; refine WL.ld rfl (by first | exact cell_blk hb2 rfl | assumption | exact cell_blk (by assumption) rfl) rfl rfl rfl ?_; refine Go ?_; refine Gs [(0, _), (3, _), (11, _)] ?_; refine goC 1 2 ?_ TT.mk; refine goB 2 ?_; refine WC.skip ?_; refine Gn ?_; refine WC.seq ?_; refine WC.sr ?_; refine Go ?_; refine WL.ld rfl (by first | exact cell_blk hb2 rfl | assumption | exact cell_blk (by assumption) rfl) rfl rfl rfl ?_)
      all_goals (refine WL.call (vs := [_, _]) rfl (fun a w => Tryz.call78 a w) rfl (refused_v k2 t (by omega)) rfl rfl rfl ?_
                 rintro _ h3 ⟨rfl, hx3⟩
                 rw [hr]
                 dsimp only [erV]
                 have k3 := k2.ext0 hx3
                 have hb3 := hx3.obj hb2 nos
                 have hbs3 := k3.se.blk
                 have hms3 := k3.se.stm
                 have T3 := T2.trans (Tn.no (A := A) (P := P) hx3))
      all_goals (refine Go ?_; refine Gs [(0, _), (3, _), (6, _)] ?_; refine WC.sr ?_; refine Go ?_; refine WL.step (ok_neqIh (by kernel_rfl) rfl rfl) rfl rfl rfl ?_; refine Gn ?_; refine goC 3 4 ?_ TT.mk; refine goB 3 ?_; refine WC.sr ?_; refine Go ?_; refine Gs [(4, _), (5, _)] ?_; refine Gt ?_)
      all_goals (first
                  | exact Dealt.err hpe (.of k3 T3)
                  | exact Dealt.err hpe (.of (k5.ext0 hx6) (T5.trans (Tn.no (A := A) (P := P) hx6)))
                  | (rw [hpe]; exact ⟨_, [bk0 49 0 []], (fun e => absurd rfl e), rfl, .tag hq8 (by have := T7.1.size; omega), rfl, _, _, k7.ext0 hx8, putL_pl _ _ _, rfl, T7.trans (Tn.no (A := A) (P := P) hx8)⟩))
end
end Go.Proofs.YtbokngiajfdanaaGreatDoor


