/-
  InjectReady holds: at most two are told, which may be said and are hidden; then the statement is there, and not more than may be.
-/
import Derived.Test.YtkejihockkhnoaaInjectTells
import Derived.Test.YtkejihockkhnoaaChk
namespace Go.Proofs.Ytkejihockkhnoaa
open Go Go.RK

/-! ### in plain Lean -/
abbrev FmP := Int × Int × List UInt8 × List UInt8 × List UInt8 × List Int × List Int × List Int × List (Bool × List UInt8) × Int
abbrev EnP := Int × Bool × List UInt8 × List UInt8 × List TOp × List TOp × List COp × List UInt8
theorem clean_app (a b : List UInt8) : cleanB (a ++ b) = (cleanB a && cleanB b) := by
  unfold cleanB
  rw [List.contains_eq_any_beq, List.any_append, List.contains_eq_any_beq, List.contains_eq_any_beq, Bool.not_or]
theorem rdig_clean (m : Nat) : cleanB (rdig m) = true := by
  induction m using Nat.strongRecOn with
  | _ m ih =>
    have hd : ∀ k, k < 10 → cleanB [UInt8.ofNat (48 + k)] = true := by decide
    by_cases h : m < 10
    · rw [rdig_lt h]
      exact hd m h
    · rw [rdig_ge h, show (UInt8.ofNat (48 + m % 10) :: rdig (m / 10)) = [UInt8.ofNat (48 + m % 10)] ++ rdig (m / 10) from rfl, clean_app, hd _ (by omega), ih (m / 10) (by omega)]
      rfl
theorem dig_clean (m : Nat) : cleanB (dig m) = true := by
  have := rdig_clean m
  unfold cleanB dig at *
  rw [List.contains_eq_any_beq] at *
  rwa [List.any_reverse]
theorem srv_clean (x : Int) : cleanB (srvL x) = true := by
  unfold srvL
  split
  · rfl
  · rw [clean_app]
    unfold deci
    split
    · rw [show (45 :: dig x.natAbs) = [45] ++ dig x.natAbs from rfl, clean_app, dig_clean]
      rfl
    · rw [dig_clean]
      rfl
def opsE (E : List EnP) : List COp := E.flatMap fun p => p.2.2.2.2.2.2.1
theorem readyE_ok (S : List Int) (most id : Int) : (readyE S most id).length ≤ 2 ∧ ∀ p ∈ readyE S most id, p.2.1 = true ∧ p.2.2.2.2.2.2.1.length ≤ 1 := by
  unfold readyE
  split
  · simp
  · unfold roomE
    split
    · simp [hideP]
    · split <;> simp [hideP]
theorem readyF_ok (S : List Int) (most id : Int) (t : List UInt8) : (readyF S most id t []).length = (readyE S most id).length ∧ ∀ p ∈ readyF S most id t [], (∃ x, p = closeP (srvL x)) ∨ (∃ x, p = parseP (srvL x) t []) := by
  unfold readyF readyE
  split
  · simp
  · cases S with
    | nil => exact ⟨rfl, fun p hp => .inr ⟨id, by simpa [roomF] using hp⟩⟩
    | cons x l =>
      by_cases hlt : ((x :: l).length : Int) < most
      · rw [show roomF (x :: l) most = [] from if_pos hlt, show roomE (x :: l) most = [] from if_pos hlt]
        exact ⟨rfl, fun p hp => .inr ⟨id, by simpa using hp⟩⟩
      · rw [show roomF (x :: l) most = [closeP (srvL x)] from if_neg hlt, show roomE (x :: l) most = [hideP 7 2 x] from if_neg hlt]
        refine ⟨rfl, fun p hp => ?_⟩
        simp only [List.cons_append, List.nil_append, List.mem_cons, List.not_mem_nil, or_false] at hp
        rcases hp with hp | hp
        · exact .inl ⟨x, hp⟩
        · exact .inr ⟨id, hp⟩
theorem ready_R {S : List Int} {most id : Int} (hn : S.Nodup) (h1 : (S.length : Int) ≤ most) (h0 : 1 ≤ most) : id ∈ foldL S (opsE (readyE S most id)) ∧ ((foldL S (opsE (readyE S most id))).length : Int) ≤ most := by
  unfold readyE
  split
  · rename_i hin
    exact ⟨hin, h1⟩
  · rename_i hin
    cases S with
    | nil => simp [roomE, opsE, hideP, foldL, oneL]; omega
    | cons x l =>
      by_cases hlt : ((x :: l).length : Int) < most
      · have e : roomE (x :: l) most = [] := if_pos hlt
        rw [e]
        have : foldL (x :: l) (opsE ([] ++ [hideP 2 1 id])) = (x :: l) ++ [id] := by
          simp [opsE, hideP, foldL, oneL]
          simpa using hin
        rw [this]
        exact ⟨by simp, by simp at hlt ⊢; omega⟩
      · have e : roomE (x :: l) most = [hideP 7 2 x] := if_neg hlt
        rw [e]
        have hxl : x ∉ l := (List.nodup_cons.1 hn).1
        have e2 : rmL (x :: l) x = l := by
          have : rmL l x = l := mem_rm hxl
          simp [rmL] at this ⊢
          exact this
        have : foldL (x :: l) (opsE ([hideP 7 2 x] ++ [hideP 2 1 id])) = l ++ [id] := by
          simp only [opsE, hideP, foldL, List.cons_append, List.nil_append, List.flatMap_cons, List.flatMap_nil, List.foldl_cons, List.foldl_nil]
          rw [show oneL (x :: l) 2 x = l from e2]
          unfold oneL
          rw [if_pos rfl, if_neg (fun e => hin (List.mem_cons_of_mem _ e))]
        rw [this]
        exact ⟨by simp, by simp at h1 ⊢; omega⟩
/-- What may be said of a message of Ready's. -/
def MsgOk (t : List UInt8) (f : Fm) : Prop := ∃ k w n t' A B C D ca cb cc cd, Three k w n t' ∧ f.cells = noL k w n [] t' (.slice A 0 ca) (.slice B 0 cb) (.slice C 0 cc) (.slice D 0 cd) ∧ cleanB n = true ∧ (cleanB t = true → cleanB t' = true)
theorem msg_ok {h : Heap} {t : List UInt8} {f : Fm} (hf : f.ok h) (e : (∃ x, f.pl = closeP (srvL x)) ∨ ∃ x, f.pl = parseP (srvL x) t []) : MsgOk t f := by
  obtain ⟨k, w, n, p, tt, vo, o, vf, ff, vs, r, vp, c, m⟩ := f
  obtain ⟨⟨h1, _⟩, ⟨h2, _⟩, ⟨h3, _⟩, ⟨h4, _⟩⟩ := hf
  simp only at h1 h2 h3 h4
  obtain ⟨A, ca, rfl, _⟩ := id h1
  obtain ⟨B, cb, rfl, _⟩ := id h2
  obtain ⟨C, cc, rfl, _⟩ := id h3
  obtain ⟨D, cd, rfl, _⟩ := id h4
  rcases e with ⟨x, e⟩ | ⟨x, e⟩
  · simp only [Fm.pl, closeP, Prod.mk.injEq] at e
    obtain ⟨rfl, rfl, rfl, rfl, rfl, rfl, rfl, rfl, ec, rfl⟩ := e
    obtain rfl : c = [] := by simpa using ec
    exact ⟨_, _, _, _, _, _, _, _, _, _, _, _, .inl ⟨rfl, rfl, rfl⟩, rfl, srv_clean x, fun _ => rfl⟩
  · simp only [Fm.pl, parseP, Prod.mk.injEq] at e
    obtain ⟨rfl, rfl, rfl, rfl, rfl, rfl, rfl, rfl, ec, rfl⟩ := e
    obtain rfl : c = [] := by simpa using ec
    exact ⟨_, _, _, _, _, _, _, _, _, _, _, _, .inr (.inl ⟨rfl, rfl⟩), rfl, srv_clean x, fun h => h⟩
theorem opsE_of {M : List En} {E : List EnP} (e : M.map En.pl = E) : M.flatMap En.ops = opsE E := by
  subst e
  unfold opsE
  rw [List.flatMap_map]
  rfl
theorem take_ops {M : List En} {k : Nat} {y : En} (h : M[k]? = some y) : (M.take (k + 1)).flatMap En.ops = (M.take k).flatMap En.ops ++ y.ops := by
  rw [List.take_add_one, h]
  simp
theorem ops_len {M : List En} (h1 : ∀ e ∈ M, e.ops.length ≤ 1) : ∀ k, ((M.take k).flatMap En.ops).length ≤ k := by
  intro k
  induction k with
  | zero => simp
  | succ k ih =>
    rcases hk : M[k]? with _ | y
    · rw [List.take_of_length_le (by have := List.getElem?_eq_none_iff.1 hk; omega)] at ih ⊢
      omega
    · rw [take_ops hk, List.length_append]
      have := h1 y (List.mem_of_getElem? hk)
      omega
set_option maxRecDepth 100000 in
/-- The ops of all entries. -/
theorem ops19 {h : Heap} {v : Value} (M : List En) (hM : Ens h v M) (h2 : M.length ≤ 1000) (h1 : ∀ e ∈ M, e.ops.length ≤ 1) :
    CallsH Try.prog 37 ⟨[v]⟩ h fun u h' => Ops h' u (M.flatMap En.ops) ∧ Ext No h h' := by
  obtain ⟨hr, hm, hok⟩ := hM
  obtain ⟨A, c, rfl, _⟩ := id hr
  have hlen := ops_len h1
  refine calls [(0, _)] Try.func37 rfl Try.ntmps37 rfl ⟨rfl, trivial⟩ ?_
  all_goals (refine WC.seq ?_)
  all_goals (refine WC.region ?_)
  all_goals (refine WL.step (ok_assign rfl) rfl rfl rfl ?_)
  all_goals (refine WL.nil ?_)
  all_goals (repeat' (with_reducible first | refine thenP_n ?_ | refine blockP_n ?_))
  all_goals (refine WC.seq ?_)
  all_goals (refine WC.region ?_)
  all_goals (refine WL.step (ok_assign rfl) rfl rfl rfl ?_)
  all_goals (refine WL.nil ?_)
  all_goals (repeat' (with_reducible first | refine thenP_n ?_ | refine blockP_n ?_))
  all_goals (refine WC.seq ?_)
  all_goals (refine WC.seq ?_)
  all_goals (refine WC.region ?_)
  all_goals (refine WL.step (ok_move rfl) rfl rfl rfl ?_)
  all_goals (refine WL.step (ok_lenL rfl Try.underlying27 rfl) rfl rfl rfl ?_)
  all_goals (refine WL.step (ok_move rfl) rfl rfl rfl ?_)
  all_goals (refine WL.nil ?_)
  all_goals (repeat' (with_reducible first | refine thenP_n ?_ | refine blockP_n ?_))
  all_goals (refine WC.block ?_)
  -- loop 0: slots that turn [3, 8], that stay [6, 7]
  all_goals (refine WC.loopG (X := Nat × Value) (fun x => ([(8, In (x.1 : Int)), (3, x.2)] : Fr)) [(6, _), (7, _)] (fun x h' => x.1 ≤ M.length ∧ Own h' x.2 78 2 ((M.take x.1).flatMap En.ops).length (((M.take x.1).flatMap En.ops).flatMap copCells) ∧ Ext No h h' ∧ ∀ k, x.2.ownBlock = some k → h.size ≤ k) (fun x => M.length - x.1) ((0, .slice none 0 0)) ⟨rfl, rfl, rfl, rfl, trivial⟩ (by exact ⟨Nat.zero_le _, Own.nil _ _ _, .refl _ _, by simp [Value.ownBlock]⟩) ?_)
  all_goals (rintro ⟨k, v1⟩ h1' ⟨hk, ho1, hx1, hf1⟩
             simp only at hk ho1 hf1
             have hlk := hlen k)
  all_goals (refine WC.sub [(3, _), (8, _), (6, _), (7, _)] ⟨rfl, rfl, rfl, rfl, trivial⟩ ?_)
  all_goals (dsimp only)
  all_goals (refine WC.seq ?_)
  all_goals (refine WC.region ?_)
  all_goals (first | (refine WL.step (OkP.bool_t (by omega) (ok_lss rfl rfl)) rfl rfl rfl ?_) | (refine WL.step (OkP.bool_f (by omega) (ok_lss rfl rfl)) rfl rfl rfl ?_) | (refine WL.step (ok_lss rfl rfl) rfl rfl rfl ?_))
  all_goals (refine WL.nil ?_)
  all_goals (repeat' (with_reducible first | refine thenP_n ?_ | refine blockP_n ?_))
  all_goals (refine WC.seq ?_)
  all_goals (first | refine WC.condB_t 1 rfl ?_ | refine WC.condB_f 2 rfl ?_ | (refine WC.condB 1 2 rfl (fun hb => ?_) (fun hb => ?_) <;> (first | replace hb := of_decide_eq_true hb | replace hb := of_decide_eq_false hb | replace hb := of_decide_eq_false (nt hb) | replace hb := of_decide_eq_true (nf hb) | skip)))
  all_goals (first
    | (fail_if_success (refine Br.mk (i := 1) ?_))
    | (refine Br.mk (i := 1) ?_
       all_goals (refine WC.skip ?_)
       skip))
  all_goals (first
    | (fail_if_success (refine Br.mk (i := 2) ?_))
    | (refine Br.mk (i := 2) ?_
       all_goals (refine WC.exit ?_)
       all_goals (repeat' (with_reducible first | refine thenP_x ?_ | refine blockP_miss rfl ?_ | refine blockP_hit ?_ | refine blockP_n ?_ | refine thenP_n ?_))
       all_goals (refine Br.out (i := 1000) ?_)
       skip))
  all_goals (first | (refine Br.keep ?_) | (repeat' (with_reducible first | refine thenP_n ?_ | refine blockP_n ?_)))
  all_goals (first | (refine Br.keep ?_) | (refine WC.seq ?_))
  all_goals (first | (refine Br.keep ?_) | (refine WC.block ?_))
  all_goals (first | (refine Br.keep ?_) | (refine WC.seq ?_))
  all_goals (first | (refine Br.keep ?_) | (refine WC.region ?_))
  all_goals (first
               | (refine Br.keep ?_)
               | (obtain ⟨bL, oL, hA, hbL, hat⟩ := Rd.at_ (hr.ext0 hx1) (by omega)
                  obtain ⟨y, hy⟩ : ∃ y, M[k]? = some y := ⟨_, List.getElem?_eq_getElem (by omega)⟩
                  have hc : At h1' bL (oL + k * 8) y.cells := At.elem En.len hat hy
                  have hyk := hok y (List.mem_of_getElem? hy)
                  have hy1 := h1 y (List.mem_of_getElem? hy)))
  all_goals (first | (refine Br.keep ?_) | (refine WL.step (ok_idxAddrA Try.underlying27 (fun w => Try.sizeOf51 w) rfl rfl rfl (by omega) (by first | rfl | assumption)) rfl rfl rfl ?_))
  all_goals (first | (refine Br.keep ?_) | (refine WL.step (ok_loadN (fun w => Try.isAgg51 w) (fun w => Try.sizeOf51 w) rfl rfl (by assumption)) rfl rfl rfl ?_))
  all_goals (first
               | (refine Br.keep ?_)
               | (refine WL.stepR (okE_alloc (fun w => Try.zeroValue51 w)) rfl rfl rfl ?_
                  rintro _ h2' ⟨b2, rfl, hg2, hb2, hx2⟩))
  all_goals (first
               | (refine Br.keep ?_)
               | (refine WL.stepR0 (okE_storeW (fun w => Try.sizeOf51 w) rfl rfl rfl (by assumption) rfl hyk.one) rfl rfl ?_
                  rintro _ h3 ⟨hb3, hx3⟩))
  all_goals (first
               | (refine Br.keep ?_)
               | (have hx13 : Ext No h1' h3 := hx2.trans' hx3 (fun q hq e => by omega)
                  have hX3 := hx1.trans hx13
                  have hyo := (hyk.ops.ext0 hX3).1
                  have ho3 := ho1.ext hx13 (fun _ _ => nos)
                  obtain ⟨Ay, cy, ey, _⟩ := id hyo
                  have hey : y.cells[6]? = some y.vc := rfl
                  rw [ey] at hyo hey))
  all_goals (first | (refine Br.keep ?_) | (refine WL.nil ?_))
  all_goals (first | (refine Br.keep ?_) | (repeat' (with_reducible first | refine thenP_n ?_ | refine blockP_n ?_)))
  all_goals (first | (refine Br.keep ?_) | (refine WC.region ?_))
  all_goals (first | (refine Br.keep ?_) | (refine WL.step (ok_move rfl) rfl rfl rfl ?_))
  all_goals (first | (refine Br.keep ?_) | (refine WL.step (ok_fieldAddr rfl Try.underlying51 rfl (fun w => Try.sizeOf40 w)) rfl rfl rfl ?_))
  all_goals (first | (refine Br.keep ?_) | (refine WL.step (ok_load (fun w => Try.isAgg40 w) rfl (by first | exact cell_blk hb3 hey | assumption | exact cell_blk (by assumption) rfl)) rfl rfl rfl ?_))
  all_goals (first
               | (refine Br.keep ?_)
               | (refine WL.stepR (ok_append (sz := 2) (bytes := 16) rfl Try.underlying40 (show Try.prog.info? 78 = some Try.t78 by kernel_rfl) rfl rfl rfl rfl (by decide) rfl rfl ho3 hyo (by intro v hv; obtain ⟨o, _, ho⟩ := List.mem_flatMap.1 hv; simp [copCells] at ho; rcases ho with rfl | rfl <;> rfl) (by simp only [maxLen]; omega) (by omega)) rfl rfl rfl ?_
                  rintro v5 h5 ⟨ho5, hx5, hl5⟩))
  all_goals (first | (refine Br.keep ?_) | (refine WL.step (ok_assign rfl) rfl rfl rfl ?_))
  all_goals (first | (refine Br.keep ?_) | (refine WL.nil ?_))
  all_goals (first | (refine Br.keep ?_) | (repeat' (with_reducible first | refine thenP_n ?_ | refine blockP_n ?_)))
  all_goals (first | (refine Br.keep ?_) | (refine WC.sub [(3, _), (6, _), (7, _), (8, _)] ⟨rfl, rfl, rfl, rfl, trivial⟩ ?_))
  all_goals (first | (refine Br.keep ?_) | (refine WC.region ?_))
  all_goals (first | (refine Br.keep ?_) | (first | (refine WL.step (ok_addI rfl rfl (by omega)) rfl rfl rfl ?_) | (refine WL.step (ok_add rfl rfl) rfl rfl rfl ?_)))
  all_goals (first | (refine Br.keep ?_) | (refine WL.step (ok_move rfl) rfl rfl rfl ?_))
  all_goals (first | (refine Br.keep ?_) | (refine WL.nil ?_))
  all_goals (first | (refine Br.keep ?_) | (repeat' (with_reducible first | refine thenP_n ?_ | refine blockP_n ?_)))
  all_goals (first | (refine Br.keep ?_) | (exact ⟨(k + 1, _), ⟨rfl, rfl, rfl, rfl, trivial⟩, (by exact ⟨by simp; omega, by rw [take_ops hy, List.length_append, List.flatMap_append]; exact ho5, hX3.trans' hx5 (fun q hq e => by have := hf1 q e; omega), fresh_of hl5 hf1 hX3.size⟩), (by simp; omega)⟩))
  all_goals (try (refine Br.mk (i := 1000) ?_))
  all_goals (repeat' (with_reducible first | refine thenP_n ?_ | refine blockP_n ?_))
  all_goals (refine WC.sub [(3, _)] ⟨rfl, trivial⟩ ?_)
  all_goals (refine WC.seq ?_)
  all_goals (refine WC.region ?_)
  all_goals (refine WL.step (ok_move rfl) rfl rfl rfl ?_)
  all_goals (refine WL.step (ok_assign rfl) rfl rfl rfl ?_)
  all_goals (refine WL.nil ?_)
  all_goals (repeat' (with_reducible first | refine thenP_n ?_ | refine blockP_n ?_))
  all_goals (refine WC.ret ?_)
  all_goals (repeat' (with_reducible first | refine thenP_r ?_ | refine blockP_r ?_))
  all_goals (refine retP_1 _ ⟨rfl, trivial⟩ ?_)
  all_goals (rw [List.take_of_length_le (by omega)] at ho1 hlk
             exact ⟨⟨ho1.rd, by unfold reachBytes; omega⟩, hx1⟩)
def specL (n : Int) (ids : List UInt8) : List Int := ids.foldl (fun S k => if (S.length : Int) < n ∧ 1 + (k.toNat : Int) ∉ S then S ++ [1 + (k.toNat : Int)] else S) []
theorem u8_wf {n : Int} (h : (Lit.int .u8 n).wf = true) : 0 ≤ n ∧ n ≤ 255 := by
  simpa [Lit.wf, IntKind.min, IntKind.max, IntKind.signed, IntKind.bits] using h
set_option maxHeartbeats 2000000 in
set_option maxRecDepth 100000 in
theorem ready_law {h : Heap} {v : Value} (ids : List UInt8) (m i : Int) (t : List UInt8) (hr : Rd h v 1 ids.length (bys ids)) (hm : ids.length ≤ reachBytes) (hm0 : 0 ≤ m) (hi0 : 0 ≤ i) (hi1 : i ≤ 255) (ht : t.length ≤ maxLen) :
    CallsH Try.prog 7 ⟨[v, .int .u8 m, .int .u8 i, St t]⟩ h fun u h' => u = .bool true ∧ Ext No h h' := by
  obtain ⟨A, c, rfl, _⟩ := id hr
  unfold reachBytes at hm
  unfold maxLen at ht
  obtain ⟨r, hr9⟩ : ∃ r, m.tmod 20 = r := ⟨_, rfl⟩
  have hr0 : 0 ≤ r ∧ r ≤ 19 := by rw [← hr9, Int.tmod_eq_emod_of_nonneg hm0]; omega
  obtain ⟨most, hmo⟩ : ∃ q, 1 + r = q := ⟨_, rfl⟩
  obtain ⟨id, hid⟩ : ∃ q, 1 + i = q := ⟨_, rfl⟩
  refine calls [(0, _), (1, _), (2, _), (3, _)] Try.func7 rfl Try.ntmps7 rfl ⟨rfl, rfl, rfl, rfl, trivial⟩ ?_
  all_goals (refine WC.seq ?_)
  all_goals (refine WC.region ?_)
  all_goals (refine WL.step (ok_assign rfl) rfl rfl rfl ?_)
  all_goals (refine WL.nil ?_)
  all_goals (repeat' (with_reducible first | refine thenP_n ?_ | refine blockP_n ?_))
  all_goals (refine WC.seq ?_)
  all_goals (refine WC.seq ?_)
  all_goals (refine WC.region ?_)
  all_goals (refine WL.step (ok_move rfl) rfl rfl rfl ?_)
  all_goals (refine WL.step (ok_lenL rfl Try.underlying49 rfl) rfl rfl rfl ?_)
  all_goals (first | (refine WL.step (OkP.bool_t (by omega) (ok_gtr rfl rfl)) rfl rfl rfl ?_) | (refine WL.step (OkP.bool_f (by omega) (ok_gtr rfl rfl)) rfl rfl rfl ?_) | (refine WL.step (ok_gtr rfl rfl) rfl rfl rfl ?_))
  all_goals (refine WL.step (ok_move rfl) rfl rfl rfl ?_)
  all_goals (try ((fail_if_success (refine WL.part 21 (b := true) rfl (fun _ => ?_) (fun _ => ?_))); (fail_if_success (refine WL.part 21 (b := false) rfl (fun _ => ?_) (fun _ => ?_))); (refine WL.part 21 rfl (fun hb => ?_) (fun hb => ?_) <;> (first | replace hb := of_decide_eq_true hb | replace hb := of_decide_eq_false hb | replace hb := of_decide_eq_false (nt hb) | replace hb := of_decide_eq_true (nf hb) | skip))))
  all_goals (first | (refine WL.pass rfl rfl rfl ?_) | (refine WL.step (ok_move rfl) rfl rfl rfl ?_))
  all_goals (first | (refine WL.pass rfl rfl rfl ?_) | (refine WL.step (ok_lenS rfl Try.underlying9 rfl) rfl rfl rfl ?_))
  all_goals (first | (refine WL.pass rfl rfl rfl ?_) | (first | (refine WL.step (OkP.bool_t (by omega) (ok_gtr rfl rfl)) rfl rfl rfl ?_) | (refine WL.step (OkP.bool_f (by omega) (ok_gtr rfl rfl)) rfl rfl rfl ?_) | (refine WL.step (ok_gtr rfl rfl) rfl rfl rfl ?_)))
  all_goals (first | (refine WL.step (ok_pick_t rfl rfl) rfl rfl rfl ?_) | (refine WL.step (ok_pick_f rfl rfl) rfl rfl rfl ?_))
  all_goals (refine WL.nil ?_)
  all_goals (repeat' (with_reducible first | refine thenP_n ?_ | refine blockP_n ?_))
  all_goals (refine WC.sub [(0, _), (1, _), (2, _), (3, _), (25, _)] ⟨rfl, rfl, rfl, rfl, rfl, trivial⟩ ?_)
  all_goals (first | refine WC.condB_t 1 rfl ?_ | refine WC.condB_f 2 rfl ?_ | (refine WC.condB 1 2 rfl (fun hb => ?_) (fun hb => ?_) <;> (first | replace hb := of_decide_eq_true hb | replace hb := of_decide_eq_false hb | replace hb := of_decide_eq_false (nt hb) | replace hb := of_decide_eq_true (nf hb) | skip)))
  all_goals (first
    | (fail_if_success (refine Br.mk (i := 1) ?_))
    | (refine Br.mk (i := 1) ?_
       all_goals (refine WC.seq ?_)
       all_goals (refine WC.region ?_)
       all_goals (refine WL.call (vs := []) rfl (fun a w => Try.call9 a w) rfl (awake19) rfl rfl rfl ?_
                  rintro _ h9 ⟨rfl, hx9⟩)
       all_goals (refine WL.step (ok_assign rfl) rfl rfl rfl ?_)
       all_goals (refine WL.nil ?_)
       all_goals (repeat' (with_reducible first | refine thenP_n ?_ | refine blockP_n ?_))
       all_goals (refine WC.sub [(8, _)] ⟨rfl, trivial⟩ ?_)
       all_goals (refine WC.ret ?_)
       all_goals (repeat' (with_reducible first | refine thenP_r ?_ | refine blockP_r ?_))
       all_goals (refine retP_1 _ ⟨rfl, trivial⟩ ?_)
       all_goals (first | exact ⟨rfl, ((((hX2.trans hx3).trans hx9).trans hx10).trans hx11)⟩ | exact ⟨rfl, hx9⟩)
       skip))
  all_goals (first
    | (fail_if_success (refine Br.mk (i := 2) ?_))
    | (refine Br.mk (i := 2) ?_
       all_goals (refine WC.skip ?_)
       skip))
  all_goals (repeat' (with_reducible first | refine thenP_n ?_ | refine blockP_n ?_))
  all_goals (refine WC.seq ?_)
  all_goals (refine WC.region ?_)
  all_goals (refine WL.step (ok_move rfl) rfl rfl rfl ?_)
  all_goals (refine WL.step (ok_rem rfl rfl (by decide)) rfl rfl rfl ?_)
  all_goals (rw [hr9])
  all_goals (first | (refine WL.step (ok_convI Try.underlying5 Try.underlying3 rfl (by omega)) rfl rfl rfl ?_) | (refine WL.step (ok_conv Try.underlying5 Try.underlying3 rfl) rfl rfl rfl ?_))
  all_goals (first | (refine WL.step (ok_addI rfl rfl (by omega)) rfl rfl rfl ?_) | (refine WL.step (ok_add rfl rfl) rfl rfl rfl ?_))
  all_goals (rw [hmo])
  all_goals (refine WL.step (ok_assign rfl) rfl rfl rfl ?_)
  all_goals (refine WL.nil ?_)
  all_goals (repeat' (with_reducible first | refine thenP_n ?_ | refine blockP_n ?_))
  all_goals (refine WC.sub [(0, _), (2, _), (3, _), (9, _)] ⟨rfl, rfl, rfl, rfl, trivial⟩ ?_)
  all_goals (refine WC.seq ?_)
  all_goals (refine WC.region ?_)
  all_goals (refine WL.step (ok_assign rfl) rfl rfl rfl ?_)
  all_goals (refine WL.nil ?_)
  all_goals (repeat' (with_reducible first | refine thenP_n ?_ | refine blockP_n ?_))
  all_goals (refine WC.seq ?_)
  all_goals (refine WC.seq ?_)
  all_goals (refine WC.region ?_)
  all_goals (refine WL.step (ok_move rfl) rfl rfl rfl ?_)
  all_goals (refine WL.step (ok_lenL rfl Try.underlying49 rfl) rfl rfl rfl ?_)
  all_goals (refine WL.step (ok_move rfl) rfl rfl rfl ?_)
  all_goals (refine WL.nil ?_)
  all_goals (repeat' (with_reducible first | refine thenP_n ?_ | refine blockP_n ?_))
  all_goals (refine WC.block ?_)
  -- loop 0: slots that turn [10, 33], that stay [2, 3, 9, 31, 32]
  all_goals (refine WC.loopG (X := Nat × Value) (fun x => ([(33, In (x.1 : Int)), (10, x.2)] : Fr)) [(2, _), (3, _), (9, _), (31, _), (32, _)] (fun x h' => x.1 ≤ ids.length ∧ ∃ S : List Int, Own h' x.2 3 1 S.length (ints S) ∧ S.Nodup ∧ (S.length : Int) ≤ most ∧ Ext No h h' ∧ ∀ k, x.2.ownBlock = some k → h.size ≤ k) (fun x => ids.length - x.1) ((0, .slice none 0 0)) ⟨rfl, rfl, rfl, rfl, rfl, rfl, rfl, trivial⟩ (by exact ⟨Nat.zero_le _, [], Own.nil _ _ _, by simp, by simp; omega, .refl _ _, by simp [Value.ownBlock]⟩) ?_)
  all_goals (rintro ⟨k, v1⟩ h1 ⟨hk, S, ho1, hn1, hl1, hx1, hf1⟩
             simp only at hk ho1 hf1
             obtain ⟨A1, c1, rfl, _⟩ := _root_.id ho1.slice)
  all_goals (refine WC.sub [(10, _), (33, _), (2, _), (3, _), (9, _), (31, _), (32, _)] ⟨rfl, rfl, rfl, rfl, rfl, rfl, rfl, trivial⟩ ?_)
  all_goals (dsimp only)
  all_goals (refine WC.seq ?_)
  all_goals (refine WC.region ?_)
  all_goals (first | (refine WL.step (OkP.bool_t (by omega) (ok_lss rfl rfl)) rfl rfl rfl ?_) | (refine WL.step (OkP.bool_f (by omega) (ok_lss rfl rfl)) rfl rfl rfl ?_) | (refine WL.step (ok_lss rfl rfl) rfl rfl rfl ?_))
  all_goals (refine WL.nil ?_)
  all_goals (repeat' (with_reducible first | refine thenP_n ?_ | refine blockP_n ?_))
  all_goals (refine WC.seq ?_)
  all_goals (first | refine WC.condB_t 3 rfl ?_ | refine WC.condB_f 4 rfl ?_ | (refine WC.condB 3 4 rfl (fun hb => ?_) (fun hb => ?_) <;> (first | replace hb := of_decide_eq_true hb | replace hb := of_decide_eq_false hb | replace hb := of_decide_eq_false (nt hb) | replace hb := of_decide_eq_true (nf hb) | skip)))
  all_goals (first
    | (fail_if_success (refine Br.mk (i := 3) ?_))
    | (refine Br.mk (i := 3) ?_
       all_goals (refine WC.skip ?_)
       skip))
  all_goals (first
    | (fail_if_success (refine Br.mk (i := 4) ?_))
    | (refine Br.mk (i := 4) ?_
       all_goals (refine WC.exit ?_)
       all_goals (repeat' (with_reducible first | refine thenP_x ?_ | refine blockP_miss rfl ?_ | refine blockP_hit ?_ | refine blockP_n ?_ | refine thenP_n ?_))
       all_goals (refine Br.out (i := 1000) ?_)
       skip))
  all_goals (first | (refine Br.keep ?_) | (repeat' (with_reducible first | refine thenP_n ?_ | refine blockP_n ?_)))
  all_goals (first | (refine Br.keep ?_) | (refine WC.seq ?_))
  all_goals (first | (refine Br.keep ?_) | (refine WC.block ?_))
  all_goals (first | (refine Br.keep ?_) | (refine WC.seq ?_))
  all_goals (first | (refine Br.keep ?_) | (refine WC.region ?_))
  all_goals (first
               | (refine Br.keep ?_)
               | (obtain ⟨bL, oL, hA, hbL, hat⟩ := Rd.at_ (hr.ext0 hx1) (by omega)
                  obtain ⟨y, hy⟩ : ∃ y, ids[k]? = some y := ⟨_, List.getElem?_eq_getElem (by omega)⟩
                  have hc := hat.get (p := oL + k * 1) (v := By y) k (get_by hy) (by omega)
                  have hyb : y.toNat < 256 := y.toNat_lt))
  all_goals (first | (refine Br.keep ?_) | (refine WL.step (ok_idxAddrA Try.underlying49 (fun w => Try.sizeOf5 w) rfl rfl rfl (by omega) (by first | rfl | assumption)) rfl rfl rfl ?_))
  all_goals (first | (refine Br.keep ?_) | (refine WL.step (ok_load (fun w => Try.isAgg5 w) rfl (by first | assumption | exact cell_blk (by assumption) rfl)) rfl rfl rfl ?_))
  all_goals (first | (refine Br.keep ?_) | (refine WL.step (ok_assign rfl) rfl rfl rfl ?_))
  all_goals (first | (refine Br.keep ?_) | (refine WL.nil ?_))
  all_goals (first | (refine Br.keep ?_) | (repeat' (with_reducible first | refine thenP_n ?_ | refine blockP_n ?_)))
  all_goals (first | (refine Br.keep ?_) | (refine WC.seq ?_))
  all_goals (first | (refine Br.keep ?_) | (refine WC.region ?_))
  all_goals (first | (refine Br.keep ?_) | (refine WL.step (ok_move rfl) rfl rfl rfl ?_))
  all_goals (first | (refine Br.keep ?_) | (refine WL.step (ok_lenL rfl Try.underlying22 rfl) rfl rfl rfl ?_))
  all_goals (first | (refine Br.keep ?_) | (refine WL.step (ok_move rfl) rfl rfl rfl ?_))
  all_goals (first | (refine Br.keep ?_) | (first | (refine WL.step (OkP.bool_t (by omega) (ok_lss rfl rfl)) rfl rfl rfl ?_) | (refine WL.step (OkP.bool_f (by omega) (ok_lss rfl rfl)) rfl rfl rfl ?_) | (refine WL.step (ok_lss rfl rfl) rfl rfl rfl ?_)))
  all_goals (first | (refine Br.keep ?_) | (refine WL.step (ok_move rfl) rfl rfl rfl ?_))
  all_goals (first | (refine Br.keep ?_) | (try ((fail_if_success (refine WL.part 41 (b := true) rfl (fun _ => ?_) (fun _ => ?_))); (fail_if_success (refine WL.part 41 (b := false) rfl (fun _ => ?_) (fun _ => ?_))); (refine WL.part 41 rfl (fun hb => ?_) (fun hb => ?_) <;> (first | replace hb := of_decide_eq_true hb | replace hb := of_decide_eq_false hb | replace hb := of_decide_eq_false (nt hb) | replace hb := of_decide_eq_true (nf hb) | skip)))))
  all_goals (first | (refine Br.keep ?_) | (first | (refine WL.pass rfl rfl rfl ?_) | (refine WL.step (ok_move rfl) rfl rfl rfl ?_)))
  all_goals (first | (refine Br.keep ?_) | (first | (refine WL.pass rfl rfl rfl ?_) | (refine WL.step (ok_move rfl) rfl rfl rfl ?_)))
  all_goals (first | (refine Br.keep ?_) | (first | (refine WL.pass rfl rfl rfl ?_) | (first | (refine WL.step (ok_convI Try.underlying5 Try.underlying3 rfl (by omega)) rfl rfl rfl ?_) | (refine WL.step (ok_conv Try.underlying5 Try.underlying3 rfl) rfl rfl rfl ?_))))
  all_goals (first | (refine Br.keep ?_) | (first | (refine WL.pass rfl rfl rfl ?_) | (first | (refine WL.step (ok_addI rfl rfl (by omega)) rfl rfl rfl ?_) | (refine WL.step (ok_add rfl rfl) rfl rfl rfl ?_))))
  all_goals (first
               | (refine Br.keep ?_)
               | (first
                    | (refine WL.pass rfl rfl rfl ?_)
                    | (refine WL.call (vs := [_, _]) rfl (fun a w => Try.call35 a w) rfl (contains_int S _ ho1.rd (by unfold maxLen; omega)) rfl rfl rfl ?_
                       rintro _ hz ⟨rfl, _⟩
                       subst hz)))
  all_goals (first
               | (refine Br.keep ?_)
               | (by_cases hin : (1 + (y.toNat : Int)) ∈ S
                  all_goals first | rw [decide_eq_true hin] | rw [decide_eq_false hin] | skip))
  all_goals (first | (refine Br.keep ?_) | (first | (refine WL.pass rfl rfl rfl ?_) | (refine WL.step (ok_not rfl) rfl rfl rfl ?_)))
  all_goals (first | (refine Br.keep ?_) | (first | (refine WL.step (ok_pick_t rfl rfl) rfl rfl rfl ?_) | (refine WL.step (ok_pick_f rfl rfl) rfl rfl rfl ?_)))
  all_goals (first | (refine Br.keep ?_) | (refine WL.nil ?_))
  all_goals (first | (refine Br.keep ?_) | (repeat' (with_reducible first | refine thenP_n ?_ | refine blockP_n ?_)))
  all_goals (first | (refine Br.keep ?_) | (refine WC.sub [(2, _), (3, _), (9, _), (10, _), (12, _), (31, _), (32, _), (33, _), (48, _)] ⟨rfl, rfl, rfl, rfl, rfl, rfl, rfl, rfl, rfl, trivial⟩ ?_))
  all_goals (first | (refine Br.keep ?_) | (first | refine WC.condB_t 5 rfl ?_ | refine WC.condB_f 6 rfl ?_ | (refine WC.condB 5 6 rfl (fun hb => ?_) (fun hb => ?_) <;> (first | replace hb := of_decide_eq_true hb | replace hb := of_decide_eq_false hb | replace hb := of_decide_eq_false (nt hb) | replace hb := of_decide_eq_true (nf hb) | skip))))
  all_goals (first
    | (fail_if_success (refine Br.mk (i := 5) ?_))
    | (refine Br.mk (i := 5) ?_
       all_goals (refine WC.region ?_)
       all_goals (refine WL.step (ok_move rfl) rfl rfl rfl ?_)
       all_goals (refine WL.step (ok_move rfl) rfl rfl rfl ?_)
       all_goals (first | (refine WL.step (ok_convI Try.underlying5 Try.underlying3 rfl (by omega)) rfl rfl rfl ?_) | (refine WL.step (ok_conv Try.underlying5 Try.underlying3 rfl) rfl rfl rfl ?_))
       all_goals (first | (refine WL.step (ok_addI rfl rfl (by omega)) rfl rfl rfl ?_) | (refine WL.step (ok_add rfl rfl) rfl rfl rfl ?_))
       all_goals (refine WL.stepR (okE_buildSlice (vs := [_]) (cs := [_]) (fun | [a0] => [a0] | _ => []) Try.underlying22 rfl rfl (by kernel_rfl)) rfl rfl rfl ?_
                  rintro _ h2 ⟨b2, rfl, hg2, hb2, hx2⟩)
       all_goals (refine WL.stepR (ok_append (sz := 1) (bytes := 8) rfl Try.underlying22 (show Try.prog.info? 3 = some Try.t3 by kernel_rfl) rfl rfl rfl rfl (by decide) rfl rfl (ho1.ext hx2 (fun _ _ => nos)) (rd_blk hb2 rfl) (by simp [Value.oneCell']) (by simp only [maxLen]; omega) (by omega)) rfl rfl rfl ?_
                  rintro v3 h3 ⟨ho3, hx3, hl3⟩)
       all_goals (refine WL.step (ok_assign rfl) rfl rfl rfl ?_)
       all_goals (refine WL.nil ?_)
       skip))
  all_goals (first
    | (fail_if_success (refine Br.mk (i := 6) ?_))
    | (refine Br.mk (i := 6) ?_
       all_goals (refine WC.skip ?_)
       skip))
  all_goals (first | (refine Br.keep ?_) | (repeat' (with_reducible first | refine thenP_n ?_ | refine blockP_n ?_)))
  all_goals (first | (refine Br.keep ?_) | (refine WC.region ?_))
  all_goals (first | (refine Br.keep ?_) | (first | (refine WL.step (ok_addI rfl rfl (by omega)) rfl rfl rfl ?_) | (refine WL.step (ok_add rfl rfl) rfl rfl rfl ?_)))
  all_goals (first | (refine Br.keep ?_) | (refine WL.step (ok_move rfl) rfl rfl rfl ?_))
  all_goals (first | (refine Br.keep ?_) | (refine WL.nil ?_))
  all_goals (first | (refine Br.keep ?_) | (repeat' (with_reducible first | refine thenP_n ?_ | refine blockP_n ?_)))
  all_goals (first
               | (refine Br.keep ?_)
               | (exact ⟨(k + 1, _), ⟨rfl, rfl, rfl, rfl, rfl, rfl, rfl, trivial⟩, (by first
                   | exact ⟨by simp; omega, S ++ [1 + (y.toNat : Int)], by simpa using ho3, List.nodup_append.2 ⟨hn1, by simp, fun a ha b hb e => by simp at hb; subst hb; subst e; exact hin ha⟩, by simp; omega, (hx1.trans hx2).trans' hx3 (fun q hq e => by have := hf1 q e; omega), fresh_of hl3 hf1 (hx1.trans hx2).size⟩
                   | exact ⟨by simp; omega, S, ho1, hn1, hl1, hx1, hf1⟩), (by simp; omega)⟩))
  all_goals (try (refine Br.mk (i := 1000) ?_))
  all_goals (repeat' (with_reducible first | refine thenP_n ?_ | refine blockP_n ?_))
  all_goals (refine WC.sub [(2, _), (3, _), (9, _), (10, _)] ⟨rfl, rfl, rfl, rfl, trivial⟩ ?_)
  all_goals (refine WC.seq ?_)
  all_goals (refine WC.region ?_)
  all_goals (refine WL.step (ok_move rfl) rfl rfl rfl ?_)
  all_goals (refine WL.step (ok_move rfl) rfl rfl rfl ?_)
  all_goals (refine WL.step (ok_move rfl) rfl rfl rfl ?_)
  all_goals (first | (refine WL.step (ok_convI Try.underlying5 Try.underlying3 rfl (by omega)) rfl rfl rfl ?_) | (refine WL.step (ok_conv Try.underlying5 Try.underlying3 rfl) rfl rfl rfl ?_))
  all_goals (first | (refine WL.step (ok_addI rfl rfl (by omega)) rfl rfl rfl ?_) | (refine WL.step (ok_add rfl rfl) rfl rfl rfl ?_))
  all_goals (rw [hid])
  all_goals (refine WL.step (ok_move rfl) rfl rfl rfl ?_)
  all_goals (refine WL.step (ok_buildF (vs := [_]) (cs := [_, _]) (fun | [a0] => [a0, (.slice none 0 0)] | _ => []) rfl rfl (by kernel_rfl)) rfl rfl rfl ?_)
  all_goals (refine WL.call (vs := [_, _, _, _]) rfl (fun a w => Try.call12 a w) rfl (ready_any S most id t [] ho1.rd (by omega) (Rd.nil _ _) (by simp)) rfl rfl rfl ?_
             rintro _ h2 ⟨vF, vE, L, M, rfl, hF, hE, pF, pE, hx2⟩)
  all_goals (have hX2 := hx1.trans hx2
             obtain ⟨AF, cF, rfl, _⟩ := _root_.id hF.1
             obtain ⟨AE, cE, rfl, _⟩ := _root_.id hE.1
             have hEk := readyE_ok S most id
             have hFk := readyF_ok S most id t
             have hMl : M.length ≤ 2 := by have := congrArg List.length pE; simp at this; omega
             have hLM : L.length = M.length := by have := congrArg List.length pE; have := congrArg List.length pF; simp at *; omega
             have hMk : ∀ e ∈ M, e.hide = true ∧ e.ops.length ≤ 1 := fun e he => hEk.2 e.pl (by rw [← pE]; exact List.mem_map_of_mem he)
             have hLk : ∀ f ∈ L, MsgOk t f := fun f hf => msg_ok (hF.2.2 f hf) (hFk.2 f.pl (by rw [← pF]; exact List.mem_map_of_mem hf))
             have hR := ready_R (id := id) hn1 hl1 (by omega)
             rw [← opsE_of pE] at hR)
  all_goals (refine WL.step (ok_move rfl) rfl rfl rfl ?_)
  all_goals (refine WL.step (ok_extract rfl rfl) rfl rfl rfl ?_)
  all_goals (refine WL.step (ok_extract rfl rfl) rfl rfl rfl ?_)
  all_goals (refine WL.step (ok_assign rfl) rfl rfl rfl ?_)
  all_goals (refine WL.step (ok_assign rfl) rfl rfl rfl ?_)
  all_goals (refine WL.nil ?_)
  all_goals (repeat' (with_reducible first | refine thenP_n ?_ | refine blockP_n ?_))
  all_goals (refine WC.sub [(2, _), (3, _), (9, _), (10, _), (13, _), (14, _)] ⟨rfl, rfl, rfl, rfl, rfl, rfl, trivial⟩ ?_)
  all_goals (refine WC.seq ?_)
  all_goals (refine WC.seq ?_)
  all_goals (refine WC.region ?_)
  all_goals (refine WL.step (ok_move rfl) rfl rfl rfl ?_)
  all_goals (refine WL.step (ok_lenL rfl Try.underlying26 rfl) rfl rfl rfl ?_)
  all_goals (first | (refine WL.step (OkP.bool_t (by omega) (ok_gtr rfl rfl)) rfl rfl rfl ?_) | (refine WL.step (OkP.bool_f (by omega) (ok_gtr rfl rfl)) rfl rfl rfl ?_) | (refine WL.step (ok_gtr rfl rfl) rfl rfl rfl ?_))
  all_goals (refine WL.step (ok_move rfl) rfl rfl rfl ?_)
  all_goals (try ((fail_if_success (refine WL.part 70 (b := true) rfl (fun _ => ?_) (fun _ => ?_))); (fail_if_success (refine WL.part 70 (b := false) rfl (fun _ => ?_) (fun _ => ?_))); (refine WL.part 70 rfl (fun hb => ?_) (fun hb => ?_) <;> (first | replace hb := of_decide_eq_true hb | replace hb := of_decide_eq_false hb | replace hb := of_decide_eq_false (nt hb) | replace hb := of_decide_eq_true (nf hb) | skip))))
  all_goals (first | (refine WL.pass rfl rfl rfl ?_) | (refine WL.step (ok_move rfl) rfl rfl rfl ?_))
  all_goals (first | (refine WL.pass rfl rfl rfl ?_) | (refine WL.step (ok_lenL rfl Try.underlying26 rfl) rfl rfl rfl ?_))
  all_goals (first | (refine WL.pass rfl rfl rfl ?_) | (refine WL.step (ok_move rfl) rfl rfl rfl ?_))
  all_goals (first | (refine WL.pass rfl rfl rfl ?_) | (refine WL.step (ok_lenL rfl Try.underlying27 rfl) rfl rfl rfl ?_))
  all_goals (first | (refine WL.pass rfl rfl rfl ?_) | (first | (refine WL.step (OkP.nbool_t (by omega) (ok_neq rfl rfl)) rfl rfl rfl ?_) | (refine WL.step (OkP.nbool_f (by omega) (ok_neq rfl rfl)) rfl rfl rfl ?_) | (refine WL.step (ok_neq rfl rfl) rfl rfl rfl ?_)))
  all_goals (first | (refine WL.step (ok_pick_t rfl rfl) rfl rfl rfl ?_) | (refine WL.step (ok_pick_f rfl rfl) rfl rfl rfl ?_))
  all_goals (refine WL.nil ?_)
  all_goals (repeat' (with_reducible first | refine thenP_n ?_ | refine blockP_n ?_))
  all_goals (refine WC.sub [(2, _), (3, _), (9, _), (10, _), (13, _), (14, _), (76, _)] ⟨rfl, rfl, rfl, rfl, rfl, rfl, rfl, trivial⟩ ?_)
  all_goals (first | refine WC.condB_t 7 rfl ?_ | refine WC.condB_f 8 rfl ?_ | (refine WC.condB 7 8 rfl (fun hb => ?_) (fun hb => ?_) <;> (first | replace hb := of_decide_eq_true hb | replace hb := of_decide_eq_false hb | replace hb := of_decide_eq_false (nt hb) | replace hb := of_decide_eq_true (nf hb) | skip)))
  all_goals (first
    | (fail_if_success (refine Br.mk (i := 7) ?_))
    | (refine Br.mk (i := 7) ?_
       all_goals (refine WC.seq ?_)
       all_goals (refine WC.region ?_)
       all_goals (refine WL.step (ok_assign rfl) rfl rfl rfl ?_)
       all_goals (refine WL.nil ?_)
       all_goals (repeat' (with_reducible first | refine thenP_n ?_ | refine blockP_n ?_))
       all_goals (refine WC.sub [(8, _)] ⟨rfl, trivial⟩ ?_)
       all_goals (refine WC.ret ?_)
       all_goals (repeat' (with_reducible first | refine thenP_r ?_ | refine blockP_r ?_))
       all_goals (refine retP_1 _ ⟨rfl, trivial⟩ ?_)
       all_goals (first | exact ⟨rfl, ((((hX2.trans hx3).trans hx9).trans hx10).trans hx11)⟩ | exact ⟨rfl, hx9⟩)
       skip))
  all_goals (first
    | (fail_if_success (refine Br.mk (i := 8) ?_))
    | (refine Br.mk (i := 8) ?_
       all_goals (refine WC.skip ?_)
       skip))
  all_goals (repeat' (with_reducible first | refine thenP_n ?_ | refine blockP_n ?_))
  all_goals (refine WC.seq ?_)
  all_goals (refine WC.region ?_)
  all_goals (refine WL.step (ok_move rfl) rfl rfl rfl ?_)
  all_goals (refine WL.step (ok_assign rfl) rfl rfl rfl ?_)
  all_goals (refine WL.nil ?_)
  all_goals (repeat' (with_reducible first | refine thenP_n ?_ | refine blockP_n ?_))
  all_goals (refine WC.seq ?_)
  all_goals (refine WC.seq ?_)
  all_goals (refine WC.region ?_)
  all_goals (refine WL.step (ok_move rfl) rfl rfl rfl ?_)
  all_goals (refine WL.step (ok_lenL rfl Try.underlying27 rfl) rfl rfl rfl ?_)
  all_goals (refine WL.step (ok_move rfl) rfl rfl rfl ?_)
  all_goals (refine WL.nil ?_)
  all_goals (repeat' (with_reducible first | refine thenP_n ?_ | refine blockP_n ?_))
  all_goals (refine WC.block ?_)
  -- loop 1: slots that turn [15, 80], that stay [2, 3, 9, 10, 13, 14, 78, 79]
  all_goals (refine WC.loopG (X := Nat × Value) (fun x => ([(80, In (x.1 : Int)), (15, x.2)] : Fr)) [(2, _), (3, _), (9, _), (10, _), (13, _), (14, _), (78, _), (79, _)] (fun x h' => x.1 ≤ M.length ∧ Rd h' x.2 1 (foldL S ((M.take x.1).flatMap En.ops)).length (ints (foldL S ((M.take x.1).flatMap En.ops))) ∧ Ext No h2 h') (fun x => M.length - x.1) ((0, .slice A1 S.length c1)) ⟨rfl, rfl, rfl, rfl, rfl, rfl, rfl, rfl, rfl, rfl, trivial⟩ (by exact ⟨Nat.zero_le _, ho1.rd.ext0 hx2, .refl _ _⟩) ?_)
  all_goals (rintro ⟨k, v3⟩ h3 ⟨hk3, hr3, hx3⟩
             simp only at hk3 hr3)
  all_goals (refine WC.sub [(15, _), (80, _), (2, _), (3, _), (9, _), (10, _), (13, _), (14, _), (78, _), (79, _)] ⟨rfl, rfl, rfl, rfl, rfl, rfl, rfl, rfl, rfl, rfl, trivial⟩ ?_)
  all_goals (dsimp only)
  all_goals (refine WC.seq ?_)
  all_goals (refine WC.region ?_)
  all_goals (first | (refine WL.step (OkP.bool_t (by omega) (ok_lss rfl rfl)) rfl rfl rfl ?_) | (refine WL.step (OkP.bool_f (by omega) (ok_lss rfl rfl)) rfl rfl rfl ?_) | (refine WL.step (ok_lss rfl rfl) rfl rfl rfl ?_))
  all_goals (refine WL.nil ?_)
  all_goals (repeat' (with_reducible first | refine thenP_n ?_ | refine blockP_n ?_))
  all_goals (refine WC.seq ?_)
  all_goals (first | refine WC.condB_t 9 rfl ?_ | refine WC.condB_f 10 rfl ?_ | (refine WC.condB 9 10 rfl (fun hb => ?_) (fun hb => ?_) <;> (first | replace hb := of_decide_eq_true hb | replace hb := of_decide_eq_false hb | replace hb := of_decide_eq_false (nt hb) | replace hb := of_decide_eq_true (nf hb) | skip)))
  all_goals (first
    | (fail_if_success (refine Br.mk (i := 9) ?_))
    | (refine Br.mk (i := 9) ?_
       all_goals (refine WC.skip ?_)
       skip))
  all_goals (first
    | (fail_if_success (refine Br.mk (i := 10) ?_))
    | (refine Br.mk (i := 10) ?_
       all_goals (refine WC.exit ?_)
       all_goals (repeat' (with_reducible first | refine thenP_x ?_ | refine blockP_miss rfl ?_ | refine blockP_hit ?_ | refine blockP_n ?_ | refine thenP_n ?_))
       all_goals (refine Br.out (i := 1002) ?_)
       skip))
  all_goals (first | (refine Br.keep ?_) | (repeat' (with_reducible first | refine thenP_n ?_ | refine blockP_n ?_)))
  all_goals (first | (refine Br.keep ?_) | (refine WC.seq ?_))
  all_goals (first | (refine Br.keep ?_) | (refine WC.block ?_))
  all_goals (first | (refine Br.keep ?_) | (refine WC.seq ?_))
  all_goals (first | (refine Br.keep ?_) | (refine WC.region ?_))
  all_goals (first
               | (refine Br.keep ?_)
               | (obtain ⟨bM, oM, hAM, hbM, hatM⟩ := Rd.at_ (hE.1.ext0 hx3) (by omega)
                  obtain ⟨bF, oF, hAF, hbF, hatF⟩ := Rd.at_ (hF.1.ext0 hx3) (by omega)
                  obtain ⟨y, hy⟩ : ∃ y, M[k]? = some y := ⟨_, List.getElem?_eq_getElem (by omega)⟩
                  obtain ⟨f, hf⟩ : ∃ y, L[k]? = some y := ⟨_, List.getElem?_eq_getElem (by omega)⟩
                  have hc : At h3 bM (oM + k * 8) y.cells := At.elem En.len hatM hy
                  have hcf : At h3 bF (oF + k * 10) f.cells := At.elem Fm.len hatF hf
                  have hyk := hE.2.2 y (List.mem_of_getElem? hy)
                  obtain ⟨hyh, hyo⟩ := hMk y (List.mem_of_getElem? hy)
                  obtain ⟨fk, fw, fn, ft, fA, fB, fC, fD, fa, fb, fc, fd, h3k, efc, hfn, hft⟩ := hLk f (List.mem_of_getElem? hf)
                  rw [efc] at hcf))
  all_goals (first | (refine Br.keep ?_) | (refine WL.step (ok_move rfl) rfl rfl rfl ?_))
  all_goals (first | (refine Br.keep ?_) | (refine WL.step (ok_idxAddrA Try.underlying27 (fun w => Try.sizeOf51 w) rfl rfl rfl (by omega) (by first | rfl | assumption)) rfl rfl rfl ?_))
  all_goals (first | (refine Br.keep ?_) | (refine WL.step (ok_loadN (fun w => Try.isAgg51 w) (fun w => Try.sizeOf51 w) rfl rfl (by assumption)) rfl rfl rfl ?_))
  all_goals (first
               | (refine Br.keep ?_)
               | (refine WL.stepR (okE_alloc (fun w => Try.zeroValue51 w)) rfl rfl rfl ?_
                  rintro _ h4 ⟨b4, rfl, hg4, hb4, hx4⟩))
  all_goals (first | (refine Br.keep ?_) | (refine WL.step (ok_assign rfl) rfl rfl rfl ?_))
  all_goals (first
               | (refine Br.keep ?_)
               | (refine WL.stepR0 (okE_storeW (fun w => Try.sizeOf51 w) rfl rfl rfl (by assumption) rfl (hyk.ext0 hx3).one) rfl rfl ?_
                  rintro _ h5 ⟨hb5, hx5⟩))
  all_goals (first
               | (refine Br.keep ?_)
               | (have hx35 : Ext No h3 h5 := hx4.trans' hx5 (fun q hq e => by omega)
                  have hcf5 := hcf.ext hx35 nos
                  have hyh5 : y.cells[1]? = some (.bool true) := by rw [← hyh]; rfl))
  all_goals (first | (refine Br.keep ?_) | (refine WL.nil ?_))
  all_goals (first | (refine Br.keep ?_) | (repeat' (with_reducible first | refine thenP_n ?_ | refine blockP_n ?_)))
  all_goals (first | (refine Br.keep ?_) | (refine WC.sub [(2, _), (3, _), (9, _), (10, _), (13, _), (14, _), (15, _), (16, _), (17, _), (78, _), (79, _), (80, _)] ⟨rfl, rfl, rfl, rfl, rfl, rfl, rfl, rfl, rfl, rfl, rfl, rfl, trivial⟩ ?_))
  all_goals (first | (refine Br.keep ?_) | (refine WC.seq ?_))
  all_goals (first | (refine Br.keep ?_) | (refine WC.seq ?_))
  all_goals (first | (refine Br.keep ?_) | (refine WC.region ?_))
  all_goals (first | (refine Br.keep ?_) | (refine WL.step (ok_fieldAddr rfl Try.underlying51 rfl (fun w => Try.sizeOf4 w)) rfl rfl rfl ?_))
  all_goals (first | (refine Br.keep ?_) | (refine WL.step (ok_load (fun w => Try.isAgg4 w) rfl (by first | exact cell_blk hb5 hyh5 | assumption | exact cell_blk (by assumption) rfl)) rfl rfl rfl ?_))
  all_goals (first | (refine Br.keep ?_) | (refine WL.step (ok_not rfl) rfl rfl rfl ?_))
  all_goals (first | (refine Br.keep ?_) | (refine WL.step (ok_move rfl) rfl rfl rfl ?_))
  all_goals (first | (refine Br.keep ?_) | (try ((fail_if_success (refine WL.part 88 (b := true) rfl (fun _ => ?_) (fun _ => ?_))); (fail_if_success (refine WL.part 88 (b := false) rfl (fun _ => ?_) (fun _ => ?_))); (refine WL.part 88 rfl (fun hb => ?_) (fun hb => ?_) <;> (first | replace hb := of_decide_eq_true hb | replace hb := of_decide_eq_false hb | replace hb := of_decide_eq_false (nt hb) | replace hb := of_decide_eq_true (nf hb) | skip)))))
  all_goals (first | (refine Br.keep ?_) | (first | (refine WL.pass rfl rfl rfl ?_) | (refine WL.step (ok_move rfl) rfl rfl rfl ?_)))
  all_goals (first | (refine Br.keep ?_) | (first | (refine WL.pass rfl rfl rfl ?_) | (refine WL.step (ok_move rfl) rfl rfl rfl ?_)))
  all_goals (first | (refine Br.keep ?_) | (first | (refine WL.pass rfl rfl rfl ?_) | (refine WL.step (ok_idxAddrA Try.underlying26 (fun w => Try.sizeOf34 w) rfl rfl rfl (by omega) (by first | rfl | assumption)) rfl rfl rfl ?_)))
  all_goals (first | (refine Br.keep ?_) | (first | (refine WL.pass rfl rfl rfl ?_) | (refine WL.step (ok_loadN (fun w => Try.isAgg34 w) (fun w => Try.sizeOf34 w) rfl rfl (by exact hcf5)) rfl rfl rfl ?_)))
  all_goals (first
               | (refine Br.keep ?_)
               | (first
                    | (refine WL.pass rfl rfl rfl ?_)
                    | (refine WL.call (vs := [_]) rfl (fun a w => Try.call36 a w) rfl (check3 h3k fA fB fC fD fa fb fc fd) rfl rfl rfl ?_
                       rintro _ h6 ⟨rfl, hx6⟩)))
  all_goals (first
               | (refine Br.keep ?_)
               | (rw [hfn, Bool.true_and]
                  cases hct : cleanB ft))
  all_goals (first | (refine Br.keep ?_) | (first | (refine WL.pass rfl rfl rfl ?_) | (first | (refine WL.step (OkP.nbool_t (by omega) (ok_neq rfl rfl)) rfl rfl rfl ?_) | (refine WL.step (OkP.nbool_f (by omega) (ok_neq rfl rfl)) rfl rfl rfl ?_) | (refine WL.step (ok_neq rfl rfl) rfl rfl rfl ?_))))
  all_goals (first | (refine Br.keep ?_) | (first | (refine WL.pass rfl rfl rfl ?_) | (refine WL.step (ok_move rfl) rfl rfl rfl ?_)))
  all_goals (first | (refine Br.keep ?_) | (try ((fail_if_success (refine WL.part 95 (b := true) rfl (fun _ => ?_) (fun _ => ?_))); (fail_if_success (refine WL.part 95 (b := false) rfl (fun _ => ?_) (fun _ => ?_))); (refine WL.part 95 rfl (fun hb => ?_) (fun hb => ?_) <;> (first | replace hb := of_decide_eq_true hb | replace hb := of_decide_eq_false hb | replace hb := of_decide_eq_false (nt hb) | replace hb := of_decide_eq_true (nf hb) | skip)))))
  all_goals (first | (refine Br.keep ?_) | (first | (refine WL.pass rfl rfl rfl ?_) | (refine WL.step (ok_move rfl) rfl rfl rfl ?_)))
  all_goals (first | (refine Br.keep ?_) | (first | (refine WL.pass rfl rfl rfl ?_) | (refine WL.step (ok_buildF (vs := [_, _]) (cs := [_, _, _, _, _, _, _, _, _, _]) (fun | [a0, a4] => [a0, (.int .u8 0), (St []), (St []), a4, (.slice none 0 0), (.slice none 0 0), (.slice none 0 0), (.slice none 0 0), (.int .i64 0)] | _ => []) rfl rfl (by kernel_rfl)) rfl rfl rfl ?_)))
  all_goals (first
               | (refine Br.keep ?_)
               | (first
                    | (refine WL.pass rfl rfl rfl ?_)
                    | (refine WL.call (vs := [_]) rfl (fun a w => Try.call36 a w) rfl (check3 (k := 81) (w := 0) (n := []) (t := t) (.inr (.inr ⟨rfl, rfl, rfl⟩)) none none none none 0 0 0 0) rfl rfl rfl ?_
                       rintro _ h7 ⟨rfl, hx7⟩)))
  all_goals (first | (refine Br.keep ?_) | (first | rw [show (cleanB [] && cleanB t) = false by cases hcc : cleanB t; rfl; rw [hft hcc] at hct; cases hct] | skip))
  all_goals (first | (refine Br.keep ?_) | (first | (refine WL.pass rfl rfl rfl ?_) | (first | (refine WL.step (OkP.bool_t (by omega) (ok_eql rfl rfl)) rfl rfl rfl ?_) | (refine WL.step (OkP.bool_f (by omega) (ok_eql rfl rfl)) rfl rfl rfl ?_) | (refine WL.step (ok_eql rfl rfl) rfl rfl rfl ?_))))
  all_goals (first | (refine Br.keep ?_) | (first | (refine WL.pass rfl rfl rfl ?_) | (first | (refine WL.step (ok_pick_t rfl rfl) rfl rfl rfl ?_) | (refine WL.step (ok_pick_f rfl rfl) rfl rfl rfl ?_))))
  all_goals (first | (refine Br.keep ?_) | (first | (refine WL.step (ok_pick_t rfl rfl) rfl rfl rfl ?_) | (refine WL.step (ok_pick_f rfl rfl) rfl rfl rfl ?_)))
  all_goals (first | (refine Br.keep ?_) | (refine WL.nil ?_))
  all_goals (first | (refine Br.keep ?_) | (repeat' (with_reducible first | refine thenP_n ?_ | refine blockP_n ?_)))
  all_goals (first | (refine Br.keep ?_) | (refine WC.sub [(2, _), (3, _), (9, _), (10, _), (13, _), (14, _), (15, _), (17, _), (78, _), (79, _), (80, _), (101, _)] ⟨rfl, rfl, rfl, rfl, rfl, rfl, rfl, rfl, rfl, rfl, rfl, rfl, trivial⟩ ?_))
  all_goals (first | (refine Br.keep ?_) | (first | refine WC.condB_t 11 rfl ?_ | refine WC.condB_f 12 rfl ?_ | (refine WC.condB 11 12 rfl (fun hb => ?_) (fun hb => ?_) <;> (first | replace hb := of_decide_eq_true hb | replace hb := of_decide_eq_false hb | replace hb := of_decide_eq_false (nt hb) | replace hb := of_decide_eq_true (nf hb) | skip))))
  all_goals (first
    | (fail_if_success (refine Br.mk (i := 11) ?_))
    | (refine Br.mk (i := 11) ?_
       all_goals (refine WC.seq ?_)
       all_goals (refine WC.region ?_)
       all_goals (refine WL.step (ok_assign rfl) rfl rfl rfl ?_)
       all_goals (refine WL.nil ?_)
       all_goals (repeat' (with_reducible first | refine thenP_n ?_ | refine blockP_n ?_))
       all_goals (refine WC.sub [(8, _)] ⟨rfl, trivial⟩ ?_)
       all_goals (refine WC.ret ?_)
       all_goals (repeat' (with_reducible first | refine thenP_r ?_ | refine blockP_r ?_))
       all_goals (refine retP_1 _ ⟨rfl, trivial⟩ ?_)
       all_goals (first | exact ⟨rfl, ((((hX2.trans hx3).trans hx9).trans hx10).trans hx11)⟩ | exact ⟨rfl, hx9⟩)
       skip))
  all_goals (first
    | (fail_if_success (refine Br.mk (i := 12) ?_))
    | (refine Br.mk (i := 12) ?_
       all_goals (refine WC.skip ?_)
       skip))
  all_goals (first | (refine Br.keep ?_) | (repeat' (with_reducible first | refine thenP_n ?_ | refine blockP_n ?_)))
  all_goals (first | (refine Br.keep ?_) | (refine WC.region ?_))
  all_goals (first | (refine Br.keep ?_) | (refine WL.step (ok_move rfl) rfl rfl rfl ?_))
  all_goals (first | (refine Br.keep ?_) | (refine WL.step (ok_fieldAddr rfl Try.underlying51 rfl (fun w => Try.sizeOf40 w)) rfl rfl rfl ?_))
  all_goals (first | (refine Br.keep ?_) | (refine WL.step (ok_load (fun w => Try.isAgg40 w) rfl (by first | exact (by first | exact cell_blk (hx6.obj hb5 nos) (show y.cells[6]? = some y.vc from rfl) | exact cell_blk (hx7.obj (hx6.obj hb5 nos) nos) (show y.cells[6]? = some y.vc from rfl)) | assumption | exact cell_blk (by assumption) rfl)) rfl rfl rfl ?_))
  all_goals (first
               | (refine Br.keep ?_)
               | (have hfl := fold_len ((M.take k).flatMap En.ops) S
                  have hol := ops_len (fun e he => (hMk e he).2) k))
  all_goals (first
               | (refine Br.keep ?_)
               | (refine WL.call (vs := [_, _]) rfl (fun a w => Try.call31 a w) rfl (fold_any (foldL S ((M.take k).flatMap En.ops)) y.ops (hr3.ext0 (by first | exact hx35.trans hx6 | exact (hx35.trans hx6).trans hx7)) (hyk.ops.ext0 (by first | exact hx3.trans (hx35.trans hx6) | exact hx3.trans ((hx35.trans hx6).trans hx7))) (by omega)) rfl rfl rfl ?_
                  rintro v8 h8 ⟨ho8, hx8, hf8⟩))
  all_goals (first | (refine Br.keep ?_) | (refine WL.step (ok_assign rfl) rfl rfl rfl ?_))
  all_goals (first | (refine Br.keep ?_) | (refine WL.nil ?_))
  all_goals (first | (refine Br.keep ?_) | (repeat' (with_reducible first | refine thenP_n ?_ | refine blockP_n ?_)))
  all_goals (first | (refine Br.keep ?_) | (refine WC.sub [(2, _), (3, _), (9, _), (10, _), (13, _), (14, _), (15, _), (78, _), (79, _), (80, _)] ⟨rfl, rfl, rfl, rfl, rfl, rfl, rfl, rfl, rfl, rfl, trivial⟩ ?_))
  all_goals (first | (refine Br.keep ?_) | (refine WC.region ?_))
  all_goals (first | (refine Br.keep ?_) | (first | (refine WL.step (ok_addI rfl rfl (by omega)) rfl rfl rfl ?_) | (refine WL.step (ok_add rfl rfl) rfl rfl rfl ?_)))
  all_goals (first | (refine Br.keep ?_) | (refine WL.step (ok_move rfl) rfl rfl rfl ?_))
  all_goals (first | (refine Br.keep ?_) | (refine WL.nil ?_))
  all_goals (first | (refine Br.keep ?_) | (repeat' (with_reducible first | refine thenP_n ?_ | refine blockP_n ?_)))
  all_goals (first
               | (refine Br.keep ?_)
               | (exact ⟨(k + 1, _), ⟨rfl, rfl, rfl, rfl, rfl, rfl, rfl, rfl, rfl, rfl, trivial⟩, (by first
                   | exact ⟨by simp; omega, by rw [take_ops hy, fold_app]; exact ho8.rd, (hx3.trans (hx35.trans hx6)).trans hx8⟩
                   | exact ⟨by simp; omega, by rw [take_ops hy, fold_app]; exact ho8.rd, (hx3.trans ((hx35.trans hx6).trans hx7)).trans hx8⟩), (by simp; omega)⟩))
  all_goals (try (refine Br.mk (i := 1002) ?_))
  all_goals (repeat' (with_reducible first | refine thenP_n ?_ | refine blockP_n ?_))
  all_goals (refine WC.sub [(2, _), (9, _), (10, _), (14, _), (15, _)] ⟨rfl, rfl, rfl, rfl, rfl, trivial⟩ ?_)
  all_goals (refine WC.seq ?_)
  all_goals (refine WC.region ?_)
  all_goals (obtain rfl : k = M.length := by omega
             rw [List.take_length] at hr3
             obtain ⟨A3, c3, rfl, _⟩ := _root_.id hr3)
  all_goals (refine WL.step (ok_move rfl) rfl rfl rfl ?_)
  all_goals (refine WL.step (ok_move rfl) rfl rfl rfl ?_)
  all_goals (first | (refine WL.step (ok_convI Try.underlying5 Try.underlying3 rfl (by omega)) rfl rfl rfl ?_) | (refine WL.step (ok_conv Try.underlying5 Try.underlying3 rfl) rfl rfl rfl ?_))
  all_goals (first | (refine WL.step (ok_addI rfl rfl (by omega)) rfl rfl rfl ?_) | (refine WL.step (ok_add rfl rfl) rfl rfl rfl ?_))
  all_goals (rw [hid])
  all_goals (refine WL.call (vs := [_, _]) rfl (fun a w => Try.call35 a w) rfl ((contains_int _ id hr3 (by unfold maxLen; omega)).as (congrArg Value.bool (decide_eq_true hR.1))) rfl rfl rfl ?_
             rintro _ hz ⟨rfl, _⟩
             subst hz)
  all_goals (refine WL.step (ok_move rfl) rfl rfl rfl ?_)
  all_goals (try ((fail_if_success (refine WL.part 112 (b := true) rfl (fun _ => ?_) (fun _ => ?_))); (fail_if_success (refine WL.part 112 (b := false) rfl (fun _ => ?_) (fun _ => ?_))); (refine WL.part 112 rfl (fun hb => ?_) (fun hb => ?_) <;> (first | replace hb := of_decide_eq_true hb | replace hb := of_decide_eq_false hb | replace hb := of_decide_eq_false (nt hb) | replace hb := of_decide_eq_true (nf hb) | skip))))
  all_goals (first | (refine WL.pass rfl rfl rfl ?_) | (refine WL.step (ok_move rfl) rfl rfl rfl ?_))
  all_goals (first | (refine WL.pass rfl rfl rfl ?_) | (refine WL.step (ok_lenL rfl Try.underlying22 rfl) rfl rfl rfl ?_))
  all_goals (first | (refine WL.pass rfl rfl rfl ?_) | (refine WL.step (ok_move rfl) rfl rfl rfl ?_))
  all_goals (first | (refine WL.pass rfl rfl rfl ?_) | (first | (refine WL.step (OkP.bool_t (by omega) (ok_leq rfl rfl)) rfl rfl rfl ?_) | (refine WL.step (OkP.bool_f (by omega) (ok_leq rfl rfl)) rfl rfl rfl ?_) | (refine WL.step (ok_leq rfl rfl) rfl rfl rfl ?_)))
  all_goals (first | (refine WL.step (ok_pick_t rfl rfl) rfl rfl rfl ?_) | (refine WL.step (ok_pick_f rfl rfl) rfl rfl rfl ?_))
  all_goals (refine WL.step (ok_move rfl) rfl rfl rfl ?_)
  all_goals (try ((fail_if_success (refine WL.part 118 (b := true) rfl (fun _ => ?_) (fun _ => ?_))); (fail_if_success (refine WL.part 118 (b := false) rfl (fun _ => ?_) (fun _ => ?_))); (refine WL.part 118 rfl (fun hb => ?_) (fun hb => ?_) <;> (first | replace hb := of_decide_eq_true hb | replace hb := of_decide_eq_false hb | replace hb := of_decide_eq_false (nt hb) | replace hb := of_decide_eq_true (nf hb) | skip))))
  all_goals (first | (refine WL.pass rfl rfl rfl ?_) | (refine WL.step (ok_move rfl) rfl rfl rfl ?_))
  all_goals (first | (refine WL.pass rfl rfl rfl ?_) | (refine WL.step (ok_move rfl) rfl rfl rfl ?_))
  all_goals (first | (refine WL.pass rfl rfl rfl ?_) | (refine WL.step (ok_move rfl) rfl rfl rfl ?_))
  all_goals (first
               | (refine WL.pass rfl rfl rfl ?_)
               | (refine WL.call (vs := [_]) rfl (fun a w => Try.call37 a w) rfl (ops19 M (hE.ext0 hx3) (by omega) (fun e he => (hMk e he).2)) rfl rfl rfl ?_
                  rintro v9 h9 ⟨ho9, hx9⟩))
  all_goals (have hol := ops_len (fun e he => (hMk e he).2) M.length
             rw [List.take_length] at hol)
  all_goals (first
               | (refine WL.pass rfl rfl rfl ?_)
               | (refine WL.call (vs := [_, _]) rfl (fun a w => Try.call32 a w) rfl (fold18 S (M.flatMap En.ops) (ho1.rd.ext0 ((hx2.trans hx3).trans hx9)) ho9 (by omega)) rfl rfl rfl ?_
                  rintro v10 h10 ⟨ho10, hx10, hf10⟩))
  all_goals (obtain ⟨A10, c10, rfl, _⟩ := ho10.slice)
  all_goals (first
               | (refine WL.pass rfl rfl rfl ?_)
               | (refine WL.call (vs := [_, _]) rfl (fun a w => Try.call26 a w) rfl ((equal_int _ _ (hr3.ext0 (hx9.trans hx10)) ho10.rd (by unfold maxLen; omega)).as (congrArg Value.bool (decide_eq_true rfl))) rfl rfl rfl ?_
                  rintro _ hz ⟨rfl, _⟩
                  subst hz))
  all_goals (first | (refine WL.step (ok_pick_t rfl rfl) rfl rfl rfl ?_) | (refine WL.step (ok_pick_f rfl rfl) rfl rfl rfl ?_))
  all_goals (refine WL.step (ok_move rfl) rfl rfl rfl ?_)
  all_goals (try ((fail_if_success (refine WL.part 126 (b := true) rfl (fun _ => ?_) (fun _ => ?_))); (fail_if_success (refine WL.part 126 (b := false) rfl (fun _ => ?_) (fun _ => ?_))); (refine WL.part 126 rfl (fun hb => ?_) (fun hb => ?_) <;> (first | replace hb := of_decide_eq_true hb | replace hb := of_decide_eq_false hb | replace hb := of_decide_eq_false (nt hb) | replace hb := of_decide_eq_true (nf hb) | skip))))
  all_goals (first
               | (refine WL.pass rfl rfl rfl ?_)
               | (refine WL.call (vs := []) rfl (fun a w => Try.call9 a w) rfl (awake19) rfl rfl rfl ?_
                  rintro _ h11 ⟨rfl, hx11⟩))
  all_goals (first | (refine WL.step (ok_pick_t rfl rfl) rfl rfl rfl ?_) | (refine WL.step (ok_pick_f rfl rfl) rfl rfl rfl ?_))
  all_goals (refine WL.step (ok_assign rfl) rfl rfl rfl ?_)
  all_goals (refine WL.nil ?_)
  all_goals (repeat' (with_reducible first | refine thenP_n ?_ | refine blockP_n ?_))
  all_goals (refine WC.sub [(8, _)] ⟨rfl, trivial⟩ ?_)
  all_goals (refine WC.ret ?_)
  all_goals (repeat' (with_reducible first | refine thenP_r ?_ | refine blockP_r ?_))
  all_goals (refine retP_1 _ ⟨rfl, trivial⟩ ?_)
  all_goals (first | exact ⟨rfl, ((((hX2.trans hx3).trans hx9).trans hx10).trans hx11)⟩ | exact ⟨rfl, hx9⟩)

theorem opens_u8s (w : World) : Opens Try.prog w 49 (fun p : Value × List UInt8 => [p.1]) (fun p => Rd w.heap p.1 1 p.2.length (bys p.2) ∧ p.2.length ≤ reachBytes) := opens_bytes Try.underlying49 (by kernel_rfl) (by kernel_rfl) Try.underlying5
namespace LInjectReady
open Go.ChangeShapes Go.WideShapes Go.ChangeAt Go.RowKit
open Go.ChangeMaps (open_string shut_string)
theorem own : ownKnob Try.prog.godebug = none := by kernel_rfl
theorem laidOut : laidOutB Try.prog = true := by kernel_rfl
set_option maxRecDepth 100000 in
theorem lifted (os : Os) (started : os.Started) (H : Type) (enc : TypeId × Value → H) :
    ReturnsInHanded {} Try.checked os 7 .any (Rows.injectReadySpec.pre6 enc Try.prog Try.f7 Rows.injectReadyRow.domain false) (Rows.injectReadySpec.post enc Try.prog Try.f7 false true false false) := by
  refine returnsInHanded_of_change_sized (C := Try.checked) own started (by kernel_rfl) Try.func7
    (ChangeSpec.witness6 (enc := enc) (C := Try.checked) false ⟨#[], #[.slice none 0 0, .int .u8 0, .int .u8 0, .string ByteArray.empty], []⟩ 8 (by kernel_rfl) (by kernel_rfl) (by kernel_rfl) (by kernel_rfl)) ?_
  intro W base args ds gs before hval0 hW hcnd hsz0 _
  have hval : ∀ (j : Nat) t v, Try.f7.params[j]? = some t → args[j]? = some v → Value.okWide Try.prog W .any base t v := hval0
  have hsz := hsz0
  rw [Try.params7] at hsz
  clear hsz0
  have hW' := hW
  obtain ⟨p, q, hA0, hV, rfl, hfz, hnd⟩ := hW
  have hA : DataW.TrodAll enc Try.prog W 0 (fun _ => true) true Try.f7.params.toList args.toList ds p := hA0
  rw [Try.params7] at hA hval
  obtain ⟨v0, vs0, d0, ds0, p0, q0, hargs, rfl, rfl, h0, r0⟩ := trodAll_cons hA
  obtain ⟨v1, vs1, d1, ds1, p1, q1, rfl, rfl, rfl, h1, r1⟩ := trodAll_cons r0
  obtain ⟨v2, vs2, d2, ds2, p2, q2, rfl, rfl, rfl, h2, r2⟩ := trodAll_cons r1
  obtain ⟨v3, vs3, d3, ds3, p3, q3, rfl, rfl, rfl, h3, r3⟩ := trodAll_cons r2
  obtain ⟨rfl, rfl, rfl⟩ := trodAll_nil r3
  obtain rfl : args = #[v0, v1, v2, v3] := by cases args; simp_all
  obtain ⟨rfl, rfl⟩ := trodVars_none hV
  have hz0 : ∀ n ∈ d0.weights Try.prog 49, n ≤ reachBytes := fun n hn => by simpa using List.all_eq_true.1 hsz n (DataW.weights_mem_each (j := 0) rfl rfl n hn)
  have k0 := h0
  have lt0 : ∀ x ∈ p0, x.block < W.heap.size := by obtain ⟨m, hm⟩ := k0; exact DataW.trod_lt m _ _ _ hm
  obtain ⟨A0, n0, c0, rfl⟩ := okWide_slice Try.underlying49 (hval 0 49 v0 rfl rfl)
  obtain ⟨fu0, hf0⟩ := h0
  obtain ⟨⟨v0, l0⟩, e0, w0⟩ := opens_u8s W _ _ _ _ _ _ _ _ hf0 hz0
  obtain rfl : .slice A0 n0 c0 = v0 := by simpa [Value.cells] using e0
  have hz1 : ∀ n ∈ d1.weights Try.prog 5, n ≤ reachBytes := fun n hn => by simpa using List.all_eq_true.1 hsz n (DataW.weights_mem_each (j := 1) rfl rfl n hn)
  have k1 := h1
  have lt1 : ∀ x ∈ p1, x.block < W.heap.size := by obtain ⟨m, hm⟩ := k1; exact DataW.trod_lt m _ _ _ hm
  obtain ⟨a1, rfl, e1, _, w1⟩ := open_int Try.underlying5 (hval 1 5 v1 rfl rfl) h1
  have hz2 : ∀ n ∈ d2.weights Try.prog 5, n ≤ reachBytes := fun n hn => by simpa using List.all_eq_true.1 hsz n (DataW.weights_mem_each (j := 2) rfl rfl n hn)
  have k2 := h2
  have lt2 : ∀ x ∈ p2, x.block < W.heap.size := by obtain ⟨m, hm⟩ := k2; exact DataW.trod_lt m _ _ _ hm
  obtain ⟨a2, rfl, e2, _, w2⟩ := open_int Try.underlying5 (hval 2 5 v2 rfl rfl) h2
  have hz3 : ∀ n ∈ d3.weights Try.prog 9, n ≤ reachBytes := fun n hn => by simpa using List.all_eq_true.1 hsz n (DataW.weights_mem_each (j := 3) rfl rfl n hn)
  have k3 := h3
  have lt3 : ∀ x ∈ p3, x.block < W.heap.size := by obtain ⟨m, hm⟩ := k3; exact DataW.trod_lt m _ _ _ hm
  obtain ⟨a3, rfl, e3, _, w3⟩ := open_string Try.underlying9 (hval 3 9 v3 rfl rfl) h3
  clear hA0 hval0
  refine (law_calls (ready_law l0 a1 a2 a3.data.toList w0.1 w0.2 (u8_wf w1).1 (u8_wf w2).1 (u8_wf w2).2 (show a3.data.toList.length ≤ maxLen from w3))).mono fun e W' ⟨he, bel⟩ => ?_
  subst he
  exact ⟨_, rfl, _, _, _, [], _, [], hW', trodAll_mk1 (shut_bool Try.underlying4 _), (trodAll_cons_mk (Below.trod laidOut (by kernel_rfl) (of_decide_eq_true (by kernel_rfl)) k0 bel lt0) (trodAll_cons_mk (Below.trod laidOut (by kernel_rfl) (of_decide_eq_true (by kernel_rfl)) k1 bel lt1) (trodAll_cons_mk (Below.trod laidOut (by kernel_rfl) (of_decide_eq_true (by kernel_rfl)) k2 bel lt2) (trodAll_cons_mk (Below.trod laidOut (by kernel_rfl) (of_decide_eq_true (by kernel_rfl)) k3 bel lt3) trodAll_mk0)))), rfl, bel.frame _, fun h => by cases h⟩
theorem over : Rows.injectReadyRow.holds Try.pinned (OpenSpec.ofChange Rows.injectReadySpec) :=
  OpenClaim.holds_of_wide 7 Try.f7 rfl rfl rfl rfl rfl rfl rfl ⟨rfl, rfl, rfl, rfl, rfl⟩ rfl rfl rfl rfl rfl (by kernel_rfl) Try.func7 (by kernel_rfl)
    (of_decide_eq_true (by kernel_rfl)) (by unfold Func.isWrapper; first | (rw [if_pos (by decide +kernel)]; kernel_rfl) | (rw [if_neg (by decide +kernel)]; exact ⟨rfl, rfl⟩))
    (fun os started H enc _ => lifted os started H enc)
end LInjectReady
theorem injectReady_proved : Rows.InjectReadySaid := LInjectReady.over
#print axioms injectReady_proved
end Go.Proofs.Ytkejihockkhnoaa

