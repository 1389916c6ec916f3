/-
  NUMBERS IN DIGITS: package digits' Text (with strings.Builder) and the document's.
-/
import Derived.Test.YtkpgnhhidnkmcaaGreatDoorBase
namespace Go.Proofs.YtkpgnhhidnkmcaaGreatDoor
open Go Go.RK

/-- A number's digits, from the last one on. -/
def rdig (m : Nat) : List UInt8 := if m < 10 then [UInt8.ofNat (48 + m)] else UInt8.ofNat (48 + m % 10) :: rdig (m / 10)
/-- A number in digits. -/
def dig (m : Nat) : List UInt8 := (rdig m).reverse
def deci (n : Int) : List UInt8 := if n < 0 then 45 :: dig n.natAbs else dig n.natAbs
theorem rdig_lt {m : Nat} (h : m < 10) : rdig m = [UInt8.ofNat (48 + m)] := by unfold rdig; rw [if_pos h]
theorem rdig_ge {m : Nat} (h : ¬ m < 10) : rdig m = UInt8.ofNat (48 + m % 10) :: rdig (m / 10) := by rw [rdig, if_neg h]
theorem dig_lt {m : Nat} (h : m < 10) : dig m = [UInt8.ofNat (48 + m)] := by unfold dig; rw [rdig_lt h]; rfl
theorem dig_ge {m : Nat} (h : ¬ m < 10) : dig m = dig (m / 10) ++ [UInt8.ofNat (48 + m % 10)] := by unfold dig; rw [rdig_ge h]; simp
theorem rdig_len (k m : Nat) (h : m < 10 ^ (k + 1)) : (rdig m).length ≤ k + 1 := by
  induction k generalizing m with
  | zero => rw [rdig_lt (by omega)]; simp
  | succ k ih =>
    by_cases h1 : m < 10
    · rw [rdig_lt h1]; simp
    · rw [rdig_ge h1]
      have : m / 10 < 10 ^ (k + 1) := by
        rw [Nat.div_lt_iff_lt_mul (by omega)]
        rw [Nat.pow_succ] at h
        exact h
      have := ih _ this
      simp; omega
theorem rdig_len20 (m : Nat) (h : m ≤ 9223372036854775808) : (rdig m).length ≤ 20 := rdig_len 19 m (by omega)
theorem dig_len (m : Nat) (h : m ≤ 9223372036854775808) : (dig m).length ≤ 20 := by unfold dig; simpa using rdig_len20 m h
theorem rdig_pos (m : Nat) : 0 < (rdig m).length := by unfold rdig; split <;> simp
theorem deci_len (n : Int) (h : n.natAbs ≤ 9223372036854775808) : (deci n).length ≤ 21 := by
  have := dig_len _ h
  unfold deci
  split <;> simp <;> omega
theorem by_dig (m : Nat) : By (UInt8.ofNat (48 + m % 10)) = .int .u8 (48 + (m % 10 : Nat)) := by
  have : (UInt8.ofNat (48 + m % 10)).toNat = 48 + m % 10 := by simp; omega
  unfold By
  rw [this]
  simp
theorem tdiv_neg10 (m : Nat) : (-(m : Int)).tdiv 10 = -((m / 10 : Nat) : Int) := by rw [Int.neg_tdiv]; rfl
theorem tmod_neg10 (m : Nat) : (-(m : Int)).tmod 10 = -((m % 10 : Nat) : Int) := by rw [Int.neg_tmod]; rfl
theorem tdiv_pos10 (m : Nat) : (m : Int).tdiv 10 = ((m / 10 : Nat) : Int) := rfl
theorem tmod_pos10 (m : Nat) : (m : Int).tmod 10 = ((m % 10 : Nat) : Int) := rfl

/-! ### package strings: Builder -/
/-- A builder that no text was asked of, with these bytes. -/
def Bl (h : Heap) (b : Nat) (v : Value) (bs : List UInt8) : Prop := (∃ p, h[b]? = some (.cells ⟨[p, v]⟩ 100 (0, 0)) ∧ (p = .pointer none ∨ p = .pointer (some ⟨b, 0, none⟩))) ∧ Own h v 5 1 bs.length (bys bs) ∧ (bs = [] → v = .slice none 0 0)
theorem noEscape (v : Value) (w : World) : (callFunc 119 #[v]).run Tryz.prog w = .ok (.value v) w := by
  rw [run_callFunc_extern (P := Tryz.prog) (fn := Tryz.f119) (e := Extern.AbiNoEscape.same) (by kernel_rfl) (by kernel_rfl) rfl (by kernel_rfl) (by kernel_rfl)]
  rfl
set_option maxRecDepth 100000 in
theorem copyCheck {h : Heap} {b : Nat} {v : Value} {bs : List UInt8} (r : Bl h b v bs) :
    CallsH Tryz.prog 91 ⟨[.pointer (some ⟨b, 0, none⟩)]⟩ h fun u h' => u = .tuple ⟨[]⟩ ∧ h'[b]? = some (.cells ⟨[.pointer (some ⟨b, 0, none⟩), v]⟩ 100 (0, 0)) ∧ Ext (fun k => k = b) h h' := by
  obtain ⟨⟨p, hb, rfl | rfl⟩, ho, _⟩ := r
  · obtain ⟨A, c, rfl, _⟩ := ho.slice
    refine calls [(0, _)] Tryz.func91 rfl Tryz.ntmps91 rfl ⟨rfl, trivial⟩ ?_
    all_goals (refine WC.seq ?_)
    all_goals (refine WC.region ?_)
    all_goals (refine WL.step (ok_move rfl) rfl rfl rfl ?_)
    all_goals (refine WL.step (ok_nilCheck rfl) rfl rfl rfl ?_)
    all_goals (refine WL.step (ok_fieldAddr rfl Tryz.underlying100 rfl (fun w => Tryz.sizeOf98 w)) rfl rfl rfl ?_)
    all_goals (refine WL.step (ok_load (fun w => Tryz.isAgg98 w) rfl (by first | assumption | exact cell_blk (by assumption) rfl)) rfl rfl rfl ?_)
    all_goals (refine WL.step (ok_eqlPn Tryz.underlying98 rfl rfl) rfl rfl rfl ?_)
    all_goals (refine WL.nil ?_)
    all_goals (repeat' (with_reducible first | refine thenP_n ?_ | refine blockP_n ?_))
    all_goals (refine WC.sub [(0, _), (6, _)] ⟨rfl, rfl, trivial⟩ ?_)
    all_goals (first | refine WC.condB_t 1 rfl ?_ | refine WC.condB_f 2 rfl ?_ | (refine WC.condB 1 2 rfl (fun hb => ?_) (fun hb => ?_) <;> (first | replace hb := of_decide_eq_true hb | replace hb := of_decide_eq_false hb | replace hb := of_decide_eq_false (nt hb) | replace hb := of_decide_eq_true (nf hb) | skip)))
    all_goals (first
      | (fail_if_success (refine Br.mk (i := 1) ?_))
      | (refine Br.mk (i := 1) ?_
         all_goals (refine WC.region ?_)
         all_goals (refine WL.step (ok_move rfl) rfl rfl rfl ?_)
         all_goals (refine WL.step (ok_move rfl) rfl rfl rfl ?_)
         all_goals (refine WL.step (ok_toUnsafe Tryz.underlying98 Tryz.underlying140 (show Tryz.prog.info? 100 = some Tryz.t100 by kernel_rfl) (by decide) rfl (by assumption) (Nat.le_of_ble_eq_true rfl)) rfl rfl rfl ?_)
         all_goals (refine WL.step (ok_extern (fun w => noEscape _ w) rfl) rfl rfl rfl ?_)
         all_goals (refine WL.step (ok_fromUnsafe Tryz.underlying140 Tryz.underlying98 (show Tryz.prog.info? 100 = some Tryz.t100 by kernel_rfl) rfl (by assumption) (by kernel_rfl)) rfl rfl rfl ?_)
         all_goals (refine WL.step (ok_nilCheck rfl) rfl rfl rfl ?_)
         all_goals (refine WL.step (ok_fieldAddr rfl Tryz.underlying100 rfl (fun w => Tryz.sizeOf98 w)) rfl rfl rfl ?_)
         all_goals (refine WL.stepR0 (okE_store (fun w => Tryz.sizeOf98 w) rfl rfl (by assumption) (Nat.le_of_ble_eq_true rfl) rfl rfl) rfl rfl ?_
                    rintro _ h1 ⟨hb1, hx1⟩)
         all_goals (refine WL.nil ?_)
         skip))
    all_goals (first
      | (fail_if_success (refine Br.mk (i := 2) ?_))
      | (refine Br.mk (i := 2) ?_
         all_goals (refine WC.seq ?_)
         all_goals (refine WC.region ?_)
         all_goals (refine WL.step (ok_move rfl) rfl rfl rfl ?_)
         all_goals (refine WL.step (ok_nilCheck rfl) rfl rfl rfl ?_)
         all_goals (refine WL.step (ok_fieldAddr rfl Tryz.underlying100 rfl (fun w => Tryz.sizeOf98 w)) rfl rfl rfl ?_)
         all_goals (refine WL.step (ok_load (fun w => Tryz.isAgg98 w) rfl (by first | assumption | exact cell_blk (by assumption) rfl)) rfl rfl rfl ?_)
         all_goals (refine WL.step (ok_move rfl) rfl rfl rfl ?_)
         all_goals (refine WL.step (ok_neqPn Tryz.underlying98 rfl rfl) rfl rfl rfl ?_)
         all_goals (refine WL.nil ?_)
         all_goals (repeat' (with_reducible first | refine thenP_n ?_ | refine blockP_n ?_))
         all_goals (refine WC.sub [(19, _)] ⟨rfl, trivial⟩ ?_)
         all_goals (first | refine WC.condB_t 3 rfl ?_ | refine WC.condB_f 4 rfl ?_ | (refine WC.condB 3 4 rfl (fun hb => ?_) (fun hb => ?_) <;> (first | replace hb := of_decide_eq_true hb | replace hb := of_decide_eq_false hb | replace hb := of_decide_eq_false (nt hb) | replace hb := of_decide_eq_true (nf hb) | skip)))
         all_goals (first
           | (fail_if_success (refine Br.mk (i := 3) ?_))
           | (refine Br.mk (i := 3) ?_
              fail "refused"
              skip))
         all_goals (first
           | (fail_if_success (refine Br.mk (i := 4) ?_))
           | (refine Br.mk (i := 4) ?_
              all_goals (refine WC.skip ?_)
              skip))
         skip))
    all_goals (repeat' (with_reducible first | refine thenP_n ?_ | refine blockP_n ?_))
    all_goals (refine retP_n [] trivial ?_)
    all_goals (exact ⟨rfl, hb1, hx1⟩)
  · obtain ⟨A, c, rfl, _⟩ := ho.slice
    refine calls [(0, _)] Tryz.func91 rfl Tryz.ntmps91 rfl ⟨rfl, trivial⟩ ?_
    all_goals (refine WC.seq ?_)
    all_goals (refine WC.region ?_)
    all_goals (refine WL.step (ok_move rfl) rfl rfl rfl ?_)
    all_goals (refine WL.step (ok_nilCheck rfl) rfl rfl rfl ?_)
    all_goals (refine WL.step (ok_fieldAddr rfl Tryz.underlying100 rfl (fun w => Tryz.sizeOf98 w)) rfl rfl rfl ?_)
    all_goals (refine WL.step (ok_load (fun w => Tryz.isAgg98 w) rfl (by first | assumption | exact cell_blk (by assumption) rfl)) rfl rfl rfl ?_)
    all_goals (refine WL.step (ok_eqlPn Tryz.underlying98 rfl rfl) rfl rfl rfl ?_)
    all_goals (refine WL.nil ?_)
    all_goals (repeat' (with_reducible first | refine thenP_n ?_ | refine blockP_n ?_))
    all_goals (refine WC.sub [(0, _), (6, _)] ⟨rfl, rfl, trivial⟩ ?_)
    all_goals (first | refine WC.condB_t 1 rfl ?_ | refine WC.condB_f 2 rfl ?_ | (refine WC.condB 1 2 rfl (fun hb => ?_) (fun hb => ?_) <;> (first | replace hb := of_decide_eq_true hb | replace hb := of_decide_eq_false hb | replace hb := of_decide_eq_false (nt hb) | replace hb := of_decide_eq_true (nf hb) | skip)))
    all_goals (first
      | (fail_if_success (refine Br.mk (i := 1) ?_))
      | (refine Br.mk (i := 1) ?_
         all_goals (refine WC.region ?_)
         all_goals (refine WL.step (ok_move rfl) rfl rfl rfl ?_)
         all_goals (refine WL.step (ok_move rfl) rfl rfl rfl ?_)
         all_goals (refine WL.step (ok_toUnsafe Tryz.underlying98 Tryz.underlying140 (show Tryz.prog.info? 100 = some Tryz.t100 by kernel_rfl) (by decide) rfl (by assumption) (Nat.le_of_ble_eq_true rfl)) rfl rfl rfl ?_)
         all_goals (refine WL.step (ok_extern ? rfl) rfl rfl rfl ?_)
         all_goals (refine WL.step (ok_fromUnsafe Tryz.underlying140 Tryz.underlying98 (show Tryz.prog.info? 100 = some Tryz.t100 by kernel_rfl) rfl (by assumption) (by kernel_rfl)) rfl rfl rfl ?_)
         all_goals (refine WL.step (ok_nilCheck rfl) rfl rfl rfl ?_)
         all_goals (refine WL.step (ok_fieldAddr rfl Tryz.underlying100 rfl (fun w => Tryz.sizeOf98 w)) rfl rfl rfl ?_)
         all_goals (refine WL.stepR0 (okE_store (fun w => Tryz.sizeOf98 w) rfl rfl (by assumption) (Nat.le_of_ble_eq_true rfl) rfl rfl) rfl rfl ?_
                    rintro _ h1 ⟨hb1, hx1⟩)
         all_goals (refine WL.nil ?_)
         skip))
    all_goals (first
      | (fail_if_success (refine Br.mk (i := 2) ?_))
      | (refine Br.mk (i := 2) ?_
         all_goals (refine WC.seq ?_)
         all_goals (refine WC.region ?_)
         all_goals (refine WL.step (ok_move rfl) rfl rfl rfl ?_)
         all_goals (refine WL.step (ok_nilCheck rfl) rfl rfl rfl ?_)
         all_goals (refine WL.step (ok_fieldAddr rfl Tryz.underlying100 rfl (fun w => Tryz.sizeOf98 w)) rfl rfl rfl ?_)
         all_goals (refine WL.step (ok_load (fun w => Tryz.isAgg98 w) rfl (by first | assumption | exact cell_blk (by assumption) rfl)) rfl rfl rfl ?_)
         all_goals (refine WL.step (ok_move rfl) rfl rfl rfl ?_)
         all_goals (refine WL.step (ok_neqPs Tryz.underlying98 (show Tryz.prog.info? 100 = some Tryz.t100 by kernel_rfl) rfl rfl) rfl rfl rfl ?_)
         all_goals (refine WL.nil ?_)
         all_goals (repeat' (with_reducible first | refine thenP_n ?_ | refine blockP_n ?_))
         all_goals (refine WC.sub [(19, _)] ⟨rfl, trivial⟩ ?_)
         all_goals (first | refine WC.condB_t 3 rfl ?_ | refine WC.condB_f 4 rfl ?_ | (refine WC.condB 3 4 rfl (fun hb => ?_) (fun hb => ?_) <;> (first | replace hb := of_decide_eq_true hb | replace hb := of_decide_eq_false hb | replace hb := of_decide_eq_false (nt hb) | replace hb := of_decide_eq_true (nf hb) | skip)))
         all_goals (first
           | (fail_if_success (refine Br.mk (i := 3) ?_))
           | (refine Br.mk (i := 3) ?_
              fail "refused"
              skip))
         all_goals (first
           | (fail_if_success (refine Br.mk (i := 4) ?_))
           | (refine Br.mk (i := 4) ?_
              all_goals (refine WC.skip ?_)
              skip))
         skip))
    all_goals (repeat' (with_reducible first | refine thenP_n ?_ | refine blockP_n ?_))
    all_goals (refine retP_n [] trivial ?_)
    all_goals (exact ⟨rfl, hb, .refl _ _⟩)
set_option maxRecDepth 100000 in
theorem writeByte {h : Heap} {b : Nat} {v : Value} {bs : List UInt8} (r : Bl h b v bs) (c : UInt8) (hm : bs.length ≤ 1000000) :
    CallsH Tryz.prog 71 ⟨[.pointer (some ⟨b, 0, none⟩), By c]⟩ h fun u h' => u = .nilIface ∧ ∃ v', Bl h' b v' (bs ++ [c]) ∧ Ext (fun k => k = b ∨ v.ownBlock = some k) h h' ∧ ∀ k, v'.ownBlock = some k → v.ownBlock = some k ∨ h.size ≤ k := by
  have r0 := r
  obtain ⟨⟨p, hb, _⟩, ho, _⟩ := r
  obtain ⟨A, c0, rfl, _⟩ := ho.slice
  have hne : (Value.slice A bs.length c0).ownBlock ≠ some b := own_ne ho hb (by decide)
  refine calls [(0, _), (1, _)] Tryz.func71 rfl Tryz.ntmps71 rfl ⟨rfl, rfl, trivial⟩ ?_
  all_goals (refine WC.seq ?_)
  all_goals (refine WC.region ?_)
  all_goals (refine WL.step (ok_assign rfl) rfl rfl rfl ?_)
  all_goals (refine WL.nil ?_)
  all_goals (repeat' (with_reducible first | refine thenP_n ?_ | refine blockP_n ?_))
  all_goals (refine WC.seq ?_)
  all_goals (refine WC.region ?_)
  all_goals (refine WL.step (ok_move rfl) rfl rfl rfl ?_)
  all_goals (refine WL.call (vs := [_]) rfl (fun a w => Tryz.call91 a w) rfl (copyCheck r0) rfl rfl rfl ?_
             rintro _ h1 ⟨rfl, hb1, hx1⟩)
  all_goals (have ho1 := ho.ext hx1 (fun k hk e => hne (by rw [hk, e])))
  all_goals (refine WL.nil ?_)
  all_goals (repeat' (with_reducible first | refine thenP_n ?_ | refine blockP_n ?_))
  all_goals (refine WC.seq ?_)
  all_goals (refine WC.region ?_)
  all_goals (refine WL.step (ok_move rfl) rfl rfl rfl ?_)
  all_goals (refine WL.step (ok_move rfl) rfl rfl rfl ?_)
  all_goals (refine WL.step (ok_nilCheck rfl) rfl rfl rfl ?_)
  all_goals (refine WL.step (ok_fieldAddr rfl Tryz.underlying100 rfl (fun w => Tryz.sizeOf24 w)) rfl rfl rfl ?_)
  all_goals (refine WL.step (ok_load (fun w => Tryz.isAgg24 w) rfl (by first | assumption | exact cell_blk (by assumption) rfl)) rfl rfl rfl ?_)
  all_goals (refine WL.step (ok_move rfl) rfl rfl rfl ?_)
  all_goals (refine WL.stepR (okE_buildSlice (vs := [_]) (cs := [_]) (fun | [a0] => [a0] | _ => []) Tryz.underlying24 rfl rfl (by kernel_rfl)) rfl rfl rfl ?_
             rintro _ h3 ⟨b3, rfl, hg3, hb3, hx3⟩)
  all_goals (have ho3 := ho1.ext hx3 (fun _ _ => nos)
             have hb3' := hx3.obj hb1 nos)
  all_goals (refine WL.stepR (ok_append (sz := 1) (bytes := 1) rfl Tryz.underlying24 (show Tryz.prog.info? 5 = some Tryz.t5 by kernel_rfl) rfl rfl rfl rfl (by decide) rfl rfl ho3 (rd_blk hb3 rfl) (by simp [Value.oneCell']) (by simp only [maxLen]; omega) (by omega)) rfl rfl rfl ?_
             rintro v4 h4 ⟨ho4, hx4, hl4⟩)
  all_goals (obtain ⟨A4, c4, rfl, _⟩ := ho4.slice
             have hb4 := hx4.obj hb3' (fun e => hne e))
  all_goals (refine WL.step (ok_nilCheck rfl) rfl rfl rfl ?_)
  all_goals (refine WL.step (ok_fieldAddr rfl Tryz.underlying100 rfl (fun w => Tryz.sizeOf24 w)) rfl rfl rfl ?_)
  all_goals (refine WL.stepR0 (okE_store (fun w => Tryz.sizeOf24 w) rfl rfl hb4 (Nat.le_of_ble_eq_true rfl) rfl rfl) rfl rfl ?_
             rintro _ h5 ⟨hb5, hx5⟩)
  all_goals (refine WL.nil ?_)
  all_goals (repeat' (with_reducible first | refine thenP_n ?_ | refine blockP_n ?_))
  all_goals (refine WC.sub [] trivial ?_)
  all_goals (refine WC.seq ?_)
  all_goals (refine WC.region ?_)
  all_goals (refine WL.step (ok_assign rfl) rfl rfl rfl ?_)
  all_goals (refine WL.nil ?_)
  all_goals (repeat' (with_reducible first | refine thenP_n ?_ | refine blockP_n ?_))
  all_goals (refine WC.ret ?_)
  all_goals (repeat' (with_reducible first | refine thenP_r ?_ | refine blockP_r ?_))
  all_goals (refine retP_1 _ ⟨rfl, trivial⟩ ?_)
  all_goals (exact ⟨rfl, _, ⟨⟨_, hb5, .inr rfl⟩, by simpa using ho4.ext hx5 (fun k hk e => own_ne ho4 hb4 (by decide) (by rw [hk, e])), by simp⟩, (((hx1.mono (fun k _ e => .inl e)).trans (hx3.mono (fun k _ e => e.elim))).trans' hx4 (fun k _ e => .inr e)).trans' hx5 (fun k _ e => .inl e), kin_of hl4 (Nat.le_trans hx1.size hx3.size)⟩)
set_option maxRecDepth 100000 in
theorem builderString {h : Heap} {b : Nat} {v : Value} {bs : List UInt8} (r : Bl h b v bs) (hm : bs.length ≤ 1000000) :
    CallsH Tryz.prog 72 ⟨[.pointer (some ⟨b, 0, none⟩)]⟩ h fun u h' => u = St bs ∧ Ext (fun k => v.ownBlock = some k) h h' := by
  obtain ⟨⟨p, hb, _⟩, ho, hnn⟩ := r
  rcases ho with ⟨_, ⟨rfl, h0⟩ | ⟨g, cap, cur, rfl, hg, hn, hcm, hcs, hct⟩⟩
  · obtain rfl := List.eq_nil_of_length_eq_zero h0
    refine calls [(0, _)] Tryz.func72 rfl Tryz.ntmps72 rfl ⟨rfl, trivial⟩ ?_
    all_goals (refine WC.seq ?_)
    all_goals (refine WC.region ?_)
    all_goals (refine WL.step (ok_assign rfl) rfl rfl rfl ?_)
    all_goals (refine WL.nil ?_)
    all_goals (repeat' (with_reducible first | refine thenP_n ?_ | refine blockP_n ?_))
    all_goals (refine WC.seq ?_)
    all_goals (refine WC.drawT 10 fol (by kernel_rfl) ?_)
    all_goals (show WS _ _ _ [_, _, _, _, _, _, _, _, _, _] _ _ _)
    all_goals (refine WS.step (ok_move rfl) rfl rfl rfl ?_)
    all_goals (refine WS.step (ok_nilCheck rfl) rfl rfl rfl ?_)
    all_goals (refine WS.step (ok_fieldAddr rfl Tryz.underlying100 rfl (fun w => Tryz.sizeOf24 w)) rfl rfl rfl ?_)
    all_goals (refine WS.step (ok_load (fun w => Tryz.isAgg24 w) rfl (by first | assumption | exact cell_blk (by assumption) rfl)) rfl rfl rfl ?_)
    all_goals (first | (refine WS.step (ok_sliceData rfl (by omega)) rfl rfl rfl ?_) | (refine WS.step (ok_sliceData0 rfl) rfl rfl rfl ?_))
    all_goals (refine WS.step (ok_move rfl) rfl rfl rfl ?_)
    all_goals (refine WS.step (ok_nilCheck rfl) rfl rfl rfl ?_)
    all_goals (refine WS.step (ok_fieldAddr rfl Tryz.underlying100 rfl (fun w => Tryz.sizeOf24 w)) rfl rfl rfl ?_)
    all_goals (refine WS.step (ok_load (fun w => Tryz.isAgg24 w) rfl (by first | assumption | exact cell_blk (by assumption) rfl)) rfl rfl rfl ?_)
    all_goals (refine WS.step (ok_lenL rfl Tryz.underlying24 rfl) rfl rfl rfl ?_)
    all_goals (refine WS.nil ?_)
    all_goals (show WL _ _ _ [_, _] _ _ _)
    all_goals (refine WL.stepR (okE_unsafeString0 rfl rfl rfl) rfl rfl rfl ?_
               rintro _ hz ⟨rfl, _⟩
               subst hz)
    all_goals (refine WL.step (ok_assign rfl) rfl rfl rfl ?_)
    all_goals (refine WL.nil ?_)
    all_goals (repeat' (with_reducible first | refine thenP_n ?_ | refine blockP_n ?_))
    all_goals (refine WC.sub [(2, _)] ⟨rfl, trivial⟩ ?_)
    all_goals (refine WC.ret ?_)
    all_goals (repeat' (with_reducible first | refine thenP_r ?_ | refine blockP_r ?_))
    all_goals (refine retP_1 _ ⟨rfl, trivial⟩ ?_)
    all_goals (exact ⟨rfl, .refl _ _⟩)
  · have hg' : h[g]? = some (.cells ⟨cur.toList⟩ 5 (0, 0)) := hg
    by_cases hc0 : cap = 0
    · have h0 : bs = [] := List.eq_nil_of_length_eq_zero (by omega)
      cases hnn h0
    ·
      refine calls [(0, _)] Tryz.func72 rfl Tryz.ntmps72 rfl ⟨rfl, trivial⟩ ?_
      all_goals (refine WC.seq ?_)
      all_goals (refine WC.region ?_)
      all_goals (refine WL.step (ok_assign rfl) rfl rfl rfl ?_)
      all_goals (refine WL.nil ?_)
      all_goals (repeat' (with_reducible first | refine thenP_n ?_ | refine blockP_n ?_))
      all_goals (refine WC.seq ?_)
      all_goals (refine WC.drawT 10 fol (by kernel_rfl) ?_)
      all_goals (show WS _ _ _ [_, _, _, _, _, _, _, _, _, _] _ _ _)
      all_goals (refine WS.step (ok_move rfl) rfl rfl rfl ?_)
      all_goals (refine WS.step (ok_nilCheck rfl) rfl rfl rfl ?_)
      all_goals (refine WS.step (ok_fieldAddr rfl Tryz.underlying100 rfl (fun w => Tryz.sizeOf24 w)) rfl rfl rfl ?_)
      all_goals (refine WS.step (ok_load (fun w => Tryz.isAgg24 w) rfl (by first | assumption | exact cell_blk (by assumption) rfl)) rfl rfl rfl ?_)
      all_goals (first | (refine WS.step (ok_sliceData rfl (by omega)) rfl rfl rfl ?_) | (refine WS.step (ok_sliceData0 rfl) rfl rfl rfl ?_))
      all_goals (refine WS.step (ok_move rfl) rfl rfl rfl ?_)
      all_goals (refine WS.step (ok_nilCheck rfl) rfl rfl rfl ?_)
      all_goals (refine WS.step (ok_fieldAddr rfl Tryz.underlying100 rfl (fun w => Tryz.sizeOf24 w)) rfl rfl rfl ?_)
      all_goals (refine WS.step (ok_load (fun w => Tryz.isAgg24 w) rfl (by first | assumption | exact cell_blk (by assumption) rfl)) rfl rfl rfl ?_)
      all_goals (refine WS.step (ok_lenL rfl Tryz.underlying24 rfl) rfl rfl rfl ?_)
      all_goals (refine WS.nil ?_)
      all_goals (show WL _ _ _ [_, _] _ _ _)
      all_goals (refine WL.stepR (okE_unsafeString rfl Tryz.underlying125 (by kernel_rfl) rfl rfl rfl hg' (by simpa using hct) (by unfold maxLen; omega)) rfl rfl rfl ?_
                 rintro _ h1 ⟨rfl, hx1⟩)
      all_goals (refine WL.step (ok_assign rfl) rfl rfl rfl ?_)
      all_goals (refine WL.nil ?_)
      all_goals (repeat' (with_reducible first | refine thenP_n ?_ | refine blockP_n ?_))
      all_goals (refine WC.sub [(2, _)] ⟨rfl, trivial⟩ ?_)
      all_goals (refine WC.ret ?_)
      all_goals (repeat' (with_reducible first | refine thenP_r ?_ | refine blockP_r ?_))
      all_goals (refine retP_1 _ ⟨rfl, trivial⟩ ?_)
      all_goals (exact ⟨rfl, hx1.mono (fun k _ e => by rw [e]; rfl)⟩)
set_option maxRecDepth 100000 in
theorem least_any {h : Heap} (m : Nat) (hm : m ≤ 9223372036854775808) :
    CallsH Tryz.prog 70 ⟨[In (-(m : Int))]⟩ h fun u h' => Own h' u 5 1 (rdig m).length (bys (rdig m)) ∧ Ext No h h' ∧ ∀ k, u.ownBlock = some k → h.size ≤ k := by
  have hlm := rdig_len20 m hm
  refine calls [(0, _)] Tryz.func70 rfl Tryz.ntmps70 rfl ⟨rfl, trivial⟩ ?_
  all_goals (refine WC.seq ?_)
  all_goals (refine WC.region ?_)
  all_goals (refine WL.step (ok_assign rfl) rfl rfl rfl ?_)
  all_goals (refine WL.nil ?_)
  all_goals (repeat' (with_reducible first | refine thenP_n ?_ | refine blockP_n ?_))
  all_goals (refine WC.seq ?_)
  all_goals (refine WC.region ?_)
  all_goals (refine WL.step (ok_assign rfl) rfl rfl rfl ?_)
  all_goals (refine WL.nil ?_)
  all_goals (repeat' (with_reducible first | refine thenP_n ?_ | refine blockP_n ?_))
  all_goals (refine WC.block ?_)
  -- loop 0: slots that turn [0, 3], that stay []
  all_goals (refine WC.loopG (X := List UInt8 × Value × Nat) (fun x => ([(3, x.2.1), (0, In (-(x.2.2 : Int)))] : Fr)) [] (fun x h' => x.2.2 ≤ m ∧ x.1 ++ rdig x.2.2 = rdig m ∧ Own h' x.2.1 5 1 x.1.length (bys x.1) ∧ Ext No h h' ∧ ∀ k, x.2.1.ownBlock = some k → h.size ≤ k) (fun x => x.2.2) (([], .slice none 0 0, m)) ⟨rfl, rfl, trivial⟩ (by exact ⟨Nat.le_refl _, rfl, Own.nil _ _ _, .refl _ _, by simp [Value.ownBlock]⟩) ?_)
  all_goals (rintro ⟨out, v1, q⟩ h1 ⟨hq, hout, ho1, hx1, hf1⟩
             simp only at hq hout ho1 hf1
             obtain ⟨A1, c1, rfl, _⟩ := ho1.slice
             have hlo := congrArg List.length hout
             rw [List.length_append] at hlo
             have hpos := rdig_pos q
             have e1 := tdiv_neg10 q
             have e2 := tmod_neg10 q)
  all_goals (refine WC.sub [(0, _), (3, _)] ⟨rfl, rfl, trivial⟩ ?_)
  all_goals (dsimp only)
  all_goals (refine WC.block ?_)
  all_goals (refine WC.seq ?_)
  all_goals (refine WC.region ?_)
  all_goals (refine WL.step (ok_move rfl) rfl rfl rfl ?_)
  all_goals (refine WL.step (ok_move rfl) rfl rfl rfl ?_)
  all_goals (refine WL.step (ok_rem rfl rfl (by decide)) rfl rfl rfl ?_)
  all_goals (rw [e2])
  all_goals (first | (refine WL.step (ok_subI rfl rfl (by omega)) rfl rfl rfl ?_) | (refine WL.step (ok_sub rfl rfl) rfl rfl rfl ?_))
  all_goals (first | (refine WL.step (ok_convU8 Tryz.underlying3 Tryz.underlying5 rfl (by omega)) rfl rfl rfl ?_) | (refine WL.step (ok_conv Tryz.underlying3 Tryz.underlying5 rfl) rfl rfl rfl ?_))
  all_goals (rw [show (48 - -((q % 10 : Nat) : Int)) = 48 + (q % 10 : Nat) by omega, ← by_dig])
  all_goals (refine WL.stepR (okE_buildSlice (vs := [_]) (cs := [_]) (fun | [a0] => [a0] | _ => []) Tryz.underlying24 rfl rfl (by kernel_rfl)) rfl rfl rfl ?_
             rintro _ h3 ⟨b3, rfl, hg3, hb3, hx3⟩)
  all_goals (refine WL.stepR (ok_append (sz := 1) (bytes := 1) rfl Tryz.underlying24 (show Tryz.prog.info? 5 = some Tryz.t5 by kernel_rfl) rfl rfl rfl rfl (by decide) rfl rfl (ho1.ext hx3 (fun _ _ => nos)) (rd_blk hb3 rfl) (by simp [Value.oneCell']) (by simp only [maxLen]; omega) (by omega)) rfl rfl rfl ?_
             rintro v4 h4 ⟨ho4, hx4, hl4⟩)
  all_goals (have hf4 := fresh_of hl4 hf1 (by have := hx1.size; have := hx3.size; omega)
             have hE4 := (hx1.trans hx3).trans' hx4 (fun q hq e => by have := hf1 q e; omega))
  all_goals (refine WL.step (ok_assign rfl) rfl rfl rfl ?_)
  all_goals (refine WL.nil ?_)
  all_goals (repeat' (with_reducible first | refine thenP_n ?_ | refine blockP_n ?_))
  all_goals (refine WC.sub [(0, _), (3, _)] ⟨rfl, rfl, trivial⟩ ?_)
  all_goals (refine WC.seq ?_)
  all_goals (refine WC.region ?_)
  all_goals (refine WL.step (ok_move rfl) rfl rfl rfl ?_)
  all_goals (first | (refine WL.step (ok_quoI rfl rfl (by decide) (tdiv_in (by omega) (by decide))) rfl rfl rfl ?_) | (refine WL.step (ok_quo rfl rfl (by decide)) rfl rfl rfl ?_))
  all_goals (rw [e1])
  all_goals (refine WL.step (ok_assign rfl) rfl rfl rfl ?_)
  all_goals (refine WL.nil ?_)
  all_goals (repeat' (with_reducible first | refine thenP_n ?_ | refine blockP_n ?_))
  all_goals (refine WC.seq ?_)
  all_goals (refine WC.region ?_)
  all_goals (refine WL.step (ok_move rfl) rfl rfl rfl ?_)
  all_goals (first | (refine WL.step (OkP.bool_t (by omega) (ok_eql rfl rfl)) rfl rfl rfl ?_) | (refine WL.step (OkP.bool_f (by omega) (ok_eql rfl rfl)) rfl rfl rfl ?_) | (refine WL.step (ok_eql rfl rfl) rfl rfl rfl ?_))
  all_goals (refine WL.nil ?_)
  all_goals (repeat' (with_reducible first | refine thenP_n ?_ | refine blockP_n ?_))
  all_goals (first | refine WC.condB_t 1 rfl ?_ | refine WC.condB_f 2 rfl ?_ | (refine WC.condB 1 2 rfl (fun hb => ?_) (fun hb => ?_) <;> (first | replace hb := of_decide_eq_true hb | replace hb := of_decide_eq_false hb | replace hb := of_decide_eq_false (nt hb) | replace hb := of_decide_eq_true (nf hb) | skip)))
  all_goals (first
    | (fail_if_success (refine Br.mk (i := 1) ?_))
    | (refine Br.mk (i := 1) ?_
       all_goals (refine WC.seq ?_)
       all_goals (refine WC.region ?_)
       all_goals (refine WL.step (ok_move rfl) rfl rfl rfl ?_)
       all_goals (refine WL.step (ok_assign rfl) rfl rfl rfl ?_)
       all_goals (refine WL.nil ?_)
       all_goals (repeat' (with_reducible first | refine thenP_n ?_ | refine blockP_n ?_))
       all_goals (refine WC.sub [(2, _)] ⟨rfl, trivial⟩ ?_)
       all_goals (refine WC.ret ?_)
       all_goals (repeat' (with_reducible first | refine thenP_r ?_ | refine blockP_r ?_))
       all_goals (refine retP_1 _ ⟨rfl, trivial⟩ ?_)
       all_goals (exact ⟨by rw [← hout, rdig_lt (m := q) (by omega)]; have e9 : q % 10 = q := Nat.mod_eq_of_lt (by omega); rw [e9] at ho4; simpa using ho4, hE4, hf4⟩)
       skip))
  all_goals (first
    | (fail_if_success (refine Br.mk (i := 2) ?_))
    | (refine Br.mk (i := 2) ?_
       all_goals (refine WC.skip ?_)
       skip))
  all_goals (repeat' (with_reducible first | refine thenP_n ?_ | refine blockP_n ?_))
  all_goals (exact ⟨(out ++ [UInt8.ofNat (48 + q % 10)], _, q / 10), ⟨rfl, rfl, trivial⟩, (by exact ⟨by simp; omega, by rw [← hout, rdig_ge (m := q) (by omega)]; simp, by simpa using ho4, hE4, hf4⟩), (by simp; omega)⟩)
  all_goals (repeat' (with_reducible first | refine thenP_n ?_ | refine blockP_n ?_))
  all_goals (refine retP_n [] trivial ?_)
  all_goals (exact ⟨by rw [← hout, rdig_lt (m := q) (by omega)]; have e9 : q % 10 = q := Nat.mod_eq_of_lt (by omega); rw [e9] at ho4; simpa using ho4, hE4, hf4⟩)
theorem get_by {l : List UInt8} {j : Nat} {y : UInt8} (hy : l[j]? = some y) : (bys l)[j]? = some (By y) := by simp [hy]
theorem drop_snoc {l : List UInt8} {j : Nat} {y : UInt8} (hy : l[j]? = some y) : (l.drop j).reverse = (l.drop (j + 1)).reverse ++ [y] := by
  rw [List.drop_eq_getElem?_toList_append, hy]
  simp
theorem own_blt {h : Heap} {b : Nat} {v : Value} {bs : List UInt8} (r : Bl h b v bs) : b < h.size := by
  obtain ⟨⟨p, hb, _⟩, _⟩ := r
  exact lt_of_some hb
set_option maxRecDepth 100000 in
theorem text_pos {h : Heap} (m : Nat) (hm : m ≤ 9223372036854775807) :
    CallsH Tryz.prog 46 ⟨[In m]⟩ h fun u h' => u = St (deci m) ∧ Ext No h h' := by
  have ed : deci (m : Int) = dig m := by unfold deci; rw [if_neg (by omega)]; rfl
  have hlm := rdig_len20 m (by omega)
  refine calls [(0, _)] Tryz.func46 rfl Tryz.ntmps46 rfl ⟨rfl, trivial⟩ ?_
  all_goals (refine WC.seq ?_)
  all_goals (refine WC.region ?_)
  all_goals (refine WL.step (ok_assign rfl) rfl rfl rfl ?_)
  all_goals (refine WL.nil ?_)
  all_goals (repeat' (with_reducible first | refine thenP_n ?_ | refine blockP_n ?_))
  all_goals (refine WC.seq ?_)
  all_goals (refine WC.region ?_)
  all_goals (refine WL.step (ok_move rfl) rfl rfl rfl ?_)
  all_goals (first | (refine WL.step (OkP.bool_t (by omega) (ok_lss rfl rfl)) rfl rfl rfl ?_) | (refine WL.step (OkP.bool_f (by omega) (ok_lss rfl rfl)) rfl rfl rfl ?_) | (refine WL.step (ok_lss rfl rfl) rfl rfl rfl ?_))
  all_goals (refine WL.step (ok_assign rfl) rfl rfl rfl ?_)
  all_goals (refine WL.nil ?_)
  all_goals (repeat' (with_reducible first | refine thenP_n ?_ | refine blockP_n ?_))
  all_goals (refine WC.seq ?_)
  all_goals (refine WC.seq ?_)
  all_goals (refine WC.region ?_)
  all_goals (refine WL.step (ok_move rfl) rfl rfl rfl ?_)
  all_goals (refine WL.step (ok_not rfl) rfl rfl rfl ?_)
  all_goals (refine WL.nil ?_)
  all_goals (repeat' (with_reducible first | refine thenP_n ?_ | refine blockP_n ?_))
  all_goals (refine WC.sub [(0, _), (3, _), (10, _)] ⟨rfl, rfl, rfl, trivial⟩ ?_)
  all_goals (first | refine WC.condB_t 1 rfl ?_ | refine WC.condB_f 2 rfl ?_ | (refine WC.condB 1 2 rfl (fun hb => ?_) (fun hb => ?_) <;> (first | replace hb := of_decide_eq_true hb | replace hb := of_decide_eq_false hb | replace hb := of_decide_eq_false (nt hb) | replace hb := of_decide_eq_true (nf hb) | skip)))
  all_goals (first
    | (fail_if_success (refine Br.mk (i := 1) ?_))
    | (refine Br.mk (i := 1) ?_
       all_goals (refine WC.region ?_)
       all_goals (refine WL.step (ok_move rfl) rfl rfl rfl ?_)
       all_goals (first | (refine WL.step (ok_negI rfl (by omega)) rfl rfl rfl ?_) | (refine WL.step (ok_neg rfl) rfl rfl rfl ?_))
       all_goals (refine WL.step (ok_assign rfl) rfl rfl rfl ?_)
       all_goals (refine WL.nil ?_)
       skip))
  all_goals (first
    | (fail_if_success (refine Br.mk (i := 2) ?_))
    | (refine Br.mk (i := 2) ?_
       all_goals (refine WC.skip ?_)
       skip))
  all_goals (repeat' (with_reducible first | refine thenP_n ?_ | refine blockP_n ?_))
  all_goals (refine WC.seq ?_)
  all_goals (refine WC.region ?_)
  all_goals (refine WL.step (ok_move rfl) rfl rfl rfl ?_)
  all_goals (refine WL.call (vs := [_]) rfl (fun a w => Tryz.call70 a w) rfl (least_any m (by omega)) rfl rfl rfl ?_
             rintro v4 h4 ⟨ho4, hx4, hf4⟩)
  all_goals (obtain ⟨A4, c4, rfl, _⟩ := ho4.slice)
  all_goals (refine WL.step (ok_assign rfl) rfl rfl rfl ?_)
  all_goals (refine WL.nil ?_)
  all_goals (repeat' (with_reducible first | refine thenP_n ?_ | refine blockP_n ?_))
  all_goals (refine WC.sub [(3, _), (4, _)] ⟨rfl, rfl, trivial⟩ ?_)
  all_goals (refine WC.seq ?_)
  all_goals (refine WC.seq ?_)
  all_goals (refine WC.region ?_)
  all_goals (refine WL.step (ok_move rfl) rfl rfl rfl ?_)
  all_goals (refine WL.nil ?_)
  all_goals (repeat' (with_reducible first | refine thenP_n ?_ | refine blockP_n ?_))
  all_goals (first | refine WC.condB_t 3 rfl ?_ | refine WC.condB_f 4 rfl ?_ | (refine WC.condB 3 4 rfl (fun hb => ?_) (fun hb => ?_) <;> (first | replace hb := of_decide_eq_true hb | replace hb := of_decide_eq_false hb | replace hb := of_decide_eq_false (nt hb) | replace hb := of_decide_eq_true (nf hb) | skip)))
  all_goals (first
    | (fail_if_success (refine Br.mk (i := 3) ?_))
    | (refine Br.mk (i := 3) ?_
       all_goals (refine WC.region ?_)
       all_goals (refine WL.step (ok_move rfl) rfl rfl rfl ?_)
       all_goals (refine WL.stepR (okE_buildSlice (vs := [_]) (cs := [_]) (fun | [a0] => [a0] | _ => []) Tryz.underlying24 rfl rfl (by kernel_rfl)) rfl rfl rfl ?_
                  rintro _ h1 ⟨b1, rfl, hg1, hb1, hx1⟩)
       all_goals (refine WL.stepR (ok_append (sz := 1) (bytes := 1) rfl Tryz.underlying24 (show Tryz.prog.info? 5 = some Tryz.t5 by kernel_rfl) rfl rfl rfl rfl (by decide) rfl rfl (by assumption) (by first | assumption | exact rd_blk (by assumption) rfl) (by simp [Value.oneCell']) (by simp only [maxLen]; omega) (by omega)) rfl rfl rfl ?_
                  rintro v1 h1 ⟨ho1, hx1, hl1⟩)
       all_goals (refine WL.step (ok_assign rfl) rfl rfl rfl ?_)
       all_goals (refine WL.nil ?_)
       skip))
  all_goals (first
    | (fail_if_success (refine Br.mk (i := 4) ?_))
    | (refine Br.mk (i := 4) ?_
       all_goals (refine WC.skip ?_)
       skip))
  all_goals (repeat' (with_reducible first | refine thenP_n ?_ | refine blockP_n ?_))
  all_goals (refine WC.seq ?_)
  all_goals (refine WC.region ?_)
  all_goals (refine WL.stepR (okE_alloc (fun w => Tryz.zeroValue100 w)) rfl rfl rfl ?_
             rintro _ h5 ⟨b5, rfl, hg5, hb5, hx5⟩)
  all_goals (have hob := ho4.ext hx5 (fun _ _ => nos)
             have hfb : ∀ k, (Value.slice A4 (rdig m).length c4).ownBlock = some k → k < b5 := fun k e => by have := ho4.lt e; omega)
  all_goals (refine WL.nil ?_)
  all_goals (repeat' (with_reducible first | refine thenP_n ?_ | refine blockP_n ?_))
  all_goals (refine WC.seq ?_)
  all_goals (refine WC.seq ?_)
  all_goals (refine WC.region ?_)
  all_goals (refine WL.step (ok_move rfl) rfl rfl rfl ?_)
  all_goals (refine WL.step (ok_lenL rfl Tryz.underlying24 rfl) rfl rfl rfl ?_)
  all_goals (first | (refine WL.step (ok_subI rfl rfl (by omega)) rfl rfl rfl ?_) | (refine WL.step (ok_sub rfl rfl) rfl rfl rfl ?_))
  all_goals (refine WL.step (ok_assign rfl) rfl rfl rfl ?_)
  all_goals (refine WL.nil ?_)
  all_goals (repeat' (with_reducible first | refine thenP_n ?_ | refine blockP_n ?_))
  all_goals (refine WC.sub [(4, _), (5, _), (6, _)] ⟨rfl, rfl, rfl, trivial⟩ ?_)
  all_goals (refine WC.block ?_)
  -- loop 0: slots that turn [6], that stay [4, 5]
  all_goals (refine WC.loopG (X := Nat × Value) (fun x => ([(6, In ((x.1 : Int) - 1))] : Fr)) [(4, _), (5, _)] (fun x h' => x.1 ≤ (rdig m).length ∧ Bl h' b5 x.2 ((rdig m).drop x.1).reverse ∧ Own h' (Value.slice A4 (rdig m).length c4) 5 1 (rdig m).length (bys (rdig m)) ∧ Ext No h h' ∧ h.size ≤ b5 ∧ ∀ k, x.2.ownBlock = some k → b5 < k) (fun x => x.1) (((rdig m).length, .slice none 0 0)) ⟨rfl, rfl, rfl, trivial⟩ (by exact ⟨Nat.le_refl _, by simpa [Bl] using (⟨⟨_, hb5, .inl rfl⟩, Own.nil _ _ _⟩ : _ ∧ _), hob, hx4.trans hx5, Nat.le_trans hx4.size hg5, by simp [Value.ownBlock]⟩) ?_)
  all_goals (rintro ⟨k, v6⟩ h6 ⟨hk, hbl, ho6, hx6, hg6, hf6⟩
             simp only at hk hbl hf6)
  all_goals (refine WC.sub [(6, _), (4, _), (5, _)] ⟨rfl, rfl, rfl, trivial⟩ ?_)
  all_goals (dsimp only)
  all_goals (refine WC.seq ?_)
  all_goals (refine WC.seq ?_)
  all_goals (refine WC.region ?_)
  all_goals (refine WL.step (ok_move rfl) rfl rfl rfl ?_)
  all_goals (first | (refine WL.step (OkP.bool_t (by omega) (ok_geq rfl rfl)) rfl rfl rfl ?_) | (refine WL.step (OkP.bool_f (by omega) (ok_geq rfl rfl)) rfl rfl rfl ?_) | (refine WL.step (ok_geq rfl rfl) rfl rfl rfl ?_))
  all_goals (refine WL.nil ?_)
  all_goals (repeat' (with_reducible first | refine thenP_n ?_ | refine blockP_n ?_))
  all_goals (first | refine WC.condB_t 5 rfl ?_ | refine WC.condB_f 6 rfl ?_ | (refine WC.condB 5 6 rfl (fun hb => ?_) (fun hb => ?_) <;> (first | replace hb := of_decide_eq_true hb | replace hb := of_decide_eq_false hb | replace hb := of_decide_eq_false (nt hb) | replace hb := of_decide_eq_true (nf hb) | skip)))
  all_goals (first
    | (fail_if_success (refine Br.mk (i := 5) ?_))
    | (refine Br.mk (i := 5) ?_
       all_goals (refine WC.skip ?_)
       skip))
  all_goals (first
    | (fail_if_success (refine Br.mk (i := 6) ?_))
    | (refine Br.mk (i := 6) ?_
       all_goals (refine WC.exit ?_)
       all_goals (repeat' (with_reducible first | refine thenP_x ?_ | refine blockP_miss rfl ?_ | refine blockP_hit ?_ | refine blockP_n ?_ | refine thenP_n ?_))
       all_goals (refine Br.out (i := 1000) ?_)
       skip))
  all_goals (first | (refine Br.keep ?_) | (repeat' (with_reducible first | refine thenP_n ?_ | refine blockP_n ?_)))
  all_goals (first | (refine Br.keep ?_) | (refine WC.seq ?_))
  all_goals (first | (refine Br.keep ?_) | (refine WC.block ?_))
  all_goals (first
               | (refine Br.keep ?_)
               | (obtain ⟨bL, oL, hA, hbL, hat⟩ := Rd.at_ ho6.rd (by omega)
                  obtain ⟨j, rfl⟩ : ∃ j, k = j + 1 := ⟨k - 1, by omega⟩
                  obtain ⟨y, hy⟩ : ∃ y, (rdig m)[j]? = some y := ⟨_, List.getElem?_eq_getElem (by omega)⟩
                  have hc := hat.get (p := oL + j * 1) (v := By y) j (get_by hy) (by omega)
                  have e8 : (((j + 1 : Nat) : Int) - 1) = (j : Nat) := by omega
                  rw [e8]))
  all_goals (first | (refine Br.keep ?_) | (refine WC.region ?_))
  all_goals (first | (refine Br.keep ?_) | (refine WL.step (ok_move rfl) rfl rfl rfl ?_))
  all_goals (first | (refine Br.keep ?_) | (refine WL.step (ok_move rfl) rfl rfl rfl ?_))
  all_goals (first | (refine Br.keep ?_) | (refine WL.step (ok_idxAddrA Tryz.underlying24 (fun w => Tryz.sizeOf5 w) rfl rfl rfl (by omega) (by first | rfl | assumption)) rfl rfl rfl ?_))
  all_goals (first | (refine Br.keep ?_) | (refine WL.step (ok_load (fun w => Tryz.isAgg5 w) rfl (by first | assumption | exact cell_blk (by assumption) rfl)) rfl rfl rfl ?_))
  all_goals (first
               | (refine Br.keep ?_)
               | (refine WL.call (vs := [_, _]) rfl (fun a w => Tryz.call71 a w) rfl (writeByte hbl y (by simp; omega)) rfl rfl rfl ?_
                  rintro _ h7 ⟨rfl, v7, hbl7, hx7, hk7⟩))
  all_goals (first | (refine Br.keep ?_) | (refine WL.nil ?_))
  all_goals (first | (refine Br.keep ?_) | (repeat' (with_reducible first | refine thenP_n ?_ | refine blockP_n ?_)))
  all_goals (first | (refine Br.keep ?_) | (refine WC.sub [(4, _), (5, _), (6, _)] ⟨rfl, rfl, rfl, trivial⟩ ?_))
  all_goals (first | (refine Br.keep ?_) | (refine WC.region ?_))
  all_goals (first | (refine Br.keep ?_) | (refine WL.step (ok_move rfl) rfl rfl rfl ?_))
  all_goals (first | (refine Br.keep ?_) | (first | (refine WL.step (ok_subI rfl rfl (by omega)) rfl rfl rfl ?_) | (refine WL.step (ok_sub rfl rfl) rfl rfl rfl ?_)))
  all_goals (first | (refine Br.keep ?_) | (refine WL.step (ok_assign rfl) rfl rfl rfl ?_))
  all_goals (first | (refine Br.keep ?_) | (refine WL.nil ?_))
  all_goals (first | (refine Br.keep ?_) | (repeat' (with_reducible first | refine thenP_n ?_ | refine blockP_n ?_)))
  all_goals (first | (refine Br.keep ?_) | (exact ⟨(j, _), ⟨rfl, rfl, rfl, trivial⟩, (by exact ⟨by simp; omega, by rw [drop_snoc hy]; exact hbl7, ho6.ext hx7 (fun q hq e => e.elim (fun e => by have := hfb q hq; omega) (fun e => by have := hfb q hq; have := hf6 q e; omega)), hx6.trans' hx7 (fun q hq e => e.elim (fun e => by omega) (fun e => by have := hf6 q e; omega)), hg6, fun q hq => (hk7 q hq).elim (hf6 q) (fun e => Nat.lt_of_lt_of_le (own_blt hbl) e)⟩), (by simp)⟩))
  all_goals (try (refine Br.mk (i := 1000) ?_))
  all_goals (repeat' (with_reducible first | refine thenP_n ?_ | refine blockP_n ?_))
  all_goals (refine WC.sub [(5, _)] ⟨rfl, trivial⟩ ?_)
  all_goals (refine WC.seq ?_)
  all_goals (refine WC.region ?_)
  all_goals (refine WL.call (vs := [_]) rfl (fun a w => Tryz.call72 a w) rfl (builderString hbl (by simp; omega)) rfl rfl rfl ?_
             rintro _ h8 ⟨rfl, hx8⟩)
  all_goals (refine WL.step (ok_assign rfl) rfl rfl rfl ?_)
  all_goals (refine WL.nil ?_)
  all_goals (repeat' (with_reducible first | refine thenP_n ?_ | refine blockP_n ?_))
  all_goals (refine WC.ret ?_)
  all_goals (repeat' (with_reducible first | refine thenP_r ?_ | refine blockP_r ?_))
  all_goals (refine retP_1 _ ⟨rfl, trivial⟩ ?_)
  all_goals (exact ⟨by rw [show k = 0 by omega, ed]; simp [dig], hx6.trans' hx8 (fun q hq e => by have := hf6 q e; omega)⟩)
set_option maxRecDepth 100000 in
theorem text_neg {h : Heap} (m : Nat) (h0 : 0 < m) (hm : m ≤ 9223372036854775808) :
    CallsH Tryz.prog 46 ⟨[In (-(m : Int))]⟩ h fun u h' => u = St (deci (-(m : Int))) ∧ Ext No h h' := by
  have ed : deci (-(m : Int)) = 45 :: dig m := by unfold deci; rw [if_pos (by omega)]; simp
  have hlm := rdig_len20 m (by omega)
  refine calls [(0, _)] Tryz.func46 rfl Tryz.ntmps46 rfl ⟨rfl, trivial⟩ ?_
  all_goals (refine WC.seq ?_)
  all_goals (refine WC.region ?_)
  all_goals (refine WL.step (ok_assign rfl) rfl rfl rfl ?_)
  all_goals (refine WL.nil ?_)
  all_goals (repeat' (with_reducible first | refine thenP_n ?_ | refine blockP_n ?_))
  all_goals (refine WC.seq ?_)
  all_goals (refine WC.region ?_)
  all_goals (refine WL.step (ok_move rfl) rfl rfl rfl ?_)
  all_goals (first | (refine WL.step (OkP.bool_t (by omega) (ok_lss rfl rfl)) rfl rfl rfl ?_) | (refine WL.step (OkP.bool_f (by omega) (ok_lss rfl rfl)) rfl rfl rfl ?_) | (refine WL.step (ok_lss rfl rfl) rfl rfl rfl ?_))
  all_goals (refine WL.step (ok_assign rfl) rfl rfl rfl ?_)
  all_goals (refine WL.nil ?_)
  all_goals (repeat' (with_reducible first | refine thenP_n ?_ | refine blockP_n ?_))
  all_goals (refine WC.seq ?_)
  all_goals (refine WC.seq ?_)
  all_goals (refine WC.region ?_)
  all_goals (refine WL.step (ok_move rfl) rfl rfl rfl ?_)
  all_goals (refine WL.step (ok_not rfl) rfl rfl rfl ?_)
  all_goals (refine WL.nil ?_)
  all_goals (repeat' (with_reducible first | refine thenP_n ?_ | refine blockP_n ?_))
  all_goals (refine WC.sub [(0, _), (3, _), (10, _)] ⟨rfl, rfl, rfl, trivial⟩ ?_)
  all_goals (first | refine WC.condB_t 1 rfl ?_ | refine WC.condB_f 2 rfl ?_ | (refine WC.condB 1 2 rfl (fun hb => ?_) (fun hb => ?_) <;> (first | replace hb := of_decide_eq_true hb | replace hb := of_decide_eq_false hb | replace hb := of_decide_eq_false (nt hb) | replace hb := of_decide_eq_true (nf hb) | skip)))
  all_goals (first
    | (fail_if_success (refine Br.mk (i := 1) ?_))
    | (refine Br.mk (i := 1) ?_
       all_goals (refine WC.region ?_)
       all_goals (refine WL.step (ok_move rfl) rfl rfl rfl ?_)
       all_goals (first | (refine WL.step (ok_negI rfl (by omega)) rfl rfl rfl ?_) | (refine WL.step (ok_neg rfl) rfl rfl rfl ?_))
       all_goals (refine WL.step (ok_assign rfl) rfl rfl rfl ?_)
       all_goals (refine WL.nil ?_)
       skip))
  all_goals (first
    | (fail_if_success (refine Br.mk (i := 2) ?_))
    | (refine Br.mk (i := 2) ?_
       all_goals (refine WC.skip ?_)
       skip))
  all_goals (repeat' (with_reducible first | refine thenP_n ?_ | refine blockP_n ?_))
  all_goals (refine WC.seq ?_)
  all_goals (refine WC.region ?_)
  all_goals (refine WL.step (ok_move rfl) rfl rfl rfl ?_)
  all_goals (refine WL.call (vs := [_]) rfl (fun a w => Tryz.call70 a w) rfl (least_any m (by omega)) rfl rfl rfl ?_
             rintro v4 h4 ⟨ho4, hx4, hf4⟩)
  all_goals (refine WL.step (ok_assign rfl) rfl rfl rfl ?_)
  all_goals (refine WL.nil ?_)
  all_goals (repeat' (with_reducible first | refine thenP_n ?_ | refine blockP_n ?_))
  all_goals (refine WC.sub [(3, _), (4, _)] ⟨rfl, rfl, trivial⟩ ?_)
  all_goals (refine WC.seq ?_)
  all_goals (refine WC.seq ?_)
  all_goals (refine WC.region ?_)
  all_goals (refine WL.step (ok_move rfl) rfl rfl rfl ?_)
  all_goals (refine WL.nil ?_)
  all_goals (repeat' (with_reducible first | refine thenP_n ?_ | refine blockP_n ?_))
  all_goals (first | refine WC.condB_t 3 rfl ?_ | refine WC.condB_f 4 rfl ?_ | (refine WC.condB 3 4 rfl (fun hb => ?_) (fun hb => ?_) <;> (first | replace hb := of_decide_eq_true hb | replace hb := of_decide_eq_false hb | replace hb := of_decide_eq_false (nt hb) | replace hb := of_decide_eq_true (nf hb) | skip)))
  all_goals (first
    | (fail_if_success (refine Br.mk (i := 3) ?_))
    | (refine Br.mk (i := 3) ?_
       all_goals (refine WC.region ?_)
       all_goals (refine WL.step (ok_move rfl) rfl rfl rfl ?_)
       all_goals (refine WL.stepR (okE_buildSlice (vs := [_]) (cs := [_]) (fun | [a0] => [a0] | _ => []) Tryz.underlying24 rfl rfl (by kernel_rfl)) rfl rfl rfl ?_
                  rintro _ h3 ⟨b3, rfl, hg3, hb3, hx3⟩)
       all_goals (refine WL.stepR (ok_append (sz := 1) (bytes := 1) rfl Tryz.underlying24 (show Tryz.prog.info? 5 = some Tryz.t5 by kernel_rfl) rfl rfl rfl rfl (by decide) rfl rfl (ho4.ext hx3 (fun _ _ => nos)) (rd_blk hb3 rfl) (by simp [Value.oneCell']) (by simp only [maxLen]; omega) (by omega)) rfl rfl rfl ?_
                  rintro v7 h7 ⟨ho7, hx7, hl7⟩)
       all_goals (have hf7 := fresh_of hl7 hf4 (by have := hx4.size; have := hx3.size; omega)
                  have hX7 := (hx4.trans hx3).trans' hx7 (fun q hq e => by have := hf4 q e; omega)
                  have e45 : bys (rdig m) ++ [.int .u8 45] = bys (rdig m ++ [45]) := by simp
                  have l45 : (rdig m).length + 1 = (rdig m ++ [45]).length := by simp
                  rw [e45, l45] at ho7
                  have hlf : (rdig m ++ [45]).length ≤ 21 := by omega
                  obtain ⟨A7, c7, rfl, _⟩ := ho7.slice)
       all_goals (refine WL.step (ok_assign rfl) rfl rfl rfl ?_)
       all_goals (refine WL.nil ?_)
       skip))
  all_goals (first
    | (fail_if_success (refine Br.mk (i := 4) ?_))
    | (refine Br.mk (i := 4) ?_
       all_goals (refine WC.skip ?_)
       skip))
  all_goals (repeat' (with_reducible first | refine thenP_n ?_ | refine blockP_n ?_))
  all_goals (refine WC.seq ?_)
  all_goals (refine WC.region ?_)
  all_goals (refine WL.stepR (okE_alloc (fun w => Tryz.zeroValue100 w)) rfl rfl rfl ?_
             rintro _ h5 ⟨b5, rfl, hg5, hb5, hx5⟩)
  all_goals (have hob := ho7.ext hx5 (fun _ _ => nos)
             have hfb : ∀ k, (Value.slice A7 (rdig m ++ [45]).length c7).ownBlock = some k → k < b5 := fun k e => by have := ho7.lt e; omega)
  all_goals (refine WL.nil ?_)
  all_goals (repeat' (with_reducible first | refine thenP_n ?_ | refine blockP_n ?_))
  all_goals (refine WC.seq ?_)
  all_goals (refine WC.seq ?_)
  all_goals (refine WC.region ?_)
  all_goals (refine WL.step (ok_move rfl) rfl rfl rfl ?_)
  all_goals (refine WL.step (ok_lenL rfl Tryz.underlying24 rfl) rfl rfl rfl ?_)
  all_goals (first | (refine WL.step (ok_subI rfl rfl (by omega)) rfl rfl rfl ?_) | (refine WL.step (ok_sub rfl rfl) rfl rfl rfl ?_))
  all_goals (refine WL.step (ok_assign rfl) rfl rfl rfl ?_)
  all_goals (refine WL.nil ?_)
  all_goals (repeat' (with_reducible first | refine thenP_n ?_ | refine blockP_n ?_))
  all_goals (refine WC.sub [(4, _), (5, _), (6, _)] ⟨rfl, rfl, rfl, trivial⟩ ?_)
  all_goals (refine WC.block ?_)
  -- loop 0: slots that turn [6], that stay [4, 5]
  all_goals (refine WC.loopG (X := Nat × Value) (fun x => ([(6, In ((x.1 : Int) - 1))] : Fr)) [(4, _), (5, _)] (fun x h' => x.1 ≤ (rdig m ++ [45]).length ∧ Bl h' b5 x.2 ((rdig m ++ [45]).drop x.1).reverse ∧ Own h' (Value.slice A7 (rdig m ++ [45]).length c7) 5 1 (rdig m ++ [45]).length (bys (rdig m ++ [45])) ∧ Ext No h h' ∧ h.size ≤ b5 ∧ ∀ k, x.2.ownBlock = some k → b5 < k) (fun x => x.1) (((rdig m ++ [45]).length, .slice none 0 0)) ⟨rfl, rfl, rfl, trivial⟩ (by exact ⟨Nat.le_refl _, by simpa [Bl] using (⟨⟨_, hb5, .inl rfl⟩, Own.nil _ _ _⟩ : _ ∧ _), hob, hX7.trans hx5, Nat.le_trans hX7.size hg5, by simp [Value.ownBlock]⟩) ?_)
  all_goals (rintro ⟨k, v6⟩ h6 ⟨hk, hbl, ho6, hx6, hg6, hf6⟩
             simp only at hk hbl hf6)
  all_goals (refine WC.sub [(6, _), (4, _), (5, _)] ⟨rfl, rfl, rfl, trivial⟩ ?_)
  all_goals (dsimp only)
  all_goals (refine WC.seq ?_)
  all_goals (refine WC.seq ?_)
  all_goals (refine WC.region ?_)
  all_goals (refine WL.step (ok_move rfl) rfl rfl rfl ?_)
  all_goals (first | (refine WL.step (OkP.bool_t (by omega) (ok_geq rfl rfl)) rfl rfl rfl ?_) | (refine WL.step (OkP.bool_f (by omega) (ok_geq rfl rfl)) rfl rfl rfl ?_) | (refine WL.step (ok_geq rfl rfl) rfl rfl rfl ?_))
  all_goals (refine WL.nil ?_)
  all_goals (repeat' (with_reducible first | refine thenP_n ?_ | refine blockP_n ?_))
  all_goals (first | refine WC.condB_t 5 rfl ?_ | refine WC.condB_f 6 rfl ?_ | (refine WC.condB 5 6 rfl (fun hb => ?_) (fun hb => ?_) <;> (first | replace hb := of_decide_eq_true hb | replace hb := of_decide_eq_false hb | replace hb := of_decide_eq_false (nt hb) | replace hb := of_decide_eq_true (nf hb) | skip)))
  all_goals (first
    | (fail_if_success (refine Br.mk (i := 5) ?_))
    | (refine Br.mk (i := 5) ?_
       all_goals (refine WC.skip ?_)
       skip))
  all_goals (first
    | (fail_if_success (refine Br.mk (i := 6) ?_))
    | (refine Br.mk (i := 6) ?_
       all_goals (refine WC.exit ?_)
       all_goals (repeat' (with_reducible first | refine thenP_x ?_ | refine blockP_miss rfl ?_ | refine blockP_hit ?_ | refine blockP_n ?_ | refine thenP_n ?_))
       all_goals (refine Br.out (i := 1000) ?_)
       skip))
  all_goals (first | (refine Br.keep ?_) | (repeat' (with_reducible first | refine thenP_n ?_ | refine blockP_n ?_)))
  all_goals (first | (refine Br.keep ?_) | (refine WC.seq ?_))
  all_goals (first | (refine Br.keep ?_) | (refine WC.block ?_))
  all_goals (first
               | (refine Br.keep ?_)
               | (obtain ⟨bL, oL, hA, hbL, hat⟩ := Rd.at_ ho6.rd (by omega)
                  obtain ⟨j, rfl⟩ : ∃ j, k = j + 1 := ⟨k - 1, by omega⟩
                  obtain ⟨y, hy⟩ : ∃ y, (rdig m ++ [45])[j]? = some y := ⟨_, List.getElem?_eq_getElem (by omega)⟩
                  have hc := hat.get (p := oL + j * 1) (v := By y) j (get_by hy) (by omega)
                  have e8 : (((j + 1 : Nat) : Int) - 1) = (j : Nat) := by omega
                  rw [e8]))
  all_goals (first | (refine Br.keep ?_) | (refine WC.region ?_))
  all_goals (first | (refine Br.keep ?_) | (refine WL.step (ok_move rfl) rfl rfl rfl ?_))
  all_goals (first | (refine Br.keep ?_) | (refine WL.step (ok_move rfl) rfl rfl rfl ?_))
  all_goals (first | (refine Br.keep ?_) | (refine WL.step (ok_idxAddrA Tryz.underlying24 (fun w => Tryz.sizeOf5 w) rfl rfl rfl (by omega) (by first | rfl | assumption)) rfl rfl rfl ?_))
  all_goals (first | (refine Br.keep ?_) | (refine WL.step (ok_load (fun w => Tryz.isAgg5 w) rfl (by first | assumption | exact cell_blk (by assumption) rfl)) rfl rfl rfl ?_))
  all_goals (first
               | (refine Br.keep ?_)
               | (refine WL.call (vs := [_, _]) rfl (fun a w => Tryz.call71 a w) rfl (writeByte hbl y (by simp; omega)) rfl rfl rfl ?_
                  rintro _ h7 ⟨rfl, v7, hbl7, hx7, hk7⟩))
  all_goals (first | (refine Br.keep ?_) | (refine WL.nil ?_))
  all_goals (first | (refine Br.keep ?_) | (repeat' (with_reducible first | refine thenP_n ?_ | refine blockP_n ?_)))
  all_goals (first | (refine Br.keep ?_) | (refine WC.sub [(4, _), (5, _), (6, _)] ⟨rfl, rfl, rfl, trivial⟩ ?_))
  all_goals (first | (refine Br.keep ?_) | (refine WC.region ?_))
  all_goals (first | (refine Br.keep ?_) | (refine WL.step (ok_move rfl) rfl rfl rfl ?_))
  all_goals (first | (refine Br.keep ?_) | (first | (refine WL.step (ok_subI rfl rfl (by omega)) rfl rfl rfl ?_) | (refine WL.step (ok_sub rfl rfl) rfl rfl rfl ?_)))
  all_goals (first | (refine Br.keep ?_) | (refine WL.step (ok_assign rfl) rfl rfl rfl ?_))
  all_goals (first | (refine Br.keep ?_) | (refine WL.nil ?_))
  all_goals (first | (refine Br.keep ?_) | (repeat' (with_reducible first | refine thenP_n ?_ | refine blockP_n ?_)))
  all_goals (first | (refine Br.keep ?_) | (exact ⟨(j, _), ⟨rfl, rfl, rfl, trivial⟩, (by exact ⟨by simp; omega, by rw [drop_snoc hy]; exact hbl7, ho6.ext hx7 (fun q hq e => e.elim (fun e => by have := hfb q hq; omega) (fun e => by have := hfb q hq; have := hf6 q e; omega)), hx6.trans' hx7 (fun q hq e => e.elim (fun e => by omega) (fun e => by have := hf6 q e; omega)), hg6, fun q hq => (hk7 q hq).elim (hf6 q) (fun e => Nat.lt_of_lt_of_le (own_blt hbl) e)⟩), (by simp)⟩))
  all_goals (try (refine Br.mk (i := 1000) ?_))
  all_goals (repeat' (with_reducible first | refine thenP_n ?_ | refine blockP_n ?_))
  all_goals (refine WC.sub [(5, _)] ⟨rfl, trivial⟩ ?_)
  all_goals (refine WC.seq ?_)
  all_goals (refine WC.region ?_)
  all_goals (refine WL.call (vs := [_]) rfl (fun a w => Tryz.call72 a w) rfl (builderString hbl (by simp; omega)) rfl rfl rfl ?_
             rintro _ h8 ⟨rfl, hx8⟩)
  all_goals (refine WL.step (ok_assign rfl) rfl rfl rfl ?_)
  all_goals (refine WL.nil ?_)
  all_goals (repeat' (with_reducible first | refine thenP_n ?_ | refine blockP_n ?_))
  all_goals (refine WC.ret ?_)
  all_goals (repeat' (with_reducible first | refine thenP_r ?_ | refine blockP_r ?_))
  all_goals (refine retP_1 _ ⟨rfl, trivial⟩ ?_)
  all_goals (exact ⟨by rw [show k = 0 by omega, ed]; simp [dig], hx6.trans' hx8 (fun q hq e => by have := hf6 q e; omega)⟩)
theorem text_any {h : Heap} (n : Int) (h0 : -9223372036854775808 ≤ n) (h1 : n ≤ 9223372036854775807) :
    CallsH Tryz.prog 46 ⟨[In n]⟩ h fun u h' => u = St (deci n) ∧ Ext No h h' := by
  by_cases hp : 0 ≤ n
  · obtain ⟨m, rfl⟩ := Int.eq_ofNat_of_zero_le hp
    exact text_pos m (by omega)
  · obtain ⟨m, rfl⟩ : ∃ m : Nat, n = -(m : Int) := ⟨n.natAbs, by omega⟩
    exact text_neg m (by omega) (by omega)
end Go.Proofs.YtkpgnhhidnkmcaaGreatDoor

