/-
  SEVERAL TEXTS IN ONE: IxB, K28, Hv1, Cell, K18, Srl, SrlX, Cl, Hv2, Hv3, Hv4, Hv5, Hv6, Hv7, K13, Hv8, Wv1, K17, ChkS, Wv2.
-/
import Derived.Test.YtdjjpbbhcidaaaaGreatDoorPMixPrefix1
import Derived.Lib.IndexAny
import Derived.Lib.IndexLaws
import Derived.Maps.RangeRun
import Derived.HandedShaped
import Derived.Handed
import Derived.Scope
import Derived.ChangeKeysEq
/-
  BYTES LOOKED FOR; clean texts; numbers within bounds: packages bytes, strings, digits, front, back.
-/
namespace Go.Proofs.YtdjjpbbhcidaaaaGreatDoor
open Go Go.RK

theorem ixb_nat (c : UInt8) : ((c.toNat : Int)).toNat.toUInt8 = c := by simp
theorem indexByte_str {h : Heap} (s : List UInt8) (c : UInt8) :
    CallsH Tryz.prog 192 ⟨[St s, By c]⟩ h fun u h' => u = In (Lib.indexByte s c) ∧ h' = h := fun w hw =>
  (Tryz.strings_IndexByte ⟨⟨s⟩⟩ c.toNat w).mono fun e w' ⟨he, hb⟩ => ⟨⟨by rw [hb], by rw [hb], by rw [hb], by subst hb; exact Nat.le_refl _⟩, _, he, by rw [ixb_nat], by rw [hb, hw]⟩
theorem indexByte_bys {h : Heap} {v : Value} (l : List UInt8) (c : UInt8) (hr : Rd h v 1 l.length (bys l)) (h0 : 0 < l.length) :
    CallsH Tryz.prog 86 ⟨[v, By c]⟩ h fun u h' => u = In (Lib.indexByte l c) ∧ h' = h := by
  obtain ⟨A, cap, rfl, _⟩ := id hr
  obtain ⟨b, o, rfl, _, hat⟩ := Rd.at_ hr h0
  intro w hw
  subst hw
  have e : Lib.bytesOf (l.map fun x : UInt8 => (x.toNat : Int)) = l := by
    unfold Lib.bytesOf
    rw [List.map_map]
    conv => rhs; rw [← List.map_id l]
    exact List.map_congr_left fun x _ => ixb_nat x
  refine (Tryz.bytes_IndexByte b o l.length cap (l.map fun x : UInt8 => (x.toNat : Int)) c.toNat w (by simp) fun i hi => ?_).mono fun e' w' ⟨he, hb⟩ => ⟨⟨by rw [hb], by rw [hb], by rw [hb], by subst hb; exact Nat.le_refl _⟩, _, he, by rw [ixb_nat, e], by rw [hb]⟩
  rw [cell_eq]
  have := hat i (By l[i]) (by simp [hi])
  rw [this]
  simp [List.getD, hi]
def cleanB (s : List UInt8) : Bool := !s.contains 0
set_option maxHeartbeats 2000000 in
set_option maxRecDepth 100000 in
theorem clean_any {h : Heap} (s : List UInt8) : CallsH Tryz.prog 143 ⟨[St s]⟩ h fun u h' => u = .bool (cleanB s) ∧ h' = h := by
  refine calls [(0, _)] Tryz.func143 rfl Tryz.ntmps143 rfl ⟨rfl, trivial⟩ ?_
  all_goals (refine WC.sr ?_)
  all_goals (refine Go ?_)
  all_goals (refine WC.sr ?_)
  all_goals (refine Go ?_)
  all_goals (refine WL.call (vs := [_, _]) rfl (fun a w => Tryz.call192 a w) rfl (indexByte_str s 0) rfl rfl rfl ?_
             rintro _ hz ⟨rfl, _⟩
             subst hz)
  all_goals (refine WL.step (ok_lss rfl rfl) rfl rfl rfl ?_)
  all_goals (refine Go ?_)
  all_goals (refine Gs [(2, _)] ?_)
  all_goals (refine Gt ?_)
  all_goals (exact ⟨by unfold cleanB; rw [Lib.contains_iff_indexByte]; exact congrArg Value.bool (by rw [← decide_not]; exact decide_eq_decide.2 (by omega)), rfl⟩)
set_option maxHeartbeats 2000000 in
set_option maxRecDepth 100000 in
theorem indexFunc_str {h : Heap} {A : Option Addr} {c : Nat} (l : List (List UInt8)) (p : (List UInt8) → Bool) {fk : Nat} {fs us : List Value} (hcf : ∀ (args : Array Value) (w : World), (callFunc fk args).run Tryz.prog w = .ok (.enter fk args) w) (hr : Rd h (.slice A l.length c) 1 l.length (l.map St)) (hm : l.length ≤ maxLen)
    (hp : ∀ x ∈ l, CallsH Tryz.prog fk ⟨fs ++ [St x] ++ us⟩ h fun u h' => u = .bool (p x) ∧ h' = h) :
    CallsH Tryz.prog 191 ⟨[.slice A l.length c, .func (.func fk) ⟨fs⟩ ⟨us⟩]⟩ h fun u h' => u = In (idxP p l) ∧ h' = h := by
  unfold maxLen at hm
  refine calls [(0, _), (1, _)] Tryz.func191 rfl Tryz.ntmps191 rfl ⟨rfl, rfl, trivial⟩ ?_
  all_goals (refine WC.sr ?_)
  all_goals (refine Go ?_)
  all_goals (refine WC.seq ?_)
  all_goals (refine WC.sr ?_)
  all_goals (refine Go ?_)
  all_goals (refine WC.block ?_)
  -- loop 0: slots that turn [8], that stay [0, 1, 7]
  all_goals (refine WC.loopG (X := Nat) (fun x => ([(8, In (x : Int))] : Fr)) [(0, _), (1, _), (7, _)] (fun k h' => h' = h ∧ k ≤ l.length ∧ ∀ x ∈ l.take k, p x = false) (fun k => l.length - k) (0) ⟨rfl, rfl, rfl, rfl, trivial⟩ (by exact ⟨rfl, Nat.zero_le _, by simp⟩) ?_)
  all_goals (rintro k _ ⟨rfl, hk, hn⟩)
  all_goals (refine WC.sub [(8, _), (0, _), (1, _), (7, _)] ⟨rfl, rfl, rfl, rfl, trivial⟩ ?_)
  all_goals (refine WC.sr ?_)
  all_goals (refine Go ?_)
  all_goals (refine WC.seq ?_)
  all_goals (refine goC 1 2 ?_ ?_ <;> first | exact ⟨⟩ | refine Hb.mk fun hb => ?_ | skip)
  all_goals (first | (fail_if_success refine goB 1 ?_) | (
  refine goB 1 ?_
  all_goals (refine WC.skip ?_)
  skip))
  all_goals (first | (fail_if_success refine goB 2 ?_) | (
  refine goB 2 ?_
  all_goals (refine WC.exit ?_)
  all_goals (repeat' (with_reducible first | refine thenP_x ?_ | refine blockP_miss rfl ?_ | refine blockP_hit ?_ | refine blockP_n ?_ | refine thenP_n ?_))
  all_goals (refine Br.out (i := 1000) ?_)
  skip))
  all_goals (refine Gn ?_)
  all_goals (first | (refine Br.keep ?_) | (refine WC.seq ?_))
  all_goals (first | (refine Br.keep ?_) | (refine WC.block ?_))
  all_goals (first | (refine Br.keep ?_) | (refine WC.sr ?_))
  all_goals (refine Go ?_)
  all_goals (first | (refine Br.keep ?_) | (refine WC.sr ?_))
  all_goals (refine Go ?_)
  all_goals (first
               | (refine Br.keep ?_)
               | (obtain ⟨b, o, hA, hbL, hat⟩ := Rd.at_ hr (by omega)
                  obtain ⟨y, hy⟩ : ∃ y, l[k]? = some y := ⟨_, List.getElem?_eq_getElem (by omega)⟩
                  have hc := hat.get (p := o + k * 1) (v := St y) k (by rw [List.getElem?_map, hy]; exact rfl) (by omega)))
  all_goals (first | (refine Br.keep ?_) | (refine WL.step (ok_idxAddrA Tryz.underlying217 (fun w => Tryz.sizeOf9 w) rfl rfl rfl (by omega) (by first | rfl | assumption)) rfl rfl rfl ?_))
  all_goals (first | (refine Br.keep ?_) | (refine Ld ?_))
  all_goals (first
               | (refine Br.keep ?_)
               | (refine WL.callT (vs := [_]) rfl rfl hcf rfl (hp y (List.mem_of_getElem? hy)) rfl rfl rfl ?_
                  rintro _ hz ⟨rfl, _⟩
                  subst hz))
  all_goals (first | (refine Br.keep ?_) | (cases hpy : p y))
  all_goals (refine Gn ?_)
  all_goals (first | (refine Br.keep ?_) | (refine Gs [(0, _), (1, _), (5, _), (7, _), (8, _), (16, _)] ?_))
  all_goals (first | (refine Br.keep ?_) | (refine goC 3 4 ?_ ?_ <;> first | exact ⟨⟩ | refine Hb.mk fun hb => ?_ | skip))
  all_goals (first | (fail_if_success refine goB 3 ?_) | (
  refine goB 3 ?_
  all_goals (refine WC.sr ?_)
  all_goals (refine Go ?_)
  all_goals (refine Gs [(4, _)] ?_)
  all_goals (refine Gt ?_)
  all_goals (first | exact ⟨by rw [idxP_no (by rw [List.take_of_length_le (by omega)] at hn; exact hn)], rfl⟩ | exact ⟨by rw [idxP_at hy hpy hn], rfl⟩)
  skip))
  all_goals (first | (fail_if_success refine goB 4 ?_) | (
  refine goB 4 ?_
  all_goals (refine WC.skip ?_)
  skip))
  all_goals (refine Gn ?_)
  all_goals (first | (refine Br.keep ?_) | (refine WC.region ?_))
  all_goals (refine Go ?_)
  all_goals (first | (refine Br.keep ?_) | (exact ⟨k + 1, ⟨rfl, rfl, rfl, rfl, trivial⟩, (by exact ⟨rfl, by omega, take_snoc_p hn hy hpy⟩), (by omega)⟩))
  all_goals (try (refine Br.mk (i := 1000) ?_))
  all_goals (refine Gn ?_)
  all_goals (refine Gs [] ?_)
  all_goals (refine WC.sr ?_)
  all_goals (refine Go ?_)
  all_goals (refine Gt ?_)
  all_goals (first | exact ⟨by rw [idxP_no (by rw [List.take_of_length_le (by omega)] at hn; exact hn)], rfl⟩ | exact ⟨by rw [idxP_at hy hpy hn], rfl⟩)

set_option maxHeartbeats 2000000 in
set_option maxRecDepth 100000 in
theorem clean_fn {h : Heap} (s : List UInt8) : CallsH Tryz.prog 142 ⟨[St s]⟩ h fun u h' => u = .bool (!cleanB s) ∧ h' = h := by
  refine calls [(0, _)] Tryz.func142 rfl Tryz.ntmps142 rfl ⟨rfl, trivial⟩ ?_
  all_goals (refine WC.sr ?_)
  all_goals (refine Go ?_)
  all_goals (refine WC.sr ?_)
  all_goals (refine Go ?_)
  all_goals (refine WL.call (vs := [_]) rfl (fun a w => Tryz.call143 a w) rfl (clean_any s) rfl rfl rfl ?_
             rintro _ hz ⟨rfl, _⟩
             subst hz)
  all_goals (cases hc : cleanB s)
  all_goals (refine Go ?_)
  all_goals (refine Gs [(2, _)] ?_)
  all_goals (refine Gt ?_)
  all_goals (exact ⟨rfl, rfl⟩)
set_option maxHeartbeats 2000000 in
set_option maxRecDepth 100000 in
theorem contains_str {h : Heap} {A : Option Addr} {c : Nat} (l : List (List UInt8)) (p : List UInt8 → Bool) {fk : Nat} {fs us : List Value} (hcf : ∀ (args : Array Value) (w : World), (callFunc fk args).run Tryz.prog w = .ok (.enter fk args) w) (hr : Rd h (.slice A l.length c) 1 l.length (l.map St)) (hm : l.length ≤ maxLen)
    (hp : ∀ x ∈ l, CallsH Tryz.prog fk ⟨fs ++ [St x] ++ us⟩ h fun u h' => u = .bool (p x) ∧ h' = h) :
    CallsH Tryz.prog 141 ⟨[.slice A l.length c, .func (.func fk) ⟨fs⟩ ⟨us⟩]⟩ h fun u h' => u = .bool (l.any p) ∧ h' = h := by
  refine calls [(0, _), (1, _)] Tryz.func141 rfl Tryz.ntmps141 rfl ⟨rfl, rfl, trivial⟩ ?_
  all_goals (refine WC.sr ?_)
  all_goals (refine Go ?_)
  all_goals (refine WC.sr ?_)
  all_goals (refine Go ?_)
  all_goals (refine WL.call (vs := [_, _]) rfl (fun a w => Tryz.call191 a w) rfl (indexFunc_str l p hcf hr hm hp) rfl rfl rfl ?_
             rintro _ hz ⟨rfl, _⟩
             subst hz)
  all_goals (refine WL.step (ok_geq rfl rfl) rfl rfl rfl ?_)
  all_goals (refine Go ?_)
  all_goals (refine Gs [(4, _)] ?_)
  all_goals (refine Gt ?_)
  all_goals (exact ⟨by rw [idxP_geq], rfl⟩)
set_option maxHeartbeats 2000000 in
set_option maxRecDepth 100000 in
theorem containsF_int {h : Heap} {A : Option Addr} {c : Nat} (l : List Int) (p : Int → Bool) {fk : Nat} {fs us : List Value} (hcf : ∀ (args : Array Value) (w : World), (callFunc fk args).run Tryz.prog w = .ok (.enter fk args) w) (hr : Rd h (.slice A l.length c) 1 l.length (ints l)) (hm : l.length ≤ maxLen)
    (hp : ∀ x ∈ l, CallsH Tryz.prog fk ⟨fs ++ [In x] ++ us⟩ h fun u h' => u = .bool (p x) ∧ h' = h) :
    CallsH Tryz.prog 137 ⟨[.slice A l.length c, .func (.func fk) ⟨fs⟩ ⟨us⟩]⟩ h fun u h' => u = .bool (l.any p) ∧ h' = h := by
  refine calls [(0, _), (1, _)] Tryz.func137 rfl Tryz.ntmps137 rfl ⟨rfl, rfl, trivial⟩ ?_
  all_goals (refine WC.sr ?_)
  all_goals (refine Go ?_)
  all_goals (refine WC.sr ?_)
  all_goals (refine Go ?_)
  all_goals (refine WL.call (vs := [_, _]) rfl (fun a w => Tryz.call189 a w) rfl (indexFunc_int l p hcf hr hm hp) rfl rfl rfl ?_
             rintro _ hz ⟨rfl, _⟩
             subst hz)
  all_goals (refine WL.step (ok_geq rfl rfl) rfl rfl rfl ?_)
  all_goals (refine Go ?_)
  all_goals (refine Gs [(4, _)] ?_)
  all_goals (refine Gt ?_)
  all_goals (exact ⟨by rw [idxP_geq], rfl⟩)
set_option maxHeartbeats 2000000 in
set_option maxRecDepth 100000 in
theorem clean_front {h : Heap} {v : Value} (l : List (List UInt8)) (hr : Rd h v 1 l.length (l.map St)) (hm : l.length ≤ maxLen) :
    CallsH Tryz.prog 95 ⟨[v]⟩ h fun u h' => u = .bool (l.all cleanB) ∧ h' = h := by
  obtain ⟨A, c, rfl, _⟩ := id hr
  refine calls [(0, _)] Tryz.func95 rfl Tryz.ntmps95 rfl ⟨rfl, trivial⟩ ?_
  all_goals (refine WC.sr ?_)
  all_goals (refine Go ?_)
  all_goals (refine WC.sr ?_)
  all_goals (refine Go ?_)
  all_goals (refine WL.call (vs := [_, _]) rfl (fun a w => Tryz.call141 a w) rfl (contains_str l (fun s => !cleanB s) (fun a w => Tryz.call142 a w) (fs := []) (us := []) hr hm (fun x _ => clean_fn x)) rfl rfl rfl ?_
             rintro _ hz ⟨rfl, _⟩
             subst hz)
  all_goals (rw [show (l.any fun s => !cleanB s) = !l.all cleanB by rw [List.not_all_eq_any_not]]
             cases hc : l.all cleanB)
  all_goals (refine Go ?_)
  all_goals (refine Gs [(2, _)] ?_)
  all_goals (refine Gt ?_)
  all_goals (exact ⟨rfl, rfl⟩)
def withinB (l : List Int) (lo hi : Int) : Bool := decide (l.length ≤ 65535) && !l.any fun n => decide (n < lo) || decide (hi < n)
set_option maxHeartbeats 2000000 in
set_option maxRecDepth 100000 in
theorem within_fn {h : Heap} {b1 b2 : Nat} {lo hi : Int} {t1 t2 : TypeId} (n : Int) (h1 : h[b1]? = some (.cells ⟨[In lo]⟩ t1 (0, 0))) (h2 : h[b2]? = some (.cells ⟨[In hi]⟩ t2 (0, 0))) :
    CallsH Tryz.prog 138 ⟨[In n, .pointer (some ⟨b1, 0, none⟩), .pointer (some ⟨b2, 0, none⟩)]⟩ h fun u h' => u = .bool (decide (n < lo) || decide (hi < n)) ∧ h' = h := by
  refine calls [(0, _), (1, _), (2, _)] Tryz.func138 rfl Tryz.ntmps138 rfl ⟨rfl, rfl, rfl, trivial⟩ ?_
  all_goals (refine WC.sr ?_)
  all_goals (refine Go ?_)
  all_goals (refine WC.sr ?_)
  all_goals (refine Go ?_)
  all_goals (refine Ld ?_)
  all_goals (refine Go ?_)
  all_goals (refine goP 8 ?_ ?_ <;> first | exact ⟨⟩ | refine Hb.mk fun hb => ?_ | skip)
  all_goals (refine Gg ?_)
  all_goals (first | (refine WL.pass rfl rfl rfl ?_) | (refine Ld ?_))
  all_goals (refine Gg ?_)
  all_goals (refine Go ?_)
  all_goals (refine Gs [(4, _)] ?_)
  all_goals (refine Gt ?_)
  all_goals (exact ⟨by first | (rw [decide_eq_true (show n < lo by omega)]; done) | (rw [decide_eq_true (show n < lo by omega)]; rfl) | (rw [decide_eq_false (show ¬ n < lo by omega)]; rfl), rfl⟩)
set_option maxHeartbeats 2000000 in
set_option maxRecDepth 100000 in
theorem within_front {h : Heap} {v : Value} (l : List Int) (lo hi : Int) (hr : Rd h v 1 l.length (ints l)) (hm : l.length ≤ maxLen) :
    CallsH Tryz.prog 92 ⟨[v, In lo, In hi]⟩ h fun u h' => u = .bool (withinB l lo hi) ∧ Ext No h h' := by
  obtain ⟨A, c, rfl, _⟩ := id hr
  refine calls [(0, _), (1, _), (2, _)] Tryz.func92 rfl Tryz.ntmps92 rfl ⟨rfl, rfl, rfl, trivial⟩ ?_
  all_goals (refine WC.sr ?_)
  all_goals (refine WL.stepR (okE_box rfl) rfl rfl rfl ?_
             rintro _ h1 ⟨b1, rfl, hg1, hb1, hx1⟩)
  all_goals (refine WL.stepR (okE_box rfl) rfl rfl rfl ?_
             rintro _ h2 ⟨b2, rfl, hg2, hb2, hx2⟩)
  all_goals (have hb1' := hx2.obj hb1 nos
             have hx := hx1.trans hx2)
  all_goals (refine Go ?_)
  all_goals (refine WC.sr ?_)
  all_goals (refine Go ?_)
  all_goals (refine goP 10 ?_ ?_ <;> first | exact ⟨⟩ | refine Hb.mk fun hb => ?_ | skip)
  all_goals (refine Gg ?_)
  all_goals (first | (refine WL.pass rfl rfl rfl ?_) | (refine WL.step (ok_makeFunc (vs := []) (us := [_, _]) rfl rfl) rfl rfl rfl ?_))
  all_goals (first
               | (refine WL.pass rfl rfl rfl ?_)
               | (refine WL.call (vs := [_, _]) rfl (fun a w => Tryz.call137 a w) rfl (containsF_int l (fun n => decide (n < lo) || decide (hi < n)) (fun a w => Tryz.call138 a w) (fs := []) (us := [.pointer (some ⟨b1, 0, none⟩), .pointer (some ⟨b2, 0, none⟩)]) (hr.ext0 hx) hm (fun x _ => within_fn x hb1' hb2)) rfl rfl rfl ?_
                  rintro _ hz ⟨rfl, _⟩
                  subst hz))
  all_goals (refine Gg ?_)
  all_goals (refine Go ?_)
  all_goals (refine Gs [(6, _)] ?_)
  all_goals (refine Gt ?_)
  all_goals (exact ⟨by unfold withinB; first | (rw [decide_eq_true (by omega)]; rfl) | (rw [decide_eq_false (by omega)]; rfl), hx⟩)
def knownI (k : UInt8) : Int := if ([66, 67, 68, 69, 72, 80, 81, 83, 88] : List UInt8).contains k then 1 else if ([70, 99, 100, 102, 112] : List UInt8).contains k then 2 else 0
set_option maxHeartbeats 2000000 in
set_option maxRecDepth 100000 in
theorem known_front {h : Heap} (k : UInt8) : CallsH Tryz.prog 54 ⟨[By k]⟩ h fun u h' => u = In (knownI k) ∧ Ext No h h' := by
  have e1 := Lib.contains_iff_indexByte [66, 67, 68, 69, 72, 80, 81, 83, 88] k
  have e2 := Lib.contains_iff_indexByte [70, 99, 100, 102, 112] k
  refine calls [(0, _)] Tryz.func54 rfl Tryz.ntmps54 rfl ⟨rfl, trivial⟩ ?_
  all_goals (refine WC.sr ?_)
  all_goals (refine Go ?_)
  all_goals (refine WC.seq ?_)
  all_goals (refine WC.block ?_)
  all_goals (refine WC.sr ?_)
  all_goals (refine WL.stepR (okE_buildSlice (vs := [_, _, _, _, _, _, _, _, _]) (cs := [_, _, _, _, _, _, _, _, _]) (fun | [a0, a1, a2, a3, a4, a5, a6, a7, a8] => [a0, a1, a2, a3, a4, a5, a6, a7, a8] | _ => []) Tryz.underlying22 rfl rfl (by kernel_rfl)) rfl rfl rfl ?_
             rintro _ h1 ⟨b1, rfl, hg1, hb1, hx1⟩)
  all_goals (refine WL.stepR (okE_convSS Tryz.underlying22 Tryz.underlying5 rfl (by assumption)) rfl rfl rfl ?_
             rintro _ h2 ⟨rfl, ⟨z2, hb2⟩, hx2⟩)
  all_goals (have hX2 : Ext No h h2 := hx1.trans' hx2 (fun q hq e => by omega))
  all_goals (refine Go ?_)
  all_goals (refine WL.call (vs := [_, _]) rfl (fun a w => Tryz.call86 a w) rfl (indexByte_bys [66, 67, 68, 69, 72, 80, 81, 83, 88] k (rd_blk hb2 rfl) (by simp)) rfl rfl rfl ?_
             rintro _ hz ⟨rfl, _⟩
             subst hz)
  all_goals (refine WL.step (ok_geq rfl rfl) rfl rfl rfl ?_)
  all_goals (rw [← e1]
             cases hc1 : ([66, 67, 68, 69, 72, 80, 81, 83, 88] : List UInt8).contains k)
  all_goals (refine Go ?_)
  all_goals (refine Gs [(0, _), (3, _)] ?_)
  all_goals (refine goC 1 2 ?_ ?_ <;> first | exact ⟨⟩ | refine Hb.mk fun hb => ?_ | skip)
  all_goals (first | (fail_if_success refine goB 1 ?_) | (
  refine goB 1 ?_
  all_goals (refine WC.sr ?_)
  all_goals (refine Go ?_)
  all_goals (refine Gt ?_)
  all_goals (first | exact ⟨by unfold knownI; rw [hc1]; rfl, hX2⟩ | exact ⟨by unfold knownI; rw [hc1, hc2]; rfl, (hX2.trans hx3).trans' hx4 (fun q hq e => by have := hX2.size; omega)⟩)
  skip))
  all_goals (first | (fail_if_success refine goB 2 ?_) | (
  refine goB 2 ?_
  all_goals (refine WC.sr ?_)
  all_goals (refine WL.stepR (okE_buildSlice (vs := [_, _, _, _, _]) (cs := [_, _, _, _, _]) (fun | [a0, a1, a2, a3, a4] => [a0, a1, a2, a3, a4] | _ => []) Tryz.underlying22 rfl rfl (by kernel_rfl)) rfl rfl rfl ?_
             rintro _ h3 ⟨b3, rfl, hg3, hb3, hx3⟩)
  all_goals (refine WL.stepR (okE_convSS Tryz.underlying22 Tryz.underlying5 rfl (by assumption)) rfl rfl rfl ?_
             rintro _ h4 ⟨rfl, ⟨z4, hb4⟩, hx4⟩)
  all_goals (refine Go ?_)
  all_goals (refine WL.call (vs := [_, _]) rfl (fun a w => Tryz.call86 a w) rfl (indexByte_bys [70, 99, 100, 102, 112] k (rd_blk hb4 rfl) (by simp)) rfl rfl rfl ?_
             rintro _ hz ⟨rfl, _⟩
             subst hz)
  all_goals (refine WL.step (ok_geq rfl rfl) rfl rfl rfl ?_)
  all_goals (rw [← e2]
             cases hc2 : ([70, 99, 100, 102, 112] : List UInt8).contains k)
  all_goals (refine Go ?_)
  all_goals (refine Gs [(9, _)] ?_)
  all_goals (refine goC 3 4 ?_ ?_ <;> first | exact ⟨⟩ | refine Hb.mk fun hb => ?_ | skip)
  all_goals (first | (fail_if_success refine goB 3 ?_) | (
  refine goB 3 ?_
  all_goals (refine WC.sr ?_)
  all_goals (refine Go ?_)
  all_goals (refine Gt ?_)
  all_goals (first | exact ⟨by unfold knownI; rw [hc1]; rfl, hX2⟩ | exact ⟨by unfold knownI; rw [hc1, hc2]; rfl, (hX2.trans hx3).trans' hx4 (fun q hq e => by have := hX2.size; omega)⟩)
  skip))
  all_goals (first | (fail_if_success refine goB 4 ?_) | (
  refine goB 4 ?_
  all_goals (refine WC.skip ?_)
  skip))
  skip))
  all_goals (refine Gn ?_)
  all_goals (refine WC.sr ?_)
  all_goals (refine Go ?_)
  all_goals (refine Gt ?_)
  all_goals (first | exact ⟨by unfold knownI; rw [hc1]; rfl, hX2⟩ | exact ⟨by unfold knownI; rw [hc1, hc2]; rfl, (hX2.trans hx3).trans' hx4 (fun q hq e => by have := hX2.size; omega)⟩)
end Go.Proofs.YtdjjpbbhcidaaaaGreatDoor


/-
  BITS: and, or; shifts by a number of any kind. No program is named here.
-/
namespace Go.RK
open Go Go.MapKept Go.ChangeMaps

section
variable {P : Program} {f : Fr} {h : Heap} {d : Option Tmp} {ty : TypeId} {pos : String} {af : Array Edge} {g : Option (Nat × Bool)}
variable {t t2 : TypeId} {x y : Operand} {a b : Int} {k : IntKind}
def andI (k : IntKind) (a b : Int) : Int := k.wrap ((BitVec.ofInt k.bits a &&& BitVec.ofInt k.bits b).toNat : Int)
def orI (k : IntKind) (a b : Int) : Int := k.wrap ((BitVec.ofInt k.bits a ||| BitVec.ofInt k.bits b).toNat : Int)
theorem ok_and (hx : f.ev x = some (.int k a)) (hy : f.ev y = some (.int k b)) : OkP P f ⟨d, .binOp .and t x y t2, ty, pos, af, g⟩ h (.int k (andI k a b)) :=
  fun ρ w ha _ => by simp [execOp, ha _ _ hx, ha _ _ hy, eqGuard_and, binOp_and, Op.intBits, andI]
theorem ok_or (hx : f.ev x = some (.int k a)) (hy : f.ev y = some (.int k b)) : OkP P f ⟨d, .binOp .or t x y t2, ty, pos, af, g⟩ h (.int k (orI k a b)) :=
  fun ρ w ha _ => by simp [execOp, ha _ _ hx, ha _ _ hy, eqGuard_or, binOp_or, Op.intBits, orI]
theorem ok_shlU (hx : f.ev x = some (In a)) (hy : f.ev y = some (.int k b)) (hb : 0 ≤ b ∧ b ≤ 64) (hr : -9223372036854775808 ≤ a * 2 ^ b.toNat ∧ a * 2 ^ b.toNat ≤ 9223372036854775807) : OkP P f ⟨d, .binOp .shl t x y t2, ty, pos, af, g⟩ h (In (a * 2 ^ b.toNat)) :=
  fun ρ w ha _ => by
    have h1 : ¬ b < 0 := by omega
    have h2 : min b.toNat 64 = b.toNat := by omega
    have h3 : (IntKind.i64).bits = 64 := rfl
    have h4 := wrap_i64 _ hr.1 hr.2
    simp [execOp, ha _ _ hx, ha _ _ hy, eqGuard_shl, binOp_shl, Op.shift, h1, h3, h2, h4]
theorem or_byte {n c : Int} (hn : 0 ≤ n ∧ n ≤ 1099511627776) (hc : 0 ≤ c ∧ c ≤ 255) : orI .i64 (n * 256) c = n * 256 + c := by
  obtain ⟨m, rfl⟩ := Int.eq_ofNat_of_zero_le hn.1
  obtain ⟨b, rfl⟩ := Int.eq_ofNat_of_zero_le hc.1
  have h64 : (IntKind.i64).bits = 64 := rfl
  unfold orI
  rw [h64, BitVec.toNat_or, BitVec.toNat_ofInt, BitVec.toNat_ofInt]
  have e1 : ((m : Int) * 256 % ((2 ^ 64 : Nat) : Int)).toNat = m <<< 8 := by rw [Nat.shiftLeft_eq]; omega
  have e2 : ((b : Int) % ((2 ^ 64 : Nat) : Int)).toNat = b := by omega
  rw [e1, e2, ← Nat.shiftLeft_add_eq_or_of_lt (by omega : b < 2 ^ 8), Nat.shiftLeft_eq]
  rw [wrap_i64 _ (by omega) (by omega)]
  omega
end
end Go.RK

/-
  A HELLO (layers 4, 5), as the document writes it.
-/
namespace Go.Proofs.YtdjjpbbhcidaaaaGreatDoor
open Go Go.RK

set_option maxHeartbeats 2000000 in
set_option maxRecDepth 100000 in
theorem clean07 {h : Heap} (s : List UInt8) (hm : s.length ≤ 1000000) : CallsH Tryz.prog 185 ⟨[St s]⟩ h fun u h' => u = .bool (cleanB s) ∧ h' = h := by
  have hci : cleanB s = true ↔ ∀ c ∈ s, c ≠ 0 := by
    unfold cleanB
    rw [Bool.not_eq_true', ← Bool.not_eq_true, List.contains_iff_mem]
    exact ⟨fun z c hc e => z (e ▸ hc), fun z hc => z 0 hc rfl⟩
  refine calls [(0, _)] Tryz.func185 rfl Tryz.ntmps185 rfl ⟨rfl, trivial⟩ ?_
  all_goals (refine WC.sr ?_)
  all_goals (refine Go ?_)
  all_goals (refine WC.seq ?_)
  all_goals (refine WC.sr ?_)
  all_goals (refine Go ?_)
  all_goals (refine WC.block ?_)
  -- loop 0: slots that turn [3], that stay [0]
  all_goals (refine WC.loopG (X := Nat) (fun x => ([(3, In (x : Int))] : Fr)) [(0, _)] (fun k h' => h = h' ∧ k ≤ s.length ∧ ∀ c ∈ s.take k, c ≠ 0) (fun k => s.length - k) (0) ⟨rfl, rfl, trivial⟩ (by exact ⟨rfl, Nat.zero_le _, fun c hc => by cases hc⟩) ?_)
  all_goals (rintro k h2 ⟨e, hk, hn⟩
             subst e)
  all_goals (refine WC.sub [(3, _), (0, _)] ⟨rfl, rfl, trivial⟩ ?_)
  all_goals (refine WC.seq ?_)
  all_goals (refine WC.sr ?_)
  all_goals (refine Go ?_)
  all_goals (refine goC 1 2 ?_ ?_ <;> first | exact ⟨⟩ | refine Hb.mk fun hb => ?_ | skip)
  all_goals (first | (fail_if_success refine goB 1 ?_) | (
  refine goB 1 ?_
  all_goals (refine WC.skip ?_)
  skip))
  all_goals (first | (fail_if_success refine goB 2 ?_) | (
  refine goB 2 ?_
  all_goals (refine WC.exit ?_)
  all_goals (repeat' (with_reducible first | refine thenP_x ?_ | refine blockP_miss rfl ?_ | refine blockP_hit ?_ | refine blockP_n ?_ | refine thenP_n ?_))
  all_goals (refine Br.out (i := 1000) ?_)
  skip))
  all_goals (refine Gn ?_)
  all_goals (first | (refine Br.keep ?_) | (refine Gs [(0, _), (3, _)] ?_))
  all_goals (first | (refine Br.keep ?_) | (refine WC.seq ?_))
  all_goals (first | (refine Br.keep ?_) | (refine WC.block ?_))
  all_goals (first | (refine Br.keep ?_) | (refine WC.seq ?_))
  all_goals (first | (refine Br.keep ?_) | (obtain ⟨y, hy⟩ : ∃ y, s[k]? = some y := ⟨_, List.getElem?_eq_getElem (by omega)⟩))
  all_goals (first | (refine Br.keep ?_) | (refine WC.region ?_))
  all_goals (refine Go ?_)
  all_goals (first | (refine Br.keep ?_) | (refine WL.step (ok_idxS Tryz.underlying9 rfl rfl (by omega) (by assumption)) rfl rfl rfl ?_))
  all_goals (refine Go ?_)
  all_goals (first | (refine Br.keep ?_) | (refine goC 3 4 ?_ ?_ <;> first | exact ⟨⟩ | refine Hb.mk fun hb => ?_ | skip))
  all_goals (first | (fail_if_success refine goB 3 ?_) | (
  refine goB 3 ?_
  all_goals (refine WC.sr ?_)
  all_goals (refine Go ?_)
  all_goals (refine Gs [(2, _)] ?_)
  all_goals (refine Gt ?_)
  all_goals (first
              | (refine ⟨congrArg Value.bool ?_, rfl⟩; symm; rw [hci]; rw [List.take_of_length_le (by omega)] at hn; exact hn)
              | (refine ⟨congrArg Value.bool ?_, rfl⟩; cases hq : cleanB s; rfl; exact absurd (UInt8.toNat_inj.1 (by simpa using hb)) (hci.1 hq _ (List.mem_of_getElem? hy))))
  skip))
  all_goals (first | (fail_if_success refine goB 4 ?_) | (
  refine goB 4 ?_
  all_goals (refine WC.skip ?_)
  skip))
  all_goals (refine Gn ?_)
  all_goals (first | (refine Br.keep ?_) | (refine Gs [(0, _), (3, _)] ?_))
  all_goals (first | (refine Br.keep ?_) | (refine WC.region ?_))
  all_goals (refine Go ?_)
  all_goals (first | (refine Br.keep ?_) | (exact ⟨k + 1, ⟨rfl, rfl, trivial⟩, (by exact ⟨rfl, by omega, fun c hc => by rw [List.take_add_one, hy] at hc; simp only [Option.toList_some, List.mem_append, List.mem_singleton] at hc; rcases hc with hc | rfl; exact hn c hc; exact (fun e => by subst e; simp at *)⟩), (by omega)⟩))
  all_goals (try (refine Br.mk (i := 1000) ?_))
  all_goals (refine Gn ?_)
  all_goals (refine Gs [] ?_)
  all_goals (refine WC.sr ?_)
  all_goals (refine Go ?_)
  all_goals (refine Gt ?_)
  all_goals (first
              | (refine ⟨congrArg Value.bool ?_, rfl⟩; symm; rw [hci]; rw [List.take_of_length_le (by omega)] at hn; exact hn)
              | (refine ⟨congrArg Value.bool ?_, rfl⟩; cases hq : cleanB s; rfl; exact absurd (UInt8.toNat_inj.1 (by simpa using hb)) (hci.1 hq _ (List.mem_of_getElem? hy))))

abbrev userL : List UInt8 := ([117, 115, 101, 114] : List UInt8)
abbrev uL : List UInt8 := ([117] : List UInt8)
set_option maxHeartbeats 2000000 in
set_option maxRecDepth 100000 in
theorem may05 {h : Heap} {p : Nat} (hp : h[p]? = some (.cells ⟨[St userL, St uL]⟩ 125 (0, 0))) : CallsH Tryz.prog 118 ⟨[.agg ⟨[In 196608, In 0, In 0, .slice (some ⟨p, 0, none⟩) 1 1]⟩]⟩ h fun u h' => u = .bool true ∧ Ext No h h' := by
  have c1 := fun h' => clean07 (h := h') userL (by decide)
  have c2 := fun h' => clean07 (h := h') uL (by decide)
  rw [show cleanB userL = true from rfl] at c1
  rw [show cleanB uL = true from rfl] at c2
  refine calls [(0, _)] Tryz.func118 rfl Tryz.ntmps118 rfl ⟨rfl, trivial⟩ ?_
  all_goals (refine WC.sr ?_)
  all_goals (refine WL.stepR (okE_box rfl) rfl rfl rfl ?_
             rintro _ h1 ⟨b1, rfl, hg1, hb1, hx1⟩)
  all_goals (have hp1 := hx1.obj hp nos)
  all_goals (refine Go ?_)
  all_goals (refine WC.seq ?_)
  all_goals (refine WC.sr ?_)
  all_goals (refine Go ?_)
  all_goals (refine WC.block ?_)
  -- loop 0: slots that turn [3], that stay [1]
  all_goals (refine WC.loopG (X := Nat) (fun x => ([(3, In (x : Int))] : Fr)) [(1, _)] (fun k h' => h' = h1 ∧ k ≤ 1) (fun k => 1 - k) (0) ⟨rfl, rfl, trivial⟩ (by exact ⟨rfl, Nat.zero_le _⟩) ?_)
  all_goals (rintro k h2 ⟨hz, hk⟩
             subst hz)
  all_goals (refine WC.sub [(3, _), (1, _)] ⟨rfl, rfl, trivial⟩ ?_)
  all_goals (refine WC.seq ?_)
  all_goals (refine WC.sr ?_)
  all_goals (refine Go ?_)
  all_goals (refine WL.ld rfl (by first | exact cell_blk hb1 rfl | assumption | exact cell_blk (by assumption) rfl) rfl rfl rfl ?_)
  all_goals (refine Go ?_)
  all_goals (refine Gs [(1, _), (3, _), (9, _)] ?_)
  all_goals (refine goC 1 2 ?_ ?_ <;> first | exact ⟨⟩ | refine Hb.mk fun hb => ?_ | skip)
  all_goals (first | (fail_if_success refine goB 1 ?_) | (
  refine goB 1 ?_
  all_goals (refine WC.skip ?_)
  skip))
  all_goals (first | (fail_if_success refine goB 2 ?_) | (
  refine goB 2 ?_
  all_goals (refine WC.exit ?_)
  all_goals (repeat' (with_reducible first | refine thenP_x ?_ | refine blockP_miss rfl ?_ | refine blockP_hit ?_ | refine blockP_n ?_ | refine thenP_n ?_))
  all_goals (refine Br.out (i := 1000) ?_)
  skip))
  all_goals (refine Gn ?_)
  all_goals (first | (refine Br.keep ?_) | (refine WC.seq ?_))
  all_goals (first | (refine Br.keep ?_) | (refine WC.block ?_))
  all_goals (first | (refine Br.keep ?_) | (refine WC.sr ?_))
  all_goals (first | (refine Br.keep ?_) | (obtain rfl : k = 0 := by omega))
  all_goals (first | (refine Br.keep ?_) | (refine WL.step (ok_fieldAddr rfl Tryz.underlying69 rfl (fun w => Tryz.sizeOf28 w)) rfl rfl rfl ?_))
  all_goals (first | (refine Br.keep ?_) | (refine WL.ld rfl (by first | exact cell_blk hb1 rfl | assumption | exact cell_blk (by assumption) rfl) rfl rfl rfl ?_))
  all_goals (refine Go ?_)
  all_goals (first | (refine Br.keep ?_) | (refine WL.step (ok_idxAddrA Tryz.underlying28 (fun w => Tryz.sizeOf125 w) rfl rfl rfl (by omega) (by first | rfl | assumption)) rfl rfl rfl ?_))
  all_goals (refine Go ?_)
  all_goals (first | (refine Br.keep ?_) | (refine WL.ld rfl (by first | exact cell_blk hp1 rfl | assumption | exact cell_blk (by assumption) rfl) rfl rfl rfl ?_))
  all_goals (refine Go ?_)
  all_goals (first | (refine Br.keep ?_) | (refine goP 19 ?_ ?_ <;> first | exact ⟨⟩ | refine Hb.mk fun hb => ?_ | skip))
  all_goals (refine Gg ?_)
  all_goals (first | (refine Br.keep ?_) | (first | (refine WL.pass rfl rfl rfl ?_) | (refine WL.ld rfl (by first | exact cell_blk hb1 rfl | assumption | exact cell_blk (by assumption) rfl) rfl rfl rfl ?_)))
  all_goals (refine Gg ?_)
  all_goals (first | (refine Br.keep ?_) | (first | (refine WL.pass rfl rfl rfl ?_) | (refine WL.step (ok_idxAddrA Tryz.underlying28 (fun w => Tryz.sizeOf125 w) rfl rfl rfl (by omega) (by first | rfl | assumption)) rfl rfl rfl ?_)))
  all_goals (refine Gg ?_)
  all_goals (first | (refine Br.keep ?_) | (first | (refine WL.pass rfl rfl rfl ?_) | (refine WL.ld rfl (by first | exact cell_blk hp1 rfl | assumption | exact cell_blk (by assumption) rfl) rfl rfl rfl ?_)))
  all_goals (first
               | (refine Br.keep ?_)
               | (first
                    | (refine WL.pass rfl rfl rfl ?_)
                    | (refine WL.call (vs := [_]) rfl (fun a w => Tryz.call185 a w) rfl (c1 _) rfl rfl rfl ?_
                       rintro _ hq ⟨rfl, hz1⟩
                       subst hz1)))
  all_goals (refine Gg ?_)
  all_goals (refine Go ?_)
  all_goals (first | (refine Br.keep ?_) | (refine goP 29 ?_ ?_ <;> first | exact ⟨⟩ | refine Hb.mk fun hb => ?_ | skip))
  all_goals (refine Gg ?_)
  all_goals (first | (refine Br.keep ?_) | (first | (refine WL.pass rfl rfl rfl ?_) | (refine WL.ld rfl (by first | exact cell_blk hb1 rfl | assumption | exact cell_blk (by assumption) rfl) rfl rfl rfl ?_)))
  all_goals (refine Gg ?_)
  all_goals (first | (refine Br.keep ?_) | (first | (refine WL.pass rfl rfl rfl ?_) | (refine WL.step (ok_idxAddrA Tryz.underlying28 (fun w => Tryz.sizeOf125 w) rfl rfl rfl (by omega) (by first | rfl | assumption)) rfl rfl rfl ?_)))
  all_goals (refine Gg ?_)
  all_goals (first | (refine Br.keep ?_) | (first | (refine WL.pass rfl rfl rfl ?_) | (refine WL.ld rfl (by first | exact cell_blk hp1 rfl | assumption | exact cell_blk (by assumption) rfl) rfl rfl rfl ?_)))
  all_goals (first
               | (refine Br.keep ?_)
               | (first
                    | (refine WL.pass rfl rfl rfl ?_)
                    | (refine WL.call (vs := [_]) rfl (fun a w => Tryz.call185 a w) rfl (c2 _) rfl rfl rfl ?_
                       rintro _ hq ⟨rfl, hz1⟩
                       subst hz1)))
  all_goals (refine Gg ?_)
  all_goals (refine Go ?_)
  all_goals (first | (refine Br.keep ?_) | (refine Gs [(1, _), (3, _), (38, _)] ?_))
  all_goals (first | (refine Br.keep ?_) | (refine goC 3 4 ?_ ?_ <;> first | exact ⟨⟩ | refine Hb.mk fun hb => ?_ | skip))
  all_goals (first | (fail_if_success refine goB 3 ?_) | (
  refine goB 3 ?_
  all_goals (refine WC.sr ?_)
  all_goals (refine Go ?_)
  all_goals (refine Gt ?_)
  all_goals (first | exact ⟨rfl, hx1⟩ | (exfalso; simp_all))
  skip))
  all_goals (first | (fail_if_success refine goB 4 ?_) | (
  refine goB 4 ?_
  all_goals (refine WC.skip ?_)
  skip))
  all_goals (refine Gn ?_)
  all_goals (first | (refine Br.keep ?_) | (refine WC.region ?_))
  all_goals (refine Go ?_)
  all_goals (first | (refine Br.keep ?_) | (exact ⟨0 + 1, ⟨rfl, rfl, trivial⟩, (by exact ⟨rfl, by omega⟩), (by omega)⟩))
  all_goals (try (refine Br.mk (i := 1000) ?_))
  all_goals (refine Gn ?_)
  all_goals (refine WC.sr ?_)
  all_goals (refine Go ?_)
  all_goals (refine WL.ld rfl (by first | exact cell_blk hb1 rfl | assumption | exact cell_blk (by assumption) rfl) rfl rfl rfl ?_)
  all_goals (refine Go ?_)
  all_goals (refine goP 42 ?_ ?_ <;> first | exact ⟨⟩ | refine Hb.mk fun hb => ?_ | skip)
  all_goals (refine Gg ?_)
  all_goals (first | (refine WL.pass rfl rfl rfl ?_) | (refine WL.ld rfl (by first | exact cell_blk hb1 rfl | assumption | exact cell_blk (by assumption) rfl) rfl rfl rfl ?_))
  all_goals (refine Gg ?_)
  all_goals (refine Go ?_)
  all_goals (refine Gs [(1, _), (4, _)] ?_)
  all_goals (refine WC.seq ?_)
  all_goals (refine WC.sr ?_)
  all_goals (refine Go ?_)
  all_goals (refine WL.ld rfl (by first | exact cell_blk hb1 rfl | assumption | exact cell_blk (by assumption) rfl) rfl rfl rfl ?_)
  all_goals (refine Gn ?_)
  all_goals (refine WC.block ?_)
  all_goals (refine WC.sr ?_)
  all_goals (refine Go ?_)
  all_goals (refine goC 5 6 ?_ ?_ <;> first | exact ⟨⟩ | refine Hb.mk fun hb => ?_ | skip)
  all_goals (first | (fail_if_success refine goB 5 ?_) | (
  refine goB 5 ?_
  all_goals (refine WC.sr ?_)
  all_goals (refine Go ?_)
  all_goals (refine Gs [(2, _)] ?_)
  all_goals (refine Gt ?_)
  all_goals (first | exact ⟨rfl, hx1⟩ | (exfalso; simp_all))
  skip))
  all_goals (first | (fail_if_success refine goB 6 ?_) | (
  refine goB 6 ?_
  all_goals (refine WC.sr ?_)
  all_goals (refine Go ?_)
  all_goals (refine Gs [(1, _), (4, _), (48, _), (52, _)] ?_)
  all_goals (refine goC 7 8 ?_ ?_ <;> first | exact ⟨⟩ | refine Hb.mk fun hb => ?_ | skip)
  all_goals (first | (fail_if_success refine goB 7 ?_) | (
  refine goB 7 ?_
  all_goals (refine WC.sr ?_)
  all_goals (refine Go ?_)
  all_goals (refine goP 55 ?_ ?_ <;> first | exact ⟨⟩ | refine Hb.mk fun hb => ?_ | skip)
  all_goals (refine Gg ?_)
  all_goals (first | (refine WL.pass rfl rfl rfl ?_) | (refine Ld ?_))
  all_goals (refine Gg ?_)
  all_goals (refine Go ?_)
  all_goals (refine Gs [(2, _)] ?_)
  all_goals (refine Gt ?_)
  all_goals (first | exact ⟨rfl, hx1⟩ | (exfalso; simp_all))
  skip))
  all_goals (first | (fail_if_success refine goB 8 ?_) | (
  refine goB 8 ?_
  all_goals (refine WC.sr ?_)
  all_goals (refine Go ?_)
  all_goals (refine Gs [(1, _), (61, _)] ?_)
  all_goals (refine goC 9 10 ?_ ?_ <;> first | exact ⟨⟩ | refine Hb.mk fun hb => ?_ | skip)
  all_goals (first | (fail_if_success refine goB 9 ?_) | (
  refine goB 9 ?_
  all_goals (refine WC.sr ?_)
  all_goals (refine Go ?_)
  all_goals (refine Ld ?_)
  all_goals (refine Go ?_)
  all_goals (refine goP 67 ?_ ?_ <;> first | exact ⟨⟩ | refine Hb.mk fun hb => ?_ | skip)
  all_goals (refine Gg ?_)
  all_goals (first | (refine WL.pass rfl rfl rfl ?_) | (refine Ld ?_))
  all_goals (refine Gg ?_)
  all_goals (refine Go ?_)
  all_goals (refine goP 72 ?_ ?_ <;> first | exact ⟨⟩ | refine Hb.mk fun hb => ?_ | skip)
  all_goals (refine Gg ?_)
  all_goals (first | (refine WL.pass rfl rfl rfl ?_) | (refine Ld ?_))
  all_goals (refine Gg ?_)
  all_goals (refine Go ?_)
  all_goals (refine goP 77 ?_ ?_ <;> first | exact ⟨⟩ | refine Hb.mk fun hb => ?_ | skip)
  all_goals (refine Gg ?_)
  all_goals (first | (refine WL.pass rfl rfl rfl ?_) | (refine Ld ?_))
  all_goals (first | (refine WL.pass rfl rfl rfl ?_) | (fail "no contract for call of remuda/remudaref01.Right at 13.17"))
  all_goals (refine Go ?_)
  all_goals (refine goP 82 ?_ ?_ <;> first | exact ⟨⟩ | refine Hb.mk fun hb => ?_ | skip)
  all_goals (refine Gg ?_)
  all_goals (first | (refine WL.pass rfl rfl rfl ?_) | (refine Ld ?_))
  all_goals (first | (refine WL.pass rfl rfl rfl ?_) | (fail "no contract for call of remuda/remudaref01.Right at 13.22"))
  all_goals (refine Go ?_)
  all_goals (refine Gs [(2, _)] ?_)
  all_goals (refine Gt ?_)
  all_goals (first | exact ⟨rfl, hx1⟩ | (exfalso; simp_all))
  skip))
  all_goals (first | (fail_if_success refine goB 10 ?_) | (
  refine goB 10 ?_
  all_goals (refine WC.skip ?_)
  skip))
  skip))
  skip))
  all_goals (refine Gn ?_)
  all_goals (refine WC.sr ?_)
  all_goals (refine Go ?_)
  all_goals (refine Gt ?_)
  all_goals (first | exact ⟨rfl, hx1⟩ | (exfalso; simp_all))
abbrev body5 : List UInt8 := [0, 3, 0, 0, 117, 115, 101, 114, 0, 117, 0, 0]
set_option maxHeartbeats 2000000 in
set_option maxRecDepth 100000 in
theorem build05 {h : Heap} {p : Nat} (hp : h[p]? = some (.cells ⟨[St userL, St uL]⟩ 125 (0, 0))) : CallsH Tryz.prog 69 ⟨[.agg ⟨[In 196608, In 0, In 0, .slice (some ⟨p, 0, none⟩) 1 1]⟩]⟩ h fun u h' => ∃ v, u = .tuple ⟨[v, In 0]⟩ ∧ Own h' v 5 1 12 (bys body5) ∧ Ext No h h' := by
  have lu1 : userL.length = 4 := rfl
  have lu2 : uL.length = 1 := rfl
  have km := fun (g : Heap) (x : Ext No h g) => may05 (x.obj hp nos)
  refine calls [(0, _)] Tryz.func69 rfl Tryz.ntmps69 rfl ⟨rfl, trivial⟩ ?_
  all_goals (refine WC.sr ?_)
  all_goals (refine WL.stepR (okE_box rfl) rfl rfl rfl ?_
             rintro _ h1 ⟨b1, rfl, hg1, hb1, hx1⟩)
  all_goals (refine Go ?_)
  all_goals (refine WC.seq ?_)
  all_goals (refine WC.sr ?_)
  all_goals (refine WL.step (ok_loadN (fun w => Tryz.isAgg69 w) (fun w => Tryz.sizeOf69 w) rfl rfl (by exact At.of_block hb1)) rfl rfl rfl ?_)
  all_goals (refine WL.call (vs := [_]) rfl (fun a w => Tryz.call118 a w) rfl (km _ hx1) rfl rfl rfl ?_
             rintro _ h2 ⟨rfl, hx2⟩)
  all_goals (have hb12 := hx2.obj hb1 nos
             have X2 := hx1.trans hx2)
  all_goals (refine Go ?_)
  all_goals (refine Gs [(1, _), (8, _)] ?_)
  all_goals (refine goC 1 2 ?_ ?_ <;> first | exact ⟨⟩ | refine Hb.mk fun hb => ?_ | skip)
  all_goals (first | (fail_if_success refine goB 1 ?_) | (
  refine goB 1 ?_
  all_goals (refine WC.sr ?_)
  all_goals (refine Go ?_)
  all_goals (refine Gt ?_)
  all_goals (exact ⟨v7, rfl, ho7, (X2.trans (X4.trans hx6)).trans' hx7 (fun q hq e => by have := f4 q e; have := X2.size; omega)⟩)
  skip))
  all_goals (first | (fail_if_success refine goB 2 ?_) | (
  refine goB 2 ?_
  all_goals (refine WC.skip ?_)
  skip))
  all_goals (refine Gn ?_)
  all_goals (refine WC.sr ?_)
  all_goals (refine Go ?_)
  all_goals (refine WL.ld rfl (by first | exact cell_blk hb12 rfl | assumption | exact cell_blk (by assumption) rfl) rfl rfl rfl ?_)
  all_goals (refine WL.call (vs := [_, _, _]) rfl (fun a w => Tryz.call119 a w) rfl (put01 [] 196608 4 (.inr (.inr rfl)) (by unfold Rt; decide) (Rd.nil _ _) (by decide)) rfl rfl rfl ?_
             rintro v3 h3 ⟨ho3, hx3, hf3⟩
             have ho3 : Own h3 v3 5 1 4 (bys [0, 3, 0, 0]) := ho3)
  all_goals (have hb13 := hx3.obj hb12 nos
             have X3 := X2.trans hx3)
  all_goals (refine Go ?_)
  all_goals (refine Gs [(1, _), (4, _)] ?_)
  all_goals (refine WC.seq ?_)
  all_goals (refine WC.sr ?_)
  all_goals (refine Go ?_)
  all_goals (refine WL.ld rfl (by first | exact cell_blk hb13 rfl | assumption | exact cell_blk (by assumption) rfl) rfl rfl rfl ?_)
  all_goals (refine Gn ?_)
  all_goals (refine WC.block ?_)
  all_goals (refine WC.sr ?_)
  all_goals (refine Go ?_)
  all_goals (refine goC 3 4 ?_ ?_ <;> first | exact ⟨⟩ | refine Hb.mk fun hb => ?_ | skip)
  all_goals (first | (fail_if_success refine goB 3 ?_) | (
  refine goB 3 ?_
  all_goals (refine WC.seq ?_)
  all_goals (refine WC.sr ?_)
  all_goals (refine Go ?_)
  all_goals (refine Gs [(1, _), (4, _), (5, _)] ?_)
  all_goals (refine WC.block ?_)
  -- loop 0: slots that turn [4, 5], that stay [1]
  all_goals (refine WC.loopG (X := Nat × Value) (fun x => ([(5, In (x.1 : Int)), (4, x.2)] : Fr)) [(1, _)] (fun x h' => (x.1 = 0 ∧ x.2 = v3 ∧ h' = h3) ∨ (x.1 = 1 ∧ Own h' x.2 5 1 11 (bys [0, 3, 0, 0, 117, 115, 101, 114, 0, 117, 0]) ∧ Ext No h2 h' ∧ ∀ q, x.2.ownBlock = some q → h2.size ≤ q)) (fun x => 1 - x.1) ((0, v3)) ⟨rfl, rfl, rfl, trivial⟩ (by exact .inl ⟨rfl, rfl, rfl⟩) ?_)
  all_goals (rintro ⟨k, w⟩ h4 hI
             dsimp only at hI
             have X4 : Ext No h2 h4 := by rcases hI with ⟨_, _, rfl⟩ | ⟨_, _, x, _⟩; exact hx3; exact x
             have hb14 := X4.obj hb12 nos
             have hp4 := (X2.trans X4).obj hp nos)
  all_goals (refine WC.sub [(4, _), (5, _), (1, _)] ⟨rfl, rfl, rfl, trivial⟩ ?_)
  all_goals (dsimp only)
  all_goals (refine WC.seq ?_)
  all_goals (refine WC.sr ?_)
  all_goals (refine Go ?_)
  all_goals (refine WL.ld rfl (by first | exact cell_blk hb14 rfl | assumption | exact cell_blk (by assumption) rfl) rfl rfl rfl ?_)
  all_goals (refine Go ?_)
  all_goals (refine Gs [(1, _), (4, _), (5, _), (20, _)] ?_)
  all_goals (refine goC 5 6 ?_ ?_ <;> first | exact ⟨⟩ | refine Hb.mk fun hb => ?_ | skip)
  all_goals (first | (fail_if_success refine goB 5 ?_) | (
  refine goB 5 ?_
  all_goals (refine WC.skip ?_)
  skip))
  all_goals (first | (fail_if_success refine goB 6 ?_) | (
  refine goB 6 ?_
  all_goals (refine WC.exit ?_)
  all_goals (repeat' (with_reducible first | refine thenP_x ?_ | refine blockP_miss rfl ?_ | refine blockP_hit ?_ | refine blockP_n ?_ | refine thenP_n ?_))
  all_goals (refine Br.out (i := 1001) ?_)
  skip))
  all_goals (refine Gn ?_)
  all_goals (first | (refine Br.keep ?_) | (refine WC.seq ?_))
  all_goals (first | (refine Br.keep ?_) | (refine WC.block ?_))
  all_goals (first | (refine Br.keep ?_) | (refine WC.sr ?_))
  all_goals (first | (refine Br.keep ?_) | (obtain ⟨rfl, rfl, rfl⟩ : k = 0 ∧ w = v3 ∧ h4 = h3 := by rcases hI with e | ⟨e, _⟩; exact e; exfalso; omega))
  all_goals (first | (refine Br.keep ?_) | (refine WL.step (ok_move rfl) rfl rfl rfl ?_))
  all_goals (refine Go ?_)
  all_goals (first | (refine Br.keep ?_) | (refine WL.ld rfl (by first | exact cell_blk hb14 rfl | assumption | exact cell_blk (by assumption) rfl) rfl rfl rfl ?_))
  all_goals (refine Go ?_)
  all_goals (first | (refine Br.keep ?_) | (refine WL.step (ok_idxAddrA Tryz.underlying28 (fun w => Tryz.sizeOf125 w) rfl rfl rfl (by omega) (by first | rfl | assumption)) rfl rfl rfl ?_))
  all_goals (refine Go ?_)
  all_goals (first | (refine Br.keep ?_) | (refine WL.ld rfl (by first | exact cell_blk hp4 rfl | assumption | exact cell_blk (by assumption) rfl) rfl rfl rfl ?_))
  all_goals (first
               | (refine Br.keep ?_)
               | (refine WL.stepR (okE_appendS rfl Tryz.underlying22 Tryz.underlying9 (show Tryz.prog.info? 5 = some Tryz.t5 by kernel_rfl) rfl rfl rfl rfl rfl ho3 (by omega)) rfl rfl rfl ?_
                  rintro v5 h5 ⟨ho5, hx5, hf5, _⟩
                  have ho5 : Own h5 v5 5 1 8 (bys [0, 3, 0, 0, 117, 115, 101, 114]) := ho5
                  have X5 : Ext No h2 h5 := hx3.trans' hx5 (fun q hq e => by have := hf3 q e; omega)
                  have f5 : ∀ q, v5.ownBlock = some q → h2.size ≤ q := fun q hq => (hf5 q hq).elim (hf3 q) (fun e => by have := hx3.size; omega)))
  all_goals (first
               | (refine Br.keep ?_)
               | (refine WL.stepR (okE_buildSlice (vs := [_]) (cs := [_]) (fun | [a0] => [a0] | _ => []) Tryz.underlying22 rfl rfl (by kernel_rfl)) rfl rfl rfl ?_
                  rintro _ h6 ⟨b6, rfl, hg6, hb6, hx6⟩))
  all_goals (first
               | (refine Br.keep ?_)
               | (refine WL.stepR (ok_append (sz := 1) (bytes := 1) rfl Tryz.underlying22 (show Tryz.prog.info? 5 = some Tryz.t5 by kernel_rfl) rfl rfl rfl rfl (by decide) rfl rfl (ho5.ext hx6 (fun _ _ => nos)) (rd_blk (len := 1) (sz := 1) (cs := [.int .u8 0]) hb6 rfl) (by simp [Value.oneCell']) (by simp only [maxLen]; omega) (by omega)) rfl rfl rfl ?_
                  rintro v7 h7 ⟨ho7, hx7, hl7⟩
                  have ho7 : Own h7 v7 5 1 9 (bys [0, 3, 0, 0, 117, 115, 101, 114, 0]) := ho7
                  have X7 : Ext No h2 h7 := (X5.trans hx6).trans' hx7 (fun q hq e => by have := f5 q e; omega)
                  have f7 := fresh_of hl7 f5 (X5.trans hx6).size))
  all_goals (refine Go ?_)
  all_goals (first | (refine Br.keep ?_) | (refine Gs [(1, _), (4, _), (5, _)] ?_))
  all_goals (first | (refine Br.keep ?_) | (refine WC.region ?_))
  all_goals (refine Go ?_)
  all_goals (first | (refine Br.keep ?_) | (refine WL.ld rfl (by first | exact cell_blk (X7.obj hb12 nos) rfl | assumption | exact cell_blk (by assumption) rfl) rfl rfl rfl ?_))
  all_goals (refine Go ?_)
  all_goals (first | (refine Br.keep ?_) | (refine WL.step (ok_idxAddrA Tryz.underlying28 (fun w => Tryz.sizeOf125 w) rfl rfl rfl (by omega) (by first | rfl | assumption)) rfl rfl rfl ?_))
  all_goals (refine Go ?_)
  all_goals (first | (refine Br.keep ?_) | (refine WL.ld rfl (by first | exact cell_blk ((X2.trans X7).obj hp nos) rfl | assumption | exact cell_blk (by assumption) rfl) rfl rfl rfl ?_))
  all_goals (first
               | (refine Br.keep ?_)
               | (refine WL.stepR (okE_appendS rfl Tryz.underlying22 Tryz.underlying9 (show Tryz.prog.info? 5 = some Tryz.t5 by kernel_rfl) rfl rfl rfl rfl rfl ho7 (by omega)) rfl rfl rfl ?_
                  rintro v8 h8 ⟨ho8, hx8, hf8, _⟩
                  have ho8 : Own h8 v8 5 1 10 (bys [0, 3, 0, 0, 117, 115, 101, 114, 0, 117]) := ho8
                  have X8 : Ext No h2 h8 := X7.trans' hx8 (fun q hq e => by have := f7 q e; omega)
                  have f8 : ∀ q, v8.ownBlock = some q → h2.size ≤ q := fun q hq => (hf8 q hq).elim (f7 q) (fun e => by have := X7.size; omega)))
  all_goals (first
               | (refine Br.keep ?_)
               | (refine WL.stepR (okE_buildSlice (vs := [_]) (cs := [_]) (fun | [a0] => [a0] | _ => []) Tryz.underlying22 rfl rfl (by kernel_rfl)) rfl rfl rfl ?_
                  rintro _ h9 ⟨b9, rfl, hg9, hb9, hx9⟩))
  all_goals (first
               | (refine Br.keep ?_)
               | (refine WL.stepR (ok_append (sz := 1) (bytes := 1) rfl Tryz.underlying22 (show Tryz.prog.info? 5 = some Tryz.t5 by kernel_rfl) rfl rfl rfl rfl (by decide) rfl rfl (ho8.ext hx9 (fun _ _ => nos)) (rd_blk (len := 1) (sz := 1) (cs := [.int .u8 0]) hb9 rfl) (by simp [Value.oneCell']) (by simp only [maxLen]; omega) (by omega)) rfl rfl rfl ?_
                  rintro v10 h10 ⟨ho10, hx10, hl10⟩
                  have ho10 : Own h10 v10 5 1 11 (bys [0, 3, 0, 0, 117, 115, 101, 114, 0, 117, 0]) := ho10
                  have X10 : Ext No h2 h10 := (X8.trans hx9).trans' hx10 (fun q hq e => by have := f8 q e; omega)
                  have f10 := fresh_of hl10 f8 (X8.trans hx9).size))
  all_goals (refine Go ?_)
  all_goals (first | (refine Br.keep ?_) | (refine Gs [(1, _), (4, _), (5, _)] ?_))
  all_goals (first | (refine Br.keep ?_) | (refine WC.region ?_))
  all_goals (refine Go ?_)
  all_goals (first | (refine Br.keep ?_) | (exact ⟨(0 + 1, _), ⟨rfl, rfl, rfl, trivial⟩, (by exact .inr ⟨rfl, ho10, X10, f10⟩), (by first | omega | (dsimp only; omega) | simp)⟩))
  all_goals (try (refine Br.mk (i := 1001) ?_))
  all_goals (refine Gn ?_)
  all_goals (refine WC.region ?_)
  all_goals (refine Go ?_)
  all_goals (refine WL.stepR (okE_buildSlice (vs := [_]) (cs := [_]) (fun | [a0] => [a0] | _ => []) Tryz.underlying22 rfl rfl (by kernel_rfl)) rfl rfl rfl ?_
             rintro _ h6 ⟨b6, rfl, hg6, hb6, hx6⟩)
  all_goals (obtain ⟨ek, ho4, f4⟩ : k = 1 ∧ Own h4 w 5 1 11 (bys [0, 3, 0, 0, 117, 115, 101, 114, 0, 117, 0]) ∧ ∀ q, w.ownBlock = some q → h2.size ≤ q := by rcases hI with ⟨e, _⟩ | ⟨e, o, _, f⟩; exfalso; omega; exact ⟨e, o, f⟩)
  all_goals (refine WL.stepR (ok_append (sz := 1) (bytes := 1) rfl Tryz.underlying22 (show Tryz.prog.info? 5 = some Tryz.t5 by kernel_rfl) rfl rfl rfl rfl (by decide) rfl rfl (ho4.ext hx6 (fun _ _ => nos)) (rd_blk (len := 1) (sz := 1) (cs := [.int .u8 0]) hb6 rfl) (by simp [Value.oneCell']) (by simp only [maxLen]; omega) (by omega)) rfl rfl rfl ?_
             rintro v7 h7 ⟨ho7, hx7, hl7⟩
             have ho7 : Own h7 v7 5 1 12 (bys body5) := ho7)
  all_goals (refine Go ?_)
  skip))
  all_goals (first | (fail_if_success refine goB 4 ?_) | (
  refine goB 4 ?_
  all_goals (refine WC.sr ?_)
  all_goals (refine Go ?_)
  all_goals (refine Gs [(1, _), (4, _), (46, _)] ?_)
  all_goals (refine goC 7 8 ?_ ?_ <;> first | exact ⟨⟩ | refine Hb.mk fun hb => ?_ | skip)
  all_goals (first | (fail_if_success refine goB 8 ?_) | (
  refine goB 8 ?_
  all_goals (refine WC.skip ?_)
  skip))
  skip))
  all_goals (refine Gn ?_)
  all_goals (refine WC.sr ?_)
  all_goals (refine Go ?_)
  all_goals (refine Gt ?_)
  all_goals (exact ⟨v7, rfl, ho7, (X2.trans (X4.trans hx6)).trans' hx7 (fun q hq e => by have := f4 q e; have := X2.size; omega)⟩)
abbrev helloL : List UInt8 := [0, 0, 0, 16, 0, 3, 0, 0, 117, 115, 101, 114, 0, 117, 0, 0]
set_option maxHeartbeats 2000000 in
set_option maxRecDepth 100000 in
theorem bytes04_0 {h : Heap} {v : Value} (hv : Rd h v 1 12 (bys body5)) : CallsH Tryz.prog 70 ⟨[.agg ⟨[.int .u8 0, v]⟩]⟩ h fun u h' => Own h' u 5 1 16 (bys helloL) ∧ Ext No h h' ∧ ∀ q, u.ownBlock = some q → h.size ≤ q := by
  obtain ⟨A, c, rfl, _⟩ := id hv
  refine calls [(0, _)] Tryz.func70 rfl Tryz.ntmps70 rfl ⟨rfl, trivial⟩ ?_
  all_goals (refine WC.sr ?_)
  all_goals (refine WL.stepR (okE_box rfl) rfl rfl rfl ?_
             rintro _ h1 ⟨b1, rfl, hg1, hb1, hx1⟩)
  all_goals (refine Go ?_)
  all_goals (refine WC.sr ?_)
  all_goals (refine Go ?_)
  all_goals (refine WC.seq ?_)
  all_goals (refine WC.sr ?_)
  all_goals (refine Go ?_)
  all_goals (refine WL.ld rfl (by first | exact cell_blk hb1 rfl | assumption | exact cell_blk (by assumption) rfl) rfl rfl rfl ?_)
  all_goals (refine Go ?_)
  all_goals (refine Gs [(1, _), (3, _), (6, _)] ?_)
  all_goals (refine goC 1 2 ?_ ?_ <;> first | exact ⟨⟩ | refine Hb.mk fun hb => ?_ | skip)
  all_goals (first | (fail_if_success refine goB 1 ?_) | (
  refine goB 1 ?_
  all_goals (refine WC.region ?_)
  all_goals (refine Go ?_)
  all_goals (refine Ld ?_)
  all_goals (refine WL.stepR (okE_buildSlice (vs := [_]) (cs := [_]) (fun | [a0] => [a0] | _ => []) Tryz.underlying22 rfl rfl (by kernel_rfl)) rfl rfl rfl ?_
             rintro _ h1 ⟨b1, rfl, hg1, hb1, hx1⟩)
  all_goals (refine WL.stepR (ok_append (sz := 1) (bytes := 1) rfl Tryz.underlying22 (show Tryz.prog.info? 5 = some Tryz.t5 by kernel_rfl) rfl rfl rfl rfl (by decide) rfl rfl (by assumption) (by first | assumption | exact rd_blk (by assumption) rfl) (by simp [Value.oneCell']) (by simp only [maxLen]; omega) (by omega)) rfl rfl rfl ?_
             rintro v1 h1 ⟨ho1, hx1, hl1⟩)
  all_goals (refine Go ?_)
  skip))
  all_goals (first | (fail_if_success refine goB 2 ?_) | (
  refine goB 2 ?_
  all_goals (refine WC.skip ?_)
  skip))
  all_goals (refine Gn ?_)
  all_goals (refine WC.seq ?_)
  all_goals (refine WC.drawH (fun h' => Ext No h1 h') 9 10 rfl fol ?_)
  all_goals (refine WH.tk 0 rfl (fun hq hC => ok_move rfl) rfl rfl rfl ?_)
  all_goals (refine WH.tk 1 rfl (fun hq hC => ok_fieldAddr rfl Tryz.underlying38 rfl (fun w => Tryz.sizeOf22 w)) rfl rfl rfl ?_)
  all_goals (refine WH.tk 2 rfl (fun hq hC => ok_load (fun w => Tryz.isAgg22 w) rfl (by first | exact hC.cell (by first | exact cell_blk hb1 rfl | assumption | exact cell_blk (by assumption) rfl) nos)) rfl rfl rfl ?_)
  all_goals (refine WH.tk 3 rfl (fun hq hC => ok_lenL rfl Tryz.underlying22 rfl) rfl rfl rfl ?_)
  all_goals (first | (refine WH.tk 4 rfl (fun hq hC => ok_addI rfl rfl (by omega)) rfl rfl rfl ?_) | (refine WH.tk 4 rfl (fun hq hC => ok_add rfl rfl) rfl rfl rfl ?_))
  all_goals (refine WH.tk 6 rfl (fun hq hC => ok_fieldAddr rfl Tryz.underlying38 rfl (fun w => Tryz.sizeOf22 w)) rfl rfl rfl ?_)
  all_goals (refine WH.tk 7 rfl (fun hq hC => ok_load (fun w => Tryz.isAgg22 w) rfl (by first | exact hC.cell (by first | exact cell_blk hb1 rfl | assumption | exact cell_blk (by assumption) rfl) nos)) rfl rfl rfl ?_)
  all_goals (refine WH.one 5 (by kernel_rfl) ?_)
  all_goals (refine Comes1.call (vs := [_, _, _]) rfl rfl (fun a w => Tryz.call119 a w) rfl (put01 [] 16 4 (.inr (.inr rfl)) (by unfold Rt; decide) (Rd.nil _ _) (by decide)) rfl rfl rfl ?_ (fun _ => by kernel_rfl)
             rintro v5 h5 ⟨ho5, hx5, hf5⟩
             have ho5 : Own h5 v5 5 1 4 (bys [0, 0, 0, 16]) := ho5)
  all_goals (refine ⟨fun _ => hx5, ?_⟩)
  all_goals (refine WH.one 8 (by kernel_rfl) ?_)
  all_goals (refine Comes1.run rfl (ok_append (sz := 1) (bytes := 1) rfl Tryz.underlying22 (show Tryz.prog.info? 5 = some Tryz.t5 by kernel_rfl) rfl rfl rfl rfl (by decide) rfl rfl ho5 (hv.ext0 (hx1.trans hx5)) (by intro c hc; obtain ⟨b, _, rfl⟩ := List.mem_map.1 hc; rfl) (by simp only [maxLen]; omega) (by omega)) rfl rfl rfl ?_ (fun _ => by kernel_rfl)
             rintro v8 h8 ⟨ho8, hx8, hl8⟩
             have ho8 : Own h8 v8 5 1 16 (bys helloL) := ho8)
  all_goals (refine ⟨fun _ => hx5.trans' hx8 (fun q hq e => by have := hf5 q e; omega), ?_⟩)
  all_goals (have hX8 := hx5.trans' hx8 (fun q hq e => by have := hf5 q e; omega))
  all_goals (refine WH.one 9 (by kernel_rfl) ?_)
  all_goals (refine Comes1.run rfl (OkP.r (ok_assign rfl)) rfl rfl rfl ?_ (fun _ => by kernel_rfl)
             rintro _ hz ⟨rfl, _⟩
             subst hz)
  all_goals (refine ⟨fun _ => hX8, ?_⟩)
  all_goals (refine WH.done (by kernel_rfl) ?_)
  all_goals (refine Gn ?_)
  all_goals (refine Gs [(2, _)] ?_)
  all_goals (refine Gt ?_)
  all_goals (exact ⟨ho8, hx1.trans hX8, fresh_of hl8 (fun q hq => by have := hf5 q hq; have := hx1.size; omega) (by have := hx1.size; have := hx5.size; omega)⟩)
set_option maxHeartbeats 2000000 in
set_option maxRecDepth 100000 in
theorem hello_doc {h : Heap} : CallsH Tryz.prog 34 ⟨[]⟩ h fun u h' => Own h' u 5 1 16 (bys helloL) ∧ Ext No h h' ∧ ∀ q, u.ownBlock = some q → h.size ≤ q := by
  have kb := fun (g : Heap) (p : Nat) (hp : g[p]? = some (.cells ⟨[St userL, St uL]⟩ 125 (0, 0))) => build05 hp
  refine calls [] Tryz.func34 rfl Tryz.ntmps34 rfl trivial ?_
  all_goals (refine WC.sr ?_)
  all_goals (refine Go ?_)
  all_goals (refine WC.sr ?_)
  all_goals (refine WL.step (ok_buildF (vs := [_, _]) (cs := [_, _]) (fun | [a0, a1] => [a0, a1] | _ => []) rfl rfl (by kernel_rfl)) rfl rfl rfl ?_)
  all_goals (refine WL.stepR (okE_buildSlice (vs := [_]) (cs := [_, _]) (fun | [.agg ⟨[a0, a1]⟩] => [a0, a1] | _ => []) Tryz.underlying28 rfl rfl (by kernel_rfl)) rfl rfl rfl ?_
             rintro _ h1 ⟨b1, rfl, hg1, hb1, hx1⟩)
  all_goals (refine WL.step (ok_buildF (vs := [_, _]) (cs := [_, _, _, _]) (fun | [a0, a3] => [a0, (.int .i64 0), (.int .i64 0), a3] | _ => []) rfl rfl (by kernel_rfl)) rfl rfl rfl ?_)
  all_goals (refine WL.call (vs := [_]) rfl (fun a w => Tryz.call69 a w) rfl (kb _ _ hb1) rfl rfl rfl ?_
             rintro _ h2 ⟨v2, rfl, ho2, hx2⟩
             obtain ⟨A2, c2, rfl, _⟩ := id ho2.slice)
  all_goals (refine Go ?_)
  all_goals (refine Gs [(1, _)] ?_)
  all_goals (refine WC.sr ?_)
  all_goals (refine Go ?_)
  all_goals (refine WL.step (ok_buildF (vs := [_]) (cs := [_, _]) (fun | [a1] => [(.int .u8 0), a1] | _ => []) rfl rfl (by kernel_rfl)) rfl rfl rfl ?_)
  all_goals (refine WL.call (vs := [_]) rfl (fun a w => Tryz.call70 a w) rfl (bytes04_0 ho2.rd) rfl rfl rfl ?_
             rintro v3 h3 ⟨ho3, hx3, hf3⟩)
  all_goals (refine Go ?_)
  all_goals (refine Gs [(0, _)] ?_)
  all_goals (refine Gt ?_)
  all_goals (exact ⟨ho3, (hx1.trans hx2).trans hx3, fun q hq => by have := hf3 q hq; have := hx1.size; have := hx2.size; omega⟩)
end Go.Proofs.YtdjjpbbhcidaaaaGreatDoor


/-
  api.Cell, rows of them, and the document's compare of them.
-/
namespace Go.Proofs.YtdjjpbbhcidaaaaGreatDoor
open Go Go.RK

/-- A cell: null, its bytes as they lie, its bytes. -/
structure Cel where
  null : Bool
  v : Value
  bytes : List UInt8
def Cel.cells (c : Cel) : List Value := [.bool c.null, c.v]
theorem Cel.len (c : Cel) : c.cells.length = 2 := rfl
/-- What a cell tells. -/
def Cel.pl (c : Cel) : Bool × List UInt8 := (c.null, c.bytes)
def Cel.ok (h : Heap) (c : Cel) : Prop := Rd h c.v 1 c.bytes.length (bys c.bytes) ∧ c.bytes.length ≤ reachBytes
def Cels (h : Heap) (v : Value) (l : List Cel) : Prop := Rd h v 2 l.length (l.flatMap Cel.cells) ∧ (l.length * 32 ≤ reachBytes ∧ ∃ A c, v = .slice A l.length c ∧ c ≤ maxLen) ∧ ∀ c ∈ l, c.ok h
theorem Cel.ok.ext0 {h h' : Heap} {c : Cel} (k : c.ok h) (a : Ext No h h') : c.ok h' := ⟨k.1.ext0 a, k.2⟩
theorem Cels.ext0 {h h' : Heap} {v : Value} {l : List Cel} (k : Cels h v l) (a : Ext No h h') : Cels h' v l := ⟨k.1.ext0 a, k.2.1, fun c hc => (k.2.2 c hc).ext0 a⟩
/-- The blocks that it lies in. -/
def CelsF (v : Value) (l : List Cel) (b : Nat) : Prop := (0 < l.length ∧ v.ownBlock = some b) ∨ ∃ c ∈ l, 0 < c.bytes.length ∧ c.v.ownBlock = some b
theorem Cels.lt {h : Heap} {v : Value} {l : List Cel} {b : Nat} (k : Cels h v l) (hb : CelsF v l b) : b < h.size := by
  rcases hb with ⟨h1, h2⟩ | ⟨c, hc, h1, h2⟩
  · exact k.1.lt h1 h2
  · exact (k.2.2 c hc).1.lt h1 h2
theorem Cels.ext {h h' : Heap} {S : Nat → Prop} {v : Value} {l : List Cel} (k : Cels h v l) (a : Ext S h h') (hS : ∀ b, CelsF v l b → ¬ S b) : Cels h' v l :=
  ⟨k.1.ext' a fun b h1 h2 => hS b (.inl ⟨h1, h2⟩), k.2.1, fun c hc => ⟨(k.2.2 c hc).1.ext' a fun b h1 h2 => hS b (.inr ⟨c, hc, h1, h2⟩), (k.2.2 c hc).2⟩⟩

/-- A row of a list: its slice, its cells. -/
structure Rw where
  v : Value
  l : List Cel
def Rw.pl (r : Rw) : List (Bool × List UInt8) := r.l.map Cel.pl
def Rws (h : Heap) (v : Value) (L : List Rw) : Prop := Rd h v 1 L.length (L.map Rw.v) ∧ (L.length * 24 ≤ reachBytes ∧ ∃ A c, v = .slice A L.length c ∧ c ≤ maxLen) ∧ ∀ r ∈ L, Cels h r.v r.l
def RwsF (v : Value) (L : List Rw) (b : Nat) : Prop := (0 < L.length ∧ v.ownBlock = some b) ∨ ∃ r ∈ L, CelsF r.v r.l b
theorem Rws.lt {h : Heap} {v : Value} {l : List Rw} {b : Nat} (k : Rws h v l) (hb : RwsF v l b) : b < h.size := by
  rcases hb with ⟨h1, h2⟩ | ⟨c, hc, h1⟩
  · exact k.1.lt h1 h2
  · exact (k.2.2 c hc).lt h1
theorem Rws.ext {h h' : Heap} {S : Nat → Prop} {v : Value} {l : List Rw} (k : Rws h v l) (a : Ext S h h') (hS : ∀ b, RwsF v l b → ¬ S b) : Rws h' v l :=
  ⟨k.1.ext' a fun b h1 h2 => hS b (.inl ⟨h1, h2⟩), k.2.1, fun c hc => (k.2.2 c hc).ext a fun b h1 => hS b (.inr ⟨c, hc, h1⟩)⟩
theorem Rws.ext0 {h h' : Heap} {v : Value} {l : List Rw} (k : Rws h v l) (a : Ext No h h') : Rws h' v l := k.ext a fun _ _ => nos
end Go.Proofs.YtdjjpbbhcidaaaaGreatDoor


/-
  RANGES OVER MAPS: an iterator, what has come out of it so far, in whatever order. No program is named here.
-/
namespace Go.RK
open Go Go.MapKept Go.ChangeMaps

/-- Block r goes over the map in block m, that holds es; ds has come out so far. -/
structure ItA {κ : Type} (enc : κ → Value) (h : Heap) (r m : Nat) (es ds : List (κ × Value)) (arr : Array MapEntry) (clock since c0 : Nat) (seen : Array Nat) : Prop where
  it : h[r]? = some (.mapIter (some m) since seen c0)
  mp : h[m]? = some (.map arr clock)
  st : Stamped arr clock
  kv : arr.toList.map (fun e => (e.key, e.val)) = es.map fun p => (enc p.1, p.2)
  old : ∀ x ∈ arr.toList, x.born < since
  le : since ≤ c0
  le2 : since ≤ clock
  seen : ∀ x ∈ arr.toList, (seen.contains x.born = true ↔ ∃ p ∈ ds, (x.key, x.val) = (enc p.1, p.2))
  sub : ∀ p ∈ ds, p ∈ es
  nd : ds.Nodup
def It {κ : Type} (enc : κ → Value) (h : Heap) (r m : Nat) (es ds : List (κ × Value)) : Prop := ∃ arr clock since c0 seen, ItA enc h r m es ds arr clock since c0 seen
/-- p came out last. -/
def ItL {κ : Type} (enc : κ → Value) (h : Heap) (r m : Nat) (p : κ × Value) : Prop := ∃ arr clock since seen e, h[r]? = some (.mapIter (some m) since (Array.push seen e.born) clock) ∧ h[m]? = some (.map arr clock) ∧ (arr.toList.map (·.born)).Nodup ∧ e ∈ arr.toList ∧ e.key = enc p.1 ∧ e.val = p.2
/-- An iterator over no map. -/
def ItN (h : Heap) (r : Nat) : Prop := ∃ a s c, h[r]? = some (.mapIter Option.none a s c)
section
variable {P : Program} {f : Fr} {h h' : Heap} {d : Option Tmp} {ty : TypeId} {pos : String} {af : Array Edge} {g : Option (Nat × Bool)}
variable {κ : Type} {dsc : TypeDesc} {enc : κ → Value} {r m : Nat} {es ds : List (κ × Value)}
theorem It.ext {S : Nat → Prop} (i : It enc h r m es ds) (a : Ext S h h') (hr : ¬ S r) (hm : ¬ S m) : It enc h' r m es ds := by
  obtain ⟨arr, clock, since, c0, seen, k⟩ := i
  exact ⟨arr, clock, since, c0, seen, ⟨a.obj k.it hr, a.obj k.mp hm, k.st, k.kv, k.old, k.le, k.le2, k.seen, k.sub, k.nd⟩⟩
theorem ItL.ext {S : Nat → Prop} {p : κ × Value} (i : ItL enc h r m p) (a : Ext S h h') (hr : ¬ S r) (hm : ¬ S m) : ItL enc h' r m p := by
  obtain ⟨arr, clock, since, seen, e, h1, h2, h3⟩ := i
  exact ⟨arr, clock, since, seen, e, a.obj h1 hr, a.obj h2 hm, h3⟩
theorem It.map (i : It enc h r m es ds) : Mp dsc enc h m es := by
  obtain ⟨arr, clock, since, c0, seen, k⟩ := i
  exact ⟨arr, clock, k.mp, k.st, k.kv⟩
theorem It.lt (i : It enc h r m es ds) : r < h.size := by
  obtain ⟨arr, clock, since, c0, seen, k⟩ := i
  exact lt_of_some k.it
theorem It.sub (i : It enc h r m es ds) : ∀ p ∈ ds, p ∈ es := by
  obtain ⟨arr, clock, since, c0, seen, k⟩ := i
  exact k.sub
theorem It.nd (i : It enc h r m es ds) : ds.Nodup := by
  obtain ⟨arr, clock, since, c0, seen, k⟩ := i
  exact k.nd
end
end Go.RK

/-
  LISTS SORTED BY A TEXT, AND MAPS, in plain Lean: what is set, let go and found is alike in both; names sorted.
-/
namespace Go.Proofs.YtdjjpbbhcidaaaaGreatDoor
open Go Go.RK

theorem lt_tri {a b : List UInt8} (h1 : ¬ a < b) (h2 : ¬ b < a) : a = b := List.le_antisymm (List.not_lt.1 h2) (List.not_lt.1 h1)

section
variable {α β : Type}
/-- Rising, each key once. -/
def Rise (L : List (List UInt8 × α)) : Prop := L.Pairwise fun a b => a.1 < b.1
def setL : List (List UInt8 × α) → List UInt8 → α → List (List UInt8 × α)
  | [], n, v => [(n, v)]
  | (m, w) :: L, n, v => if m < n then (m, w) :: setL L n v else if m = n then (n, v) :: L else (n, v) :: (m, w) :: L
def delL (L : List (List UInt8 × α)) (n : List UInt8) : List (List UInt8 × α) := L.filter fun p => decide (p.1 ≠ n)
def getL (L : List (List UInt8 × α)) (n : List UInt8) : Option α := (L.find? fun p => decide (p.1 = n)).map (·.2)
theorem Rise.nd {L : List (List UInt8 × α)} (h : Rise L) : (L.map (·.1)).Nodup := by
  refine List.pairwise_map.2 (h.imp fun {a b} hab e => ?_)
  rw [e] at hab
  exact List.lt_irrefl _ hab
theorem mem_setL {L : List (List UInt8 × α)} {n : List UInt8} {v : α} {p : List UInt8 × α} (h : p ∈ setL L n v) : p = (n, v) ∨ p ∈ L := by
  induction L with
  | nil => simpa [setL] using h
  | cons a L ih =>
    obtain ⟨m, w⟩ := a
    unfold setL at h
    split at h
    · rcases List.mem_cons.1 h with rfl | h
      · exact .inr List.mem_cons_self
      · exact (ih h).imp id (List.mem_cons_of_mem _)
    · split at h
      · rcases List.mem_cons.1 h with rfl | h
        · exact .inl rfl
        · exact .inr (List.mem_cons_of_mem _ h)
      · rcases List.mem_cons.1 h with rfl | h
        · exact .inl rfl
        · exact .inr h
theorem Rise.set {L : List (List UInt8 × α)} (h : Rise L) (n : List UInt8) (v : α) : Rise (setL L n v) := by
  induction L with
  | nil => simp [setL, Rise]
  | cons a L ih =>
    obtain ⟨m, w⟩ := a
    obtain ⟨h1, h2⟩ := List.pairwise_cons.1 h
    unfold setL
    split
    · rename_i hlt
      refine List.pairwise_cons.2 ⟨fun p hp => ?_, ih h2⟩
      rcases mem_setL hp with rfl | hp
      · exact hlt
      · exact h1 p hp
    · rename_i hlt
      split
      · rename_i he
        subst he
        exact List.pairwise_cons.2 ⟨h1, h2⟩
      · rename_i hne
        have hnm : n < m := by
          rcases Decidable.em (n < m) with h | h
          · exact h
          · exact absurd (lt_tri hlt h) hne
        refine List.pairwise_cons.2 ⟨fun p hp => ?_, h⟩
        rcases List.mem_cons.1 hp with rfl | hp
        · exact hnm
        · exact List.lt_trans hnm (h1 p hp)
/-! ### maps -/
def encE (f : α → Value) (E : List (List UInt8 × α)) : List (List UInt8 × Value) := E.map fun p => (p.1, f p.2)
/-- What the map has behind a set. -/
def putE (E : List (List UInt8 × α)) (n : List UInt8) (v : α) : List (List UInt8 × α) := if (getL E n).isSome = true then E.map (fun p => if p.1 = n then (n, v) else p) else E ++ [(n, v)]
/-- The names of a list, sorted. -/
def srtS (l : List (List UInt8)) : List (List UInt8) := l.mergeSort fun x y => decide (x ≤ y)
end
end Go.Proofs.YtdjjpbbhcidaaaaGreatDoor


/-
  LISTS RISING BY A TEXT: where one is set, let go; rows of structs: a cell set, a part taken.
-/
namespace Go.Proofs.YtdjjpbbhcidaaaaGreatDoor
open Go Go.RK

theorem At.tl {h : Heap} {b o : Nat} {x : Value} {xs : List Value} (a : At h b o (x :: xs)) : At h b (o + 1) xs := fun j v hj => by
  have := a (j + 1) v (by simpa using hj)
  rwa [show o + (j + 1) = o + 1 + j by omega] at this
section
variable {α : Type} {F : α → List Value} {sz : Nat} (hF : ∀ a, (F a).length = sz)
include hF
end
end Go.Proofs.YtdjjpbbhcidaaaaGreatDoor


/-
  Copies of rows of cells, and of bytes.
-/
namespace Go.Proofs.YtdjjpbbhcidaaaaGreatDoor
open Go Go.RK

set_option maxHeartbeats 2000000 in
set_option maxRecDepth 100000 in
theorem clone_byt {h : Heap} {A : Option Addr} {c : Nat} (l : List UInt8) (hr : Rd h (.slice A l.length c) 1 l.length (bys l)) (hm : l.length ≤ 140737488355328) :
    CallsH Tryz.prog 41 ⟨[.slice A l.length c]⟩ h fun u h' => Own h' u 5 1 l.length (bys l) ∧ Ext No h h' ∧ (∀ k, u.ownBlock = some k → h.size ≤ k) := by
  cases A with
  | none =>
    have h0 : l = [] := by
      cases l with
      | nil => rfl
      | cons a l => obtain ⟨b, o, e, _⟩ := Rd.at_ hr (by simp); cases e
    subst h0
    refine calls [(0, _)] Tryz.func41 rfl Tryz.ntmps41 rfl ⟨rfl, trivial⟩ ?_
    all_goals (refine WC.sr ?_)
    all_goals (refine Go ?_)
    all_goals (refine WC.seq ?_)
    all_goals (refine WC.sr ?_)
    all_goals (refine Go ?_)
    all_goals (refine WL.step (ok_eqlSn Tryz.underlying22 rfl rfl) rfl rfl rfl ?_)
    all_goals (refine Gn ?_)
    all_goals (refine goC 1 2 ?_ ?_ <;> first | exact ⟨⟩ | refine Hb.mk fun hb => ?_ | skip)
    all_goals (first | (fail_if_success refine goB 1 ?_) | (
    refine goB 1 ?_
    all_goals (refine WC.sr ?_)
    all_goals (refine Go ?_)
    all_goals (refine Gt ?_)
    all_goals (exact ⟨Own.nil _ _ _, .refl _ _, by simp [Value.ownBlock]⟩)
    skip))
    all_goals (first | (fail_if_success refine goB 2 ?_) | (
    refine goB 2 ?_
    all_goals (refine WC.skip ?_)
    skip))
    all_goals (refine Gn ?_)
    all_goals (refine WC.sr ?_)
    all_goals (refine WL.stepR (okE_buildSlice (vs := []) (cs := []) (fun _ => []) Tryz.underlying22 rfl rfl (by kernel_rfl)) rfl rfl rfl ?_
               rintro _ h1 ⟨b1, rfl, hg1, hb1, hx1⟩)
    all_goals (refine Go ?_)
    all_goals (refine WL.stepR (ok_append (sz := 1) (bytes := 1) rfl Tryz.underlying22 (show Tryz.prog.info? 5 = some Tryz.t5 by kernel_rfl) rfl rfl rfl rfl (by decide) rfl rfl (by assumption) (by first | assumption | exact rd_blk (by assumption) rfl) (by simp [Value.oneCell']) (by simp only [maxLen]; omega) (by omega)) rfl rfl rfl ?_
               rintro v1 h1 ⟨ho1, hx1, hl1⟩)
    all_goals (refine Go ?_)
    all_goals (refine Gs [(2, _)] ?_)
    all_goals (refine Gt ?_)
    all_goals (exact ⟨Own.nil _ _ _, .refl _ _, by simp [Value.ownBlock]⟩)
  | some a =>
    refine calls [(0, _)] Tryz.func41 rfl Tryz.ntmps41 rfl ⟨rfl, trivial⟩ ?_
    all_goals (refine WC.sr ?_)
    all_goals (refine Go ?_)
    all_goals (refine WC.seq ?_)
    all_goals (refine WC.sr ?_)
    all_goals (refine Go ?_)
    all_goals (refine WL.step (ok_eqlSn Tryz.underlying22 rfl rfl) rfl rfl rfl ?_)
    all_goals (refine Gn ?_)
    all_goals (refine goC 1 2 ?_ ?_ <;> first | exact ⟨⟩ | refine Hb.mk fun hb => ?_ | skip)
    all_goals (first | (fail_if_success refine goB 1 ?_) | (
    refine goB 1 ?_
    all_goals (refine WC.sr ?_)
    all_goals (refine Go ?_)
    all_goals (refine Gt ?_)
    all_goals (exact ⟨by simpa using ho2, hx1.trans' hx2 (fun k hk e => by simp [Value.ownBlock] at e; omega), fresh_of hl2 (fun k hk => by simp [Value.ownBlock] at hk; omega) hx1.size⟩)
    skip))
    all_goals (first | (fail_if_success refine goB 2 ?_) | (
    refine goB 2 ?_
    all_goals (refine WC.skip ?_)
    skip))
    all_goals (refine Gn ?_)
    all_goals (refine WC.sr ?_)
    all_goals (refine WL.stepR (okE_buildSlice (vs := []) (cs := []) (fun _ => []) Tryz.underlying22 rfl rfl (by kernel_rfl)) rfl rfl rfl ?_
               rintro _ h1 ⟨b1, rfl, hg1, hb1, hx1⟩)
    all_goals (refine Go ?_)
    all_goals (have hr1 := hr.ext0 hx1)
    all_goals (refine WL.stepR (ok_append (sz := 1) (bytes := 1) rfl Tryz.underlying22 (show Tryz.prog.info? 5 = some Tryz.t5 by kernel_rfl) rfl rfl rfl rfl (by decide) rfl rfl (own_blk hb1 rfl (by simp [maxLen])) hr1 (by intro c hc; obtain ⟨b, _, rfl⟩ := List.mem_map.1 hc; rfl) (by simp only [maxLen]; omega) (by omega)) rfl rfl rfl ?_
               rintro v2 h2 ⟨ho2, hx2, hl2⟩)
    all_goals (refine Go ?_)
    all_goals (refine Gs [(2, _)] ?_)
    all_goals (refine Gt ?_)
    all_goals (exact ⟨by simpa using ho2, hx1.trans' hx2 (fun k hk e => by simp [Value.ownBlock] at e; omega), fresh_of hl2 (fun k hk => by simp [Value.ownBlock] at hk; omega) hx1.size⟩)
end Go.Proofs.YtdjjpbbhcidaaaaGreatDoor


/-
  FRAMES (layer 4), by the code: bytes come, and messages are taken.
-/
namespace Go.Proofs.YtdjjpbbhcidaaaaGreatDoor
open Go Go.RK

def numB (l : List UInt8) : Int := l.foldl (fun n x => n * 256 + (x.toNat : Int)) 0
theorem numB_snoc (l : List UInt8) (x : UInt8) : numB (l ++ [x]) = numB l * 256 + (x.toNat : Int) := by simp [numB]
set_option maxHeartbeats 2000000 in
set_option maxRecDepth 100000 in
theorem sized_4 {h : Heap} : CallsH Tryz.prog 135 ⟨[In 4]⟩ h fun u h' => u = .bool true ∧ h' = h := by
  refine calls [(0, _)] Tryz.func135 rfl Tryz.ntmps135 rfl ⟨rfl, trivial⟩ ?_
  all_goals (refine WC.sr ?_)
  all_goals (refine Go ?_)
  all_goals (refine WC.seq ?_)
  all_goals (refine WC.sr ?_)
  all_goals (refine Go ?_)
  all_goals (refine WC.block ?_)
  all_goals (refine WC.seq ?_)
  all_goals (refine WC.sr ?_)
  all_goals (refine Go ?_)
  all_goals (refine goC 1 2 ?_ ?_ <;> first | exact ⟨⟩ | refine Hb.mk fun hb => ?_ | skip)
  all_goals (first | (fail_if_success refine goB 1 ?_) | (
  refine goB 1 ?_
  all_goals (refine WC.skip ?_)
  skip))
  all_goals (first | (fail_if_success refine goB 2 ?_) | (
  refine goB 2 ?_
  all_goals (refine WC.sr ?_)
  all_goals (refine Go ?_)
  all_goals (refine Gs [(3, _), (4, _)] ?_)
  all_goals (refine goC 3 4 ?_ ?_ <;> first | exact ⟨⟩ | refine Hb.mk fun hb => ?_ | skip)
  all_goals (first | (fail_if_success refine goB 3 ?_) | (
  refine goB 3 ?_
  all_goals (refine WC.skip ?_)
  skip))
  all_goals (first | (fail_if_success refine goB 4 ?_) | (
  refine goB 4 ?_
  all_goals (refine WC.region ?_)
  all_goals (refine Go ?_)
  skip))
  skip))
  all_goals (refine Gn ?_)
  all_goals (refine goC 5 6 ?_ ?_ <;> first | exact ⟨⟩ | refine Hb.mk fun hb => ?_ | skip)
  all_goals (first | (fail_if_success refine goB 5 ?_) | (
  refine goB 5 ?_
  all_goals (refine WC.sr ?_)
  all_goals (refine Go ?_)
  all_goals (refine Gt ?_)
  all_goals (exact ⟨rfl, rfl⟩)
  skip))
  all_goals (first | (fail_if_success refine goB 6 ?_) | (
  refine goB 6 ?_
  all_goals (refine WC.skip ?_)
  skip))
  all_goals (refine Gn ?_)
  all_goals (refine WC.sr ?_)
  all_goals (refine Go ?_)
  all_goals (refine Gt ?_)
  all_goals (exact ⟨rfl, rfl⟩)
set_option maxHeartbeats 2000000 in
set_option maxRecDepth 100000 in
theorem get_v {h : Heap} {A : Option Addr} {c : Nat} (l : List UInt8) (hr : Rd h (.slice A l.length c) 1 l.length (bys l)) (k : Nat) (hl : k + 4 ≤ l.length) (hm : l.length ≤ 1000000) :
    CallsH Tryz.prog 131 ⟨[.slice A l.length c, In (k : Int), In 4]⟩ h fun u h' => u = .tuple ⟨[In (numB ((l.drop k).take 4)), In 0]⟩ ∧ h' = h := by
  have hcap : l.length ≤ c := by
    obtain ⟨A1, c1, hv, hcap, _⟩ := id hr
    simp only [Value.slice.injEq] at hv
    obtain ⟨_, _, rfl⟩ := hv
    exact hcap
  have hs := (hr.drop (l := k) (by omega)).take (k := 4) (by omega)
  have hml : ((l.drop k).take 4).length = 4 := by simp; omega
  have hmb : ((bys l).drop (k * 1)).take (4 * 1) = bys ((l.drop k).take 4) := by simp [bys]
  rw [hmb] at hs
  generalize (l.drop k).take 4 = m at *
  refine calls [(0, _), (1, _), (2, _)] Tryz.func131 rfl Tryz.ntmps131 rfl ⟨rfl, rfl, rfl, trivial⟩ ?_
  all_goals (refine WC.sr ?_)
  all_goals (refine Go ?_)
  all_goals (refine WC.seq ?_)
  all_goals (refine WC.block ?_)
  all_goals (refine WC.seq ?_)
  all_goals (refine WC.sr ?_)
  all_goals (refine Go ?_)
  all_goals (refine WL.call (vs := [_]) rfl (fun a w => Tryz.call135 a w) rfl (sized_4) rfl rfl rfl ?_
             rintro _ hz ⟨rfl, _⟩
             subst hz)
  all_goals (refine Go ?_)
  all_goals (refine Gs [(0, _), (1, _), (2, _), (11, _)] ?_)
  all_goals (refine goC 1 2 ?_ ?_ <;> first | exact ⟨⟩ | refine Hb.mk fun hb => ?_ | skip)
  all_goals (first | (fail_if_success refine goB 1 ?_) | (
  refine goB 1 ?_
  all_goals (refine WC.skip ?_)
  skip))
  all_goals (first | (fail_if_success refine goB 2 ?_) | (
  refine goB 2 ?_
  all_goals (refine WC.region ?_)
  all_goals (refine Go ?_)
  skip))
  all_goals (refine Gn ?_)
  all_goals (refine goC 3 4 ?_ ?_ <;> first | exact ⟨⟩ | refine Hb.mk fun hb => ?_ | skip)
  all_goals (first | (fail_if_success refine goB 3 ?_) | (
  refine goB 3 ?_
  all_goals (refine WC.sr ?_)
  all_goals (refine Go ?_)
  all_goals (refine Gs [(6, _), (7, _)] ?_)
  all_goals (refine Gt ?_)
  all_goals (first | exact ⟨by rw [hn, List.take_of_length_le (by omega)], rfl⟩ | (exfalso; omega))
  skip))
  all_goals (first | (fail_if_success refine goB 4 ?_) | (
  refine goB 4 ?_
  all_goals (refine WC.seq ?_)
  all_goals (refine WC.sr ?_)
  all_goals (refine Go ?_)
  all_goals (refine Gs [(0, _), (1, _), (2, _), (17, _)] ?_)
  all_goals (refine goC 5 6 ?_ ?_ <;> first | exact ⟨⟩ | refine Hb.mk fun hb => ?_ | skip)
  all_goals (first | (fail_if_success refine goB 5 ?_) | (
  refine goB 5 ?_
  all_goals (refine WC.skip ?_)
  skip))
  all_goals (first | (fail_if_success refine goB 6 ?_) | (
  refine goB 6 ?_
  all_goals (refine WC.region ?_)
  all_goals (refine Go ?_)
  skip))
  all_goals (refine Gn ?_)
  all_goals (refine goC 7 8 ?_ ?_ <;> first | exact ⟨⟩ | refine Hb.mk fun hb => ?_ | skip)
  all_goals (first | (fail_if_success refine goB 7 ?_) | (
  refine goB 7 ?_
  all_goals (refine WC.sr ?_)
  all_goals (refine Go ?_)
  all_goals (refine Gs [(6, _), (7, _)] ?_)
  all_goals (refine Gt ?_)
  all_goals (first | exact ⟨by rw [hn, List.take_of_length_le (by omega)], rfl⟩ | (exfalso; omega))
  skip))
  all_goals (first | (fail_if_success refine goB 8 ?_) | (
  refine goB 8 ?_
  all_goals (refine WC.skip ?_)
  skip))
  skip))
  all_goals (refine Gn ?_)
  all_goals (refine WC.sr ?_)
  all_goals (refine Go ?_)
  all_goals (refine WC.seq ?_)
  all_goals (refine WC.sr ?_)
  all_goals (refine Go ?_)
  all_goals (refine WL.step (ok_slice_lhN (l := k) (k := k + 4) Tryz.underlying22 (fun w => Tryz.sizeOf5 w) rfl rfl rfl (by omega)) rfl rfl rfl ?_
             rw [show k + 4 - k = 4 by omega]
             generalize (if c = k then A else A.map (·.add (k * 1))) = S at *)
  all_goals (refine Go ?_)
  all_goals (refine Gs [(8, _), (33, _), (34, _), (35, _)] ?_)
  all_goals (refine WC.block ?_)
  -- loop 0: slots that turn [8, 35], that stay [33, 34]
  all_goals (refine WC.loopG (X := Nat × Int) (fun x => ([(35, In (x.1 : Int)), (8, In x.2)] : Fr)) [(33, _), (34, _)] (fun x h' => h' = h ∧ x.1 ≤ 4 ∧ x.2 = numB (m.take x.1) ∧ 0 ≤ x.2 ∧ x.2 + 1 ≤ 256 ^ x.1) (fun x => 4 - x.1) ((0, 0)) ⟨rfl, rfl, rfl, rfl, trivial⟩ (by exact ⟨rfl, by simp, rfl, by simp, by simp⟩) ?_)
  all_goals (rintro ⟨j, n⟩ h1 ⟨hz, hj, hn, hn0, hn1⟩
             dsimp only at hj hn hn0 hn1
             subst hz)
  all_goals (refine WC.sub [(8, _), (35, _), (33, _), (34, _)] ⟨rfl, rfl, rfl, rfl, trivial⟩ ?_)
  all_goals (dsimp only)
  all_goals (refine WC.sr ?_)
  all_goals (refine Go ?_)
  all_goals (refine WC.seq ?_)
  all_goals (refine goC 9 10 ?_ ?_ <;> first | exact ⟨⟩ | refine Hb.mk fun hb => ?_ | skip)
  all_goals (first | (fail_if_success refine goB 9 ?_) | (
  refine goB 9 ?_
  all_goals (refine WC.skip ?_)
  skip))
  all_goals (first | (fail_if_success refine goB 10 ?_) | (
  refine goB 10 ?_
  all_goals (refine WC.exit ?_)
  all_goals (repeat' (with_reducible first | refine thenP_x ?_ | refine blockP_miss rfl ?_ | refine blockP_hit ?_ | refine blockP_n ?_ | refine thenP_n ?_))
  all_goals (refine Br.out (i := 1001) ?_)
  skip))
  all_goals (refine Gn ?_)
  all_goals (first | (refine Br.keep ?_) | (refine WC.seq ?_))
  all_goals (first | (refine Br.keep ?_) | (refine WC.block ?_))
  all_goals (first | (refine Br.keep ?_) | (refine WC.sr ?_))
  all_goals (first
               | (refine Br.keep ?_)
               | (obtain ⟨bL, oL, hA, hbL, hat⟩ := Rd.at_ hs (by omega)
                  obtain ⟨y, hy⟩ : ∃ y, m[j]? = some y := ⟨_, List.getElem?_eq_getElem (by omega)⟩
                  have hc1 := hat.get (p := oL + j * 1) j (show (bys m)[j]? = some (By y) by simp [bys, hy]) (by omega)
                  have hpl := pow_le (show j ≤ 3 by omega)
                  have hyl := y.toNat_lt))
  all_goals (first | (refine Br.keep ?_) | (refine WL.step (ok_idxAddrA Tryz.underlying22 (fun w => Tryz.sizeOf5 w) rfl rfl rfl (by omega) (by first | rfl | assumption)) rfl rfl rfl ?_))
  all_goals (first | (refine Br.keep ?_) | (refine WL.ld rfl (by first | exact hc1 | assumption | exact cell_blk (by assumption) rfl) rfl rfl rfl ?_))
  all_goals (refine Go ?_)
  all_goals (first | (refine Br.keep ?_) | (refine WC.region ?_))
  all_goals (refine Go ?_)
  all_goals (first | (refine Br.keep ?_) | (refine WL.step (ok_shlU rfl rfl (by decide) (by rw [show (2 : Int) ^ ((8 : Int)).toNat = 256 from rfl]; constructor <;> omega)) rfl rfl rfl ?_))
  all_goals (first | (refine Br.keep ?_) | (rw [show (2 : Int) ^ ((8 : Int)).toNat = 256 from rfl]))
  all_goals (refine Go ?_)
  all_goals (first | (refine Br.keep ?_) | (first | (refine WL.step (ok_convI Tryz.underlying5 Tryz.underlying3 rfl (by omega)) rfl rfl rfl ?_) | (refine WL.step (ok_conv Tryz.underlying5 Tryz.underlying3 rfl) rfl rfl rfl ?_)))
  all_goals (first | (refine Br.keep ?_) | (refine WL.step (ok_or rfl rfl) rfl rfl rfl ?_))
  all_goals (first | (refine Br.keep ?_) | (rw [or_byte ⟨by omega, by omega⟩ ⟨by omega, by omega⟩]))
  all_goals (refine Go ?_)
  all_goals (first | (refine Br.keep ?_) | (refine Gs [(8, _), (33, _), (34, _), (35, _)] ?_))
  all_goals (first | (refine Br.keep ?_) | (refine WC.region ?_))
  all_goals (refine Go ?_)
  all_goals (first | (refine Br.keep ?_) | (exact ⟨(j + 1, _), ⟨rfl, rfl, rfl, rfl, trivial⟩, (by exact ⟨rfl, by omega, by rw [List.take_add_one, hy, Option.toList_some, numB_snoc, ← hn], by omega, by rw [Int.pow_succ]; omega⟩), (by simp; omega)⟩))
  all_goals (try (refine Br.mk (i := 1001) ?_))
  all_goals (refine Gn ?_)
  all_goals (refine Gs [(8, _)] ?_)
  all_goals (refine WC.sr ?_)
  all_goals (refine Go ?_)
  all_goals (refine Gt ?_)
  all_goals (first | exact ⟨by rw [hn, List.take_of_length_le (by omega)], rfl⟩ | (exfalso; omega))
end Go.Proofs.YtdjjpbbhcidaaaaGreatDoor


/-
  FRAMES (layer 4), by the code: a framer takes bytes, and gives messages.
-/
namespace Go.Proofs.YtdjjpbbhcidaaaaGreatDoor
open Go Go.RK

/-- A framer at b: its bytes are l. -/
structure Fw (h : Heap) (b : Nat) (ty : Bool) (v : Value) (l : List UInt8) : Prop where
  blk : h[b]? = some (.cells ⟨[.bool ty, v, In 65536, In 262144, In 0]⟩ 87 (0, 0))
  own : Own h v 5 1 l.length (bys l)
section
variable {h h' : Heap} {b : Nat} {ty : Bool} {v : Value} {l : List UInt8} {S : Nat → Prop}
theorem Fw.ext (k : Fw h b ty v l) (x : Ext S h h') (h1 : ¬ S b) (h2 : ∀ q, v.ownBlock = some q → ¬ S q) : Fw h' b ty v l := ⟨x.obj k.blk h1, k.own.ext x h2⟩
theorem Fw.ext0 (k : Fw h b ty v l) (x : Ext No h h') : Fw h' b ty v l := k.ext x nos (fun _ _ => nos)
theorem Fw.ne (k : Fw h b ty v l) : ∀ q, v.ownBlock = some q → q ≠ b := fun q hq e => by
  have := own_ne k.own k.blk (by decide)
  exact this (e ▸ hq)
set_option maxHeartbeats 2000000 in
set_option maxRecDepth 100000 in
theorem new_fw {h : Heap} : CallsH Tryz.prog 66 ⟨[In 65536, In 262144, .bool true]⟩ h fun u h' => ∃ b, u = .tuple ⟨[.pointer (some ⟨b, 0, none⟩), In 0]⟩ ∧ Fw h' b false (.slice none 0 0) [] ∧ h.size ≤ b ∧ Ext No h h' := by
  refine calls [(0, _), (1, _), (2, _)] Tryz.func66 rfl Tryz.ntmps66 rfl ⟨rfl, rfl, rfl, trivial⟩ ?_
  all_goals (refine WC.sr ?_)
  all_goals (refine Go ?_)
  all_goals (refine WC.seq ?_)
  all_goals (refine WC.sr ?_)
  all_goals (refine Go ?_)
  all_goals (refine goP 10 ?_ ?_ <;> first | exact ⟨⟩ | refine Hb.mk fun hb => ?_ | skip)
  all_goals (refine Gg ?_)
  all_goals (refine Go ?_)
  all_goals (refine goP 14 ?_ ?_ <;> first | exact ⟨⟩ | refine Hb.mk fun hb => ?_ | skip)
  all_goals (refine Gg ?_)
  all_goals (refine Go ?_)
  all_goals (refine goP 19 ?_ ?_ <;> first | exact ⟨⟩ | refine Hb.mk fun hb => ?_ | skip)
  all_goals (refine Gg ?_)
  all_goals (refine Go ?_)
  all_goals (refine Gs [(0, _), (1, _), (2, _), (22, _)] ?_)
  all_goals (refine goC 1 2 ?_ ?_ <;> first | exact ⟨⟩ | refine Hb.mk fun hb => ?_ | skip)
  all_goals (first | (fail_if_success refine goB 1 ?_) | (
  refine goB 1 ?_
  all_goals (refine WC.sr ?_)
  all_goals (refine Go ?_)
  all_goals (refine Gs [(6, _), (7, _)] ?_)
  all_goals (refine Gt ?_)
  all_goals (exact ⟨b1, rfl, ⟨hb1, Own.nil _ _ _⟩, hg1, hx1⟩)
  skip))
  all_goals (first | (fail_if_success refine goB 2 ?_) | (
  refine goB 2 ?_
  all_goals (refine WC.skip ?_)
  skip))
  all_goals (refine Gn ?_)
  all_goals (refine WC.sr ?_)
  all_goals (refine Go ?_)
  all_goals (refine WL.step (ok_buildF (vs := [_]) (cs := [_]) (fun | [a0] => [a0] | _ => []) rfl rfl (by kernel_rfl)) rfl rfl rfl ?_)
  all_goals (refine Go ?_)
  all_goals (refine WL.step (ok_buildF (vs := [_, _, _]) (cs := [_, _, _, _, _]) (fun | [.agg ⟨[a0]⟩, a2, a3] => [a0, (.slice none 0 0), a2, a3, (.int .i64 0)] | _ => []) rfl rfl (by kernel_rfl)) rfl rfl rfl ?_)
  all_goals (refine WL.stepR (okE_box rfl) rfl rfl rfl ?_
             rintro _ h1 ⟨b1, rfl, hg1, hb1, hx1⟩)
  all_goals (refine Go ?_)
  all_goals (refine Gs [(6, _), (7, _)] ?_)
  all_goals (refine Gt ?_)
  all_goals (exact ⟨b1, rfl, ⟨hb1, Own.nil _ _ _⟩, hg1, hx1⟩)
set_option maxHeartbeats 2000000 in
set_option maxRecDepth 100000 in
theorem fw_ready (k : Fw h b ty v l) : CallsH Tryz.prog 65 ⟨[.pointer (some ⟨b, 0, none⟩)]⟩ h fun u h' => u = .bool true ∧ h' = h := by
  have hb := k.blk
  refine calls [(0, _)] Tryz.func65 rfl Tryz.ntmps65 rfl ⟨rfl, trivial⟩ ?_
  all_goals (refine WC.sr ?_)
  all_goals (refine Go ?_)
  all_goals (refine WC.sr ?_)
  all_goals (refine Go ?_)
  all_goals (refine WL.step (ok_neqPn Tryz.underlying26 rfl rfl) rfl rfl rfl ?_)
  all_goals (refine Go ?_)
  all_goals (refine goP 5 ?_ ?_ <;> first | exact ⟨⟩ | refine Hb.mk fun hb => ?_ | skip)
  all_goals (refine Gg ?_)
  all_goals (first | (refine WL.pass rfl rfl rfl ?_) | (refine WL.step (ok_nilCheck rfl) rfl rfl rfl ?_))
  all_goals (refine Gg ?_)
  all_goals (first | (refine WL.pass rfl rfl rfl ?_) | (refine Ld ?_))
  all_goals (refine Gg ?_)
  all_goals (refine Go ?_)
  all_goals (refine Gs [(2, _)] ?_)
  all_goals (refine Gt ?_)
  all_goals (exact ⟨rfl, rfl⟩)
set_option maxHeartbeats 2000000 in
set_option maxRecDepth 100000 in
theorem fw_head (ty : Bool) : CallsH Tryz.prog 49 ⟨[.agg ⟨[.bool ty]⟩]⟩ h fun u h' => u = In ((if ty = true then 1 else 0 : Nat) : Int) ∧ Ext No h h' := by
  cases ty
  all_goals
    refine calls [(0, _)] Tryz.func49 rfl Tryz.ntmps49 rfl ⟨rfl, trivial⟩ ?_
    all_goals (refine WC.sr ?_)
    all_goals (refine WL.stepR (okE_box rfl) rfl rfl rfl ?_
               rintro _ h1 ⟨b1, rfl, hg1, hb1, hx1⟩)
    all_goals (refine Go ?_)
    all_goals (refine WC.seq ?_)
    all_goals (refine WC.sr ?_)
    all_goals (refine Go ?_)
    all_goals (refine WL.ld rfl (by first | exact cell_blk hb1 rfl | assumption | exact cell_blk (by assumption) rfl) rfl rfl rfl ?_)
    all_goals (refine Gn ?_)
    all_goals (refine Gs [(4, _)] ?_)
    all_goals (refine goC 1 2 ?_ ?_ <;> first | exact ⟨⟩ | refine Hb.mk fun hb => ?_ | skip)
    all_goals (first | (fail_if_success refine goB 1 ?_) | (
    refine goB 1 ?_
    all_goals (refine WC.sr ?_)
    all_goals (refine Go ?_)
    all_goals (refine Gt ?_)
    all_goals (exact ⟨rfl, hx1⟩)
    skip))
    all_goals (first | (fail_if_success refine goB 2 ?_) | (
    refine goB 2 ?_
    all_goals (refine WC.skip ?_)
    skip))
    all_goals (refine Gn ?_)
    all_goals (refine WC.sr ?_)
    all_goals (refine Go ?_)
    all_goals (refine Gt ?_)
    all_goals (exact ⟨rfl, hx1⟩)
set_option maxHeartbeats 2000000 in
set_option maxRecDepth 100000 in
theorem fw_feed {w : Value} (k : Fw h b ty v l) (m : List UInt8) (hr : Rd h w 1 m.length (bys m)) (hl : l.length + m.length ≤ 262144) :
    CallsH Tryz.prog 31 ⟨[.pointer (some ⟨b, 0, none⟩), w]⟩ h fun u h' => u = In 0 ∧ ∃ v', Fw h' b ty v' (l ++ m) ∧ Ext (fun q => q = b ∨ v.ownBlock = some q) h h' ∧ ∀ q, v'.ownBlock = some q → v.ownBlock = some q ∨ h.size ≤ q := by
  have kr := fw_ready k
  have hb := k.blk
  have ho := k.own
  have hne := k.ne
  obtain ⟨A, c, rfl, _⟩ := id hr
  obtain ⟨B, d, rfl, _⟩ := id ho.slice
  refine calls [(0, _), (1, _)] Tryz.func31 rfl Tryz.ntmps31 rfl ⟨rfl, rfl, trivial⟩ ?_
  all_goals (refine WC.sr ?_)
  all_goals (refine Go ?_)
  all_goals (refine WC.seq ?_)
  all_goals (refine WC.block ?_)
  all_goals (refine WC.sr ?_)
  all_goals (refine Go ?_)
  all_goals (refine WL.call (vs := [_]) rfl (fun a w => Tryz.call65 a w) rfl (kr) rfl rfl rfl ?_
             rintro _ hz ⟨rfl, _⟩
             subst hz)
  all_goals (refine Go ?_)
  all_goals (refine Gs [(0, _), (1, _), (5, _)] ?_)
  all_goals (refine goC 1 2 ?_ ?_ <;> first | exact ⟨⟩ | refine Hb.mk fun hb => ?_ | skip)
  all_goals (first | (fail_if_success refine goB 1 ?_) | (
  refine goB 1 ?_
  all_goals (refine WC.sr ?_)
  all_goals (refine Go ?_)
  all_goals (refine Gt ?_)
  all_goals (refine ⟨rfl, _, ⟨hb3, ?_⟩, (hx2.mono fun _ _ e => .inr e).trans (hx3.mono fun _ _ e => .inl e), fun q hq => hl2.elim (fun e => .inl (e ▸ hq)) (fun e => .inr (by rw [e] at hq; injection hq with hq; omega))⟩
             have := ho2.ext hx3 (fun q hq e => by subst e; exact hl2.elim (fun e => hne _ (e ▸ hq) rfl) (fun e => by rw [e] at hq; injection hq with hq; omega))
             rw [List.length_append, show bys (l ++ m) = bys l ++ bys m from List.map_append ..]
             exact this)
  skip))
  all_goals (first | (fail_if_success refine goB 2 ?_) | (
  refine goB 2 ?_
  all_goals (refine WC.seq ?_)
  all_goals (refine WC.drawE fol (by kernel_rfl) ?_)
  all_goals (refine WQ.stepE (ok_move rfl) rfl rfl rfl ?_)
  all_goals (refine WQ.stepE (ok_lenL rfl Tryz.underlying22 rfl) rfl rfl rfl ?_)
  all_goals (refine WQ.stepE (ok_move rfl) rfl rfl rfl ?_)
  all_goals (refine WQ.stepE (ok_nilCheck rfl) rfl rfl rfl ?_)
  all_goals (refine WQ.stepE (ok_fieldAddr rfl Tryz.underlying87 rfl (fun w => Tryz.sizeOf3 w)) rfl rfl rfl ?_)
  all_goals (refine WQ.stepE (ok_load (fun w => Tryz.isAgg3 w) rfl (by first | exact cell_blk hb rfl | assumption | exact cell_blk (by assumption) rfl)) rfl rfl rfl ?_)
  all_goals (refine WQ.stepE (ok_move rfl) rfl rfl rfl ?_)
  all_goals (refine WQ.stepE (ok_nilCheck rfl) rfl rfl rfl ?_)
  all_goals (refine WQ.stepE (ok_fieldAddr rfl Tryz.underlying87 rfl (fun w => Tryz.sizeOf22 w)) rfl rfl rfl ?_)
  all_goals (refine WQ.stepE (ok_load (fun w => Tryz.isAgg22 w) rfl (by first | exact cell_blk hb rfl | assumption | exact cell_blk (by assumption) rfl)) rfl rfl rfl ?_)
  all_goals (refine WQ.stepE (ok_lenL rfl Tryz.underlying22 rfl) rfl rfl rfl ?_)
  all_goals (first | (refine WQ.stepE (ok_subI rfl rfl (by omega)) rfl rfl rfl ?_) | (refine WQ.stepE (ok_sub rfl rfl) rfl rfl rfl ?_))
  all_goals (first | (refine WQ.stepE (OkP.bool_t (by omega) (ok_gtr rfl rfl)) rfl rfl rfl ?_) | (refine WQ.stepE (OkP.bool_f (by omega) (ok_gtr rfl rfl)) rfl rfl rfl ?_) | (refine WQ.stepE (ok_gtr rfl rfl) rfl rfl rfl ?_))
  all_goals (refine WQ.stepE (ok_assign rfl) rfl rfl rfl ?_)
  all_goals (refine WQ.nil ?_)
  all_goals (refine Gn ?_)
  all_goals (refine Gs [(0, _), (1, _), (9, _)] ?_)
  all_goals (refine goC 3 4 ?_ ?_ <;> first | exact ⟨⟩ | refine Hb.mk fun hb => ?_ | skip)
  all_goals (first | (fail_if_success refine goB 3 ?_) | (
  refine goB 3 ?_
  all_goals (refine WC.sr ?_)
  all_goals (refine Go ?_)
  all_goals (refine Gt ?_)
  all_goals (refine ⟨rfl, _, ⟨hb3, ?_⟩, (hx2.mono fun _ _ e => .inr e).trans (hx3.mono fun _ _ e => .inl e), fun q hq => hl2.elim (fun e => .inl (e ▸ hq)) (fun e => .inr (by rw [e] at hq; injection hq with hq; omega))⟩
             have := ho2.ext hx3 (fun q hq e => by subst e; exact hl2.elim (fun e => hne _ (e ▸ hq) rfl) (fun e => by rw [e] at hq; injection hq with hq; omega))
             rw [List.length_append, show bys (l ++ m) = bys l ++ bys m from List.map_append ..]
             exact this)
  skip))
  all_goals (first | (fail_if_success refine goB 4 ?_) | (
  refine goB 4 ?_
  all_goals (refine WC.skip ?_)
  skip))
  skip))
  all_goals (refine Gn ?_)
  all_goals (refine WC.sr ?_)
  all_goals (refine Go ?_)
  all_goals (refine WL.step (ok_nilCheck rfl) rfl rfl rfl ?_)
  all_goals (refine Go ?_)
  all_goals (refine WL.ld rfl (by first | exact cell_blk hb rfl | assumption | exact cell_blk (by assumption) rfl) rfl rfl rfl ?_)
  all_goals (refine Go ?_)
  all_goals (refine WL.stepR (ok_append (sz := 1) (bytes := 1) rfl Tryz.underlying22 (show Tryz.prog.info? 5 = some Tryz.t5 by kernel_rfl) rfl rfl rfl rfl (by decide) rfl rfl ho hr (by intro c hc; obtain ⟨b, _, rfl⟩ := List.mem_map.1 hc; rfl) (by simp only [maxLen]; omega) (by omega)) rfl rfl rfl ?_
             rintro v2 h2 ⟨ho2, hx2, hl2⟩)
  all_goals (obtain ⟨B2, d2, rfl, _⟩ := id ho2.slice
             have hb2 := hx2.obj hb (fun e => hne _ e rfl)
             have lb := lt_of_some hb)
  all_goals (refine WL.step (ok_nilCheck rfl) rfl rfl rfl ?_)
  all_goals (refine Go ?_)
  all_goals (refine WL.stepR0 (okE_store (fun w => Tryz.sizeOf22 w) rfl rfl hb2 (Nat.le_of_ble_eq_true rfl) rfl rfl) rfl rfl ?_
             rintro _ h3 ⟨hb3, hx3⟩)
  all_goals (refine Gn ?_)
  all_goals (refine Gs [] ?_)
  all_goals (refine WC.sr ?_)
  all_goals (refine Go ?_)
  all_goals (refine Gt ?_)
  all_goals (refine ⟨rfl, _, ⟨hb3, ?_⟩, (hx2.mono fun _ _ e => .inr e).trans (hx3.mono fun _ _ e => .inl e), fun q hq => hl2.elim (fun e => .inl (e ▸ hq)) (fun e => .inr (by rw [e] at hq; injection hq with hq; omega))⟩
             have := ho2.ext hx3 (fun q hq e => by subst e; exact hl2.elim (fun e => hne _ (e ▸ hq) rfl) (fun e => by rw [e] at hq; injection hq with hq; omega))
             rw [List.length_append, show bys (l ++ m) = bys l ++ bys m from List.map_append ..]
             exact this)
set_option maxHeartbeats 2000000 in
set_option maxRecDepth 100000 in
theorem fw_size (k : Fw h b ty v l) (hd : Nat) (he : (if ty = true then 1 else 0) = hd) (hl : hd + 4 ≤ l.length) (hm : l.length ≤ 1000000) : CallsH Tryz.prog 126 ⟨[.pointer (some ⟨b, 0, none⟩)]⟩ h fun u h' => u = .tuple ⟨[In (numB ((l.drop hd).take 4)), .bool true]⟩ ∧ Ext No h h' := by
  have hb := k.blk
  have ho := k.own
  obtain ⟨B, d, rfl, _⟩ := id ho.slice
  have kh := fun h' => fw_head (h := h') ty
  rw [he] at kh
  have kg := fun h' (x : Ext No h h') => get_v l (ho.rd.ext0 x) hd hl hm
  refine calls [(0, _)] Tryz.func126 rfl Tryz.ntmps126 rfl ⟨rfl, trivial⟩ ?_
  all_goals (refine WC.sr ?_)
  all_goals (refine Go ?_)
  all_goals (refine WC.seq ?_)
  all_goals (refine WC.drawH (fun h' => Ext No h h') 15 15 rfl fol ?_)
  all_goals (refine WH.tk 0 rfl (fun hq hC => ok_move rfl) rfl rfl rfl ?_)
  all_goals (refine WH.tk 1 rfl (fun hq hC => ok_nilCheck rfl) rfl rfl rfl ?_)
  all_goals (refine WH.tk 2 rfl (fun hq hC => ok_fieldAddr rfl Tryz.underlying87 rfl (fun w => Tryz.sizeOf22 w)) rfl rfl rfl ?_)
  all_goals (refine WH.tk 3 rfl (fun hq hC => ok_load (fun w => Tryz.isAgg22 w) rfl (by first | exact hC.cell (by first | exact cell_blk hb rfl | assumption | exact cell_blk (by assumption) rfl) nos)) rfl rfl rfl ?_)
  all_goals (refine WH.tk 4 rfl (fun hq hC => ok_move rfl) rfl rfl rfl ?_)
  all_goals (refine WH.tk 5 rfl (fun hq hC => ok_nilCheck rfl) rfl rfl rfl ?_)
  all_goals (refine WH.tk 6 rfl (fun hq hC => ok_fieldAddr rfl Tryz.underlying87 rfl (fun w => Tryz.sizeOf85 w)) rfl rfl rfl ?_)
  all_goals (refine WH.tk 7 rfl (fun hq hC => ok_loadN (fun w => Tryz.isAgg85 w) (fun w => Tryz.sizeOf85 w) rfl rfl (by exact At.pre (xs := [_]) (ys := [_, _, _, _]) ((At.of_block hb).ext hC nos))) rfl rfl rfl ?_)
  all_goals (refine WH.one 8 (by kernel_rfl) ?_)
  all_goals (refine Comes1.call (vs := [_]) rfl rfl (fun a w => Tryz.call49 a w) rfl (kh _) rfl rfl rfl ?_ (fun _ => by kernel_rfl)
             rintro _ h1 ⟨rfl, hx1⟩)
  all_goals (refine ⟨fun _ => hx1, ?_⟩)
  all_goals (refine WH.one 9 (by kernel_rfl) ?_)
  all_goals (refine Comes1.call (vs := [_, _, _]) rfl rfl (fun a w => Tryz.call131 a w) rfl (kg _ hx1) rfl rfl rfl ?_ (fun _ => by kernel_rfl)
             rintro _ hq ⟨rfl, hz⟩
             replace hz := hz.symm
             subst hz)
  all_goals (refine ⟨fun _ => hx1, ?_⟩)
  all_goals (refine WH.tk 10 rfl (fun hq hC => ok_move rfl) rfl rfl rfl ?_)
  all_goals (refine WH.tk 11 rfl (fun hq hC => ok_extract rfl rfl) rfl rfl rfl ?_)
  all_goals (refine WH.tk 12 rfl (fun hq hC => ok_extract rfl rfl) rfl rfl rfl ?_)
  all_goals (refine WH.tk 13 rfl (fun hq hC => ok_assign rfl) rfl rfl rfl ?_)
  all_goals (refine WH.tk 14 rfl (fun hq hC => ok_assign rfl) rfl rfl rfl ?_)
  all_goals (refine WH.done (by kernel_rfl) ?_)
  all_goals (refine Gn ?_)
  all_goals (refine Gs [(4, _), (5, _)] ?_)
  all_goals (refine WC.sr ?_)
  all_goals (refine Go ?_)
  all_goals (refine Gs [(2, _), (3, _)] ?_)
  all_goals (refine Gt ?_)
  all_goals (exact ⟨rfl, by first | exact hx1 | exact hC⟩)
set_option maxHeartbeats 2000000 in
set_option maxRecDepth 100000 in
theorem fw_check (k : Fw h b ty v l) (n : Nat) (hn : 4 ≤ n ∧ n ≤ 65536) : CallsH Tryz.prog 127 ⟨[.pointer (some ⟨b, 0, none⟩), In (n : Int)]⟩ h fun u h' => u = In 0 ∧ h' = h := by
  have hb := k.blk
  refine calls [(0, _), (1, _)] Tryz.func127 rfl Tryz.ntmps127 rfl ⟨rfl, rfl, trivial⟩ ?_
  all_goals (refine WC.sr ?_)
  all_goals (refine Go ?_)
  all_goals (refine WC.seq ?_)
  all_goals (refine WC.block ?_)
  all_goals (refine WC.sr ?_)
  all_goals (refine Go ?_)
  all_goals (refine goC 1 2 ?_ ?_ <;> first | exact ⟨⟩ | refine Hb.mk fun hb => ?_ | skip)
  all_goals (first | (fail_if_success refine goB 1 ?_) | (
  refine goB 1 ?_
  all_goals (refine WC.sr ?_)
  all_goals (refine Go ?_)
  all_goals (refine Gs [(4, _)] ?_)
  all_goals (refine Gt ?_)
  all_goals (first | exact ⟨rfl, rfl⟩ | (exfalso; omega))
  skip))
  all_goals (first | (fail_if_success refine goB 2 ?_) | (
  refine goB 2 ?_
  all_goals (refine WC.sr ?_)
  all_goals (refine Go ?_)
  all_goals (refine WL.step (ok_nilCheck rfl) rfl rfl rfl ?_)
  all_goals (refine Go ?_)
  all_goals (refine WL.ld rfl (by first | exact cell_blk hb rfl | assumption | exact cell_blk (by assumption) rfl) rfl rfl rfl ?_)
  all_goals (refine Go ?_)
  all_goals (refine Gs [(8, _)] ?_)
  all_goals (refine goC 3 4 ?_ ?_ <;> first | exact ⟨⟩ | refine Hb.mk fun hb => ?_ | skip)
  all_goals (first | (fail_if_success refine goB 3 ?_) | (
  refine goB 3 ?_
  all_goals (refine WC.sr ?_)
  all_goals (refine Go ?_)
  all_goals (refine Gt ?_)
  all_goals (first | exact ⟨rfl, rfl⟩ | (exfalso; omega))
  skip))
  all_goals (first | (fail_if_success refine goB 4 ?_) | (
  refine goB 4 ?_
  all_goals (refine WC.skip ?_)
  skip))
  skip))
  all_goals (refine Gn ?_)
  all_goals (refine WC.sr ?_)
  all_goals (refine Go ?_)
  all_goals (refine Gt ?_)
  all_goals (first | exact ⟨rfl, rfl⟩ | (exfalso; omega))
set_option maxHeartbeats 2000000 in
set_option maxRecDepth 100000 in
theorem fw_whole (k : Fw h b ty v l) (hd n : Nat) (he : (if ty = true then 1 else 0) = hd) (hn : numB ((l.drop hd).take 4) = (n : Int)) (h4 : 4 ≤ n ∧ n ≤ 65536) (hl : hd + n ≤ l.length) (hm : l.length ≤ 1000000) :
    CallsH Tryz.prog 81 ⟨[.pointer (some ⟨b, 0, none⟩)]⟩ h fun u h' => u = .tuple ⟨[In ((hd + n : Nat) : Int), .bool true, In 0]⟩ ∧ Fw h' b ty v l ∧ Ext (fun q => q = b) h h' := by
  have hb := k.blk
  have lb := lt_of_some hb
  have ks := fw_size k hd he (by omega) hm
  rw [hn] at ks
  have kc := fun (g : Heap) (x : Ext No h g) => fw_check (k.ext0 x) n h4
  have kh := fun h' => fw_head (h := h') ty
  rw [he] at kh
  obtain ⟨B, d, rfl, _⟩ := id k.own.slice
  refine calls [(0, _)] Tryz.func81 rfl Tryz.ntmps81 rfl ⟨rfl, trivial⟩ ?_
  all_goals (refine WC.sr ?_)
  all_goals (refine Go ?_)
  all_goals (refine WC.seq ?_)
  all_goals (refine WC.sr ?_)
  all_goals (refine Go ?_)
  all_goals (refine WL.step (ok_nilCheck rfl) rfl rfl rfl ?_)
  all_goals (refine Go ?_)
  all_goals (refine WL.ld rfl (by first | exact cell_blk hb rfl | assumption | exact cell_blk (by assumption) rfl) rfl rfl rfl ?_)
  all_goals (refine Go ?_)
  all_goals (refine Gs [(0, _), (12, _)] ?_)
  all_goals (refine goC 1 2 ?_ ?_ <;> first | exact ⟨⟩ | refine Hb.mk fun hb => ?_ | skip)
  all_goals (first | (fail_if_success refine goB 1 ?_) | (
  refine goB 1 ?_
  all_goals (refine WC.seq ?_)
  all_goals (refine WC.drawE fol (by kernel_rfl) ?_)
  all_goals (refine WQ.stepE (ok_move rfl) rfl rfl rfl ?_)
  all_goals (refine WQ.stepE (ok_nilCheck rfl) rfl rfl rfl ?_)
  all_goals (refine WQ.stepE (ok_fieldAddr rfl Tryz.underlying87 rfl (fun w => Tryz.sizeOf41 w)) rfl rfl rfl ?_)
  all_goals (refine WQ.stepE (ok_load (fun w => Tryz.isAgg41 w) rfl (by first | assumption | exact cell_blk (by assumption) rfl)) rfl rfl rfl ?_)
  all_goals (refine WQ.stepE (ok_assign rfl) rfl rfl rfl ?_)
  all_goals (refine WQ.stepE (ok_assign rfl) rfl rfl rfl ?_)
  all_goals (refine WQ.stepE (ok_assign rfl) rfl rfl rfl ?_)
  all_goals (refine WQ.nil ?_)
  all_goals (refine Gn ?_)
  all_goals (refine Gs [(2, _), (3, _), (4, _)] ?_)
  all_goals (refine Gt ?_)
  all_goals (exact ⟨rfl, k3, X3⟩)
  skip))
  all_goals (first | (fail_if_success refine goB 2 ?_) | (
  refine goB 2 ?_
  all_goals (refine WC.skip ?_)
  skip))
  all_goals (refine Gn ?_)
  all_goals (refine WC.sr ?_)
  all_goals (refine Go ?_)
  all_goals (refine WL.call (vs := [_]) rfl (fun a w => Tryz.call126 a w) rfl (ks) rfl rfl rfl ?_
             rintro _ h1 ⟨rfl, hx1⟩)
  all_goals (have hb1 := hx1.obj hb nos)
  all_goals (refine Go ?_)
  all_goals (refine Gs [(0, _), (5, _), (6, _)] ?_)
  all_goals (refine WC.seq ?_)
  all_goals (refine WC.sr ?_)
  all_goals (refine Go ?_)
  all_goals (refine goC 3 4 ?_ ?_ <;> first | exact ⟨⟩ | refine Hb.mk fun hb => ?_ | skip)
  all_goals (first | (fail_if_success refine goB 3 ?_) | (
  refine goB 3 ?_
  all_goals (refine WC.sr ?_)
  all_goals (refine Go ?_)
  all_goals (refine Gs [(2, _), (3, _), (4, _)] ?_)
  all_goals (refine Gt ?_)
  all_goals (exact ⟨rfl, k3, X3⟩)
  skip))
  all_goals (first | (fail_if_success refine goB 4 ?_) | (
  refine goB 4 ?_
  all_goals (refine WC.skip ?_)
  skip))
  all_goals (refine Gn ?_)
  all_goals (refine WC.seq ?_)
  all_goals (refine WC.sr ?_)
  all_goals (refine Go ?_)
  all_goals (refine WL.call (vs := [_, _]) rfl (fun a w => Tryz.call127 a w) rfl (kc _ hx1) rfl rfl rfl ?_
             rintro _ hq ⟨rfl, hz⟩
             replace hz := hz.symm
             subst hz)
  all_goals (refine WL.step (ok_nilCheck rfl) rfl rfl rfl ?_)
  all_goals (refine Go ?_)
  all_goals (refine WL.stepR0 (okE_store (fun w => Tryz.sizeOf41 w) rfl rfl hb1 (Nat.le_of_ble_eq_true rfl) rfl rfl) rfl rfl ?_
             rintro _ h2 ⟨hb2, hx2⟩)
  all_goals (have k2 : Fw h2 b ty (.slice B l.length d) l := ⟨hb2, (k.ext0 hx1).own.ext hx2 (k.ext0 hx1).ne⟩)
  all_goals (refine Gn ?_)
  all_goals (refine Gs [(0, _), (5, _)] ?_)
  all_goals (refine WC.sr ?_)
  all_goals (refine Go ?_)
  all_goals (refine WL.step (ok_nilCheck rfl) rfl rfl rfl ?_)
  all_goals (refine Go ?_)
  all_goals (refine WL.ld rfl (by first | exact cell_blk hb2 rfl | assumption | exact cell_blk (by assumption) rfl) rfl rfl rfl ?_)
  all_goals (refine Go ?_)
  all_goals (refine Gs [(0, _), (5, _), (34, _)] ?_)
  all_goals (refine goC 5 6 ?_ ?_ <;> first | exact ⟨⟩ | refine Hb.mk fun hb => ?_ | skip)
  all_goals (first | (fail_if_success refine goB 5 ?_) | (
  refine goB 5 ?_
  all_goals (refine WC.seq ?_)
  all_goals (refine WC.drawE fol (by kernel_rfl) ?_)
  all_goals (refine WQ.stepE (ok_move rfl) rfl rfl rfl ?_)
  all_goals (refine WQ.stepE (ok_nilCheck rfl) rfl rfl rfl ?_)
  all_goals (refine WQ.stepE (ok_fieldAddr rfl Tryz.underlying87 rfl (fun w => Tryz.sizeOf41 w)) rfl rfl rfl ?_)
  all_goals (refine WQ.stepE (ok_load (fun w => Tryz.isAgg41 w) rfl (by first | assumption | exact cell_blk (by assumption) rfl)) rfl rfl rfl ?_)
  all_goals (refine WQ.stepE (ok_assign rfl) rfl rfl rfl ?_)
  all_goals (refine WQ.stepE (ok_assign rfl) rfl rfl rfl ?_)
  all_goals (refine WQ.stepE (ok_assign rfl) rfl rfl rfl ?_)
  all_goals (refine WQ.nil ?_)
  all_goals (refine Gn ?_)
  all_goals (refine Gs [(2, _), (3, _), (4, _)] ?_)
  all_goals (refine Gt ?_)
  all_goals (exact ⟨rfl, k3, X3⟩)
  skip))
  all_goals (first | (fail_if_success refine goB 6 ?_) | (
  refine goB 6 ?_
  all_goals (refine WC.skip ?_)
  skip))
  all_goals (refine Gn ?_)
  all_goals (refine WC.sr ?_)
  all_goals (refine Go ?_)
  all_goals (refine WL.step (ok_nilCheck rfl) rfl rfl rfl ?_)
  all_goals (refine Go ?_)
  all_goals (refine WL.step (ok_loadN (fun w => Tryz.isAgg85 w) (fun w => Tryz.sizeOf85 w) rfl rfl (by exact At.pre (xs := [_]) (ys := [_, _, _, _]) (At.of_block hb2))) rfl rfl rfl ?_)
  all_goals (refine WL.call (vs := [_]) rfl (fun a w => Tryz.call49 a w) rfl (kh _) rfl rfl rfl ?_
             rintro _ h3 ⟨rfl, hx3⟩)
  all_goals (have k3 := k2.ext0 hx3
             have hb3 := k3.blk
             have X3 : Ext (fun q => q = b) h h3 := (hx1.mono fun _ _ e => e.elim).trans (hx2.trans (hx3.mono fun _ _ e => e.elim)))
  all_goals (refine Go ?_)
  all_goals (refine Gs [(0, _), (7, _)] ?_)
  all_goals (refine WC.seq ?_)
  all_goals (refine WC.drawE fol (by kernel_rfl) ?_)
  all_goals (refine WQ.stepE (ok_move rfl) rfl rfl rfl ?_)
  all_goals (refine WQ.stepE (ok_move rfl) rfl rfl rfl ?_)
  all_goals (refine WQ.stepE (ok_move rfl) rfl rfl rfl ?_)
  all_goals (refine WQ.stepE (ok_nilCheck rfl) rfl rfl rfl ?_)
  all_goals (refine WQ.stepE (ok_fieldAddr rfl Tryz.underlying87 rfl (fun w => Tryz.sizeOf22 w)) rfl rfl rfl ?_)
  all_goals (refine WQ.stepE (ok_load (fun w => Tryz.isAgg22 w) rfl (by first | exact cell_blk hb3 rfl | assumption | exact cell_blk (by assumption) rfl)) rfl rfl rfl ?_)
  all_goals (refine WQ.stepE (ok_lenL rfl Tryz.underlying22 rfl) rfl rfl rfl ?_)
  all_goals (first | (refine WQ.stepE (OkP.bool_t (by omega) (ok_leq rfl rfl)) rfl rfl rfl ?_))
  all_goals (refine WQ.stepE (ok_assign rfl) rfl rfl rfl ?_)
  all_goals (refine WQ.stepE (ok_assign rfl) rfl rfl rfl ?_)
  all_goals (refine WQ.stepE (ok_assign rfl) rfl rfl rfl ?_)
  all_goals (refine WQ.nil ?_)
  all_goals (refine Gn ?_)
  all_goals (refine Gs [(2, _), (3, _), (4, _)] ?_)
  all_goals (refine Gt ?_)
  all_goals (exact ⟨rfl, k3, X3⟩)
set_option maxHeartbeats 2000000 in
set_option maxRecDepth 100000 in
theorem fw_begin (k : Fw h b ty v l) : CallsH Tryz.prog 53 ⟨[.pointer (some ⟨b, 0, none⟩)]⟩ h fun u h' => u = .tuple ⟨[]⟩ ∧ Fw h' b true v l ∧ Ext (fun q => q = b) h h' := by
  have kr := fw_ready k
  have hb := k.blk
  have ho := k.own
  have hne := k.ne
  obtain ⟨B, d, rfl, _⟩ := id ho.slice
  refine calls [(0, _)] Tryz.func53 rfl Tryz.ntmps53 rfl ⟨rfl, trivial⟩ ?_
  all_goals (refine WC.sr ?_)
  all_goals (refine Go ?_)
  all_goals (refine WL.call (vs := [_]) rfl (fun a w => Tryz.call65 a w) rfl (kr) rfl rfl rfl ?_
             rintro _ hz ⟨rfl, _⟩
             subst hz)
  all_goals (refine Gn ?_)
  all_goals (refine goC 1 2 ?_ ?_ <;> first | exact ⟨⟩ | refine Hb.mk fun hb => ?_ | skip)
  all_goals (first | (fail_if_success refine goB 1 ?_) | (
  refine goB 1 ?_
  all_goals (refine WC.region ?_)
  all_goals (refine Go ?_)
  all_goals (refine WL.step (ok_nilCheck rfl) rfl rfl rfl ?_)
  all_goals (refine Go ?_)
  all_goals (refine WL.stepR0 (okE_store (fun w => Tryz.sizeOf4 w) rfl rfl hb (Nat.le_of_ble_eq_true rfl) rfl rfl) rfl rfl ?_
             rintro _ h3 ⟨hb3, hx3⟩)
  all_goals (refine Gn ?_)
  skip))
  all_goals (first | (fail_if_success refine goB 2 ?_) | (
  refine goB 2 ?_
  all_goals (refine WC.skip ?_)
  skip))
  all_goals (refine Gn ?_)
  all_goals (refine retP_n [] trivial ?_)
  all_goals (exact ⟨rfl, ⟨hb3, ho.ext hx3 hne⟩, hx3⟩)
end
end Go.Proofs.YtdjjpbbhcidaaaaGreatDoor


/-
  FRAMES (layer 4), by the code: the next message, and what is left.
-/
namespace Go.Proofs.YtdjjpbbhcidaaaaGreatDoor
open Go Go.RK

theorem bys1 (l : List UInt8) : ∀ c ∈ bys l, c.oneCell' = true := fun c hc => by obtain ⟨b, _, rfl⟩ := List.mem_map.1 hc; rfl
set_option maxHeartbeats 2000000 in
set_option maxRecDepth 100000 in
theorem delete_byt {h : Heap} {A : Option Addr} {c k : Nat} (l : List UInt8) (ho : Own h (.slice A l.length c) 5 1 l.length (bys l)) (hk : 0 < k ∧ k ≤ l.length) (hm : l.length ≤ 1000000) :
    CallsH Tryz.prog 48 ⟨[.slice A l.length c, In 0, In (k : Int)]⟩ h fun u h' => Own h' u 5 1 (l.drop k).length (bys (l.drop k)) ∧ Ext (fun b => (Value.slice A l.length c).ownBlock = some b) h h' ∧ u.ownBlock = (Value.slice A l.length c).ownBlock := by
  obtain ⟨b, c', cs, hv, hb, hnc, hcm, hcl, hct⟩ := ho.block (by omega)
  simp only [Value.slice.injEq] at hv
  obtain ⟨rfl, _, rfl⟩ := hv
  simp only [Nat.mul_one] at hcl hct
  unfold maxLen at hcm
  have e3 : (l.drop k).length = l.length - k := List.length_drop ..
  have hrd := ho.rd.drop (l := k) (by omega)
  refine calls [(0, _), (1, _), (2, _)] Tryz.func48 rfl Tryz.ntmps48 rfl ⟨rfl, rfl, rfl, trivial⟩ ?_
  all_goals (refine WC.sr ?_)
  all_goals (refine Go ?_)
  all_goals (refine WC.sr ?_)
  all_goals (refine Go ?_)
  all_goals (refine WL.step (ok_slice_lhm Tryz.underlying22 (fun w => Tryz.sizeOf5 w) rfl rfl rfl rfl (by omega)) rfl rfl rfl ?_)
  all_goals (refine Gn ?_)
  all_goals (refine Gs [(0, _), (1, _), (2, _)] ?_)
  all_goals (refine WC.seq ?_)
  all_goals (refine WC.sr ?_)
  all_goals (refine Go ?_)
  all_goals (refine goC 1 2 ?_ ?_ <;> first | exact ⟨⟩ | refine Hb.mk fun hb => ?_ | skip)
  all_goals (first | (fail_if_success refine goB 1 ?_) | (
  refine goB 1 ?_
  all_goals (refine WC.sr ?_)
  all_goals (refine Go ?_)
  all_goals (refine Gs [(6, _)] ?_)
  all_goals (refine Gt ?_)
  all_goals (rw [e6] at hl3
             refine ⟨?_, (hx2.trans hx3).mono (fun q _ e => by simp [e, Value.ownBlock]), rfl⟩
             rw [e3]
             simp only [Int.toNat_zero, Nat.zero_add, Nat.mul_one] at ht3 ⊢
             exact Own.of_block (c := c) hb3 (by omega) (by unfold maxLen; omega) (by rw [hl3, Nat.mul_one]) (by rw [Nat.mul_one, ht3 _ (by omega), List.take_append_of_le_length (by omega), List.take_of_length_le (by omega)]))
  skip))
  all_goals (first | (fail_if_success refine goB 2 ?_) | (
  refine goB 2 ?_
  all_goals (refine WC.skip ?_)
  skip))
  all_goals (refine Gn ?_)
  all_goals (refine WC.sr ?_)
  all_goals (refine Go ?_)
  all_goals (refine Gs [(0, _), (1, _), (2, _), (7, _)] ?_)
  all_goals (refine WC.seq ?_)
  all_goals (refine WC.drawT 6 fol (by kernel_rfl) ?_)
  all_goals (show WS _ _ _ [_, _, _, _, _, _] _ _ _)
  all_goals (refine WS.step (ok_move rfl) rfl rfl rfl ?_)
  all_goals (refine WS.step (ok_move rfl) rfl rfl rfl ?_)
  all_goals (first | (refine WS.step (ok_slice_hN Tryz.underlying22 (fun w => Tryz.sizeOf5 w) rfl rfl (by omega)) rfl rfl rfl ?_) | (refine WS.step (ok_slice_h Tryz.underlying22 (fun w => Tryz.sizeOf5 w) rfl rfl (by omega)) rfl rfl rfl ?_))
  all_goals (refine WS.step (ok_move rfl) rfl rfl rfl ?_)
  all_goals (refine WS.step (ok_move rfl) rfl rfl rfl ?_)
  all_goals (first | (refine WS.step (ok_slice_lN Tryz.underlying22 (fun w => Tryz.sizeOf5 w) rfl rfl (by omega)) rfl rfl rfl ?_) | (refine WS.step (ok_slice_lS Tryz.underlying22 (fun w => Tryz.sizeOf5 w) rfl rfl (by omega)) rfl rfl rfl ?_) | (refine WS.step (ok_slice_l Tryz.underlying22 (fun w => Tryz.sizeOf5 w) rfl rfl (by omega)) rfl rfl rfl ?_))
  all_goals (refine WS.nil ?_)
  all_goals (show WL _ _ _ [_, _] _ _ _)
  all_goals (refine WL.stepR (okE_appendR (sz := 1) rfl Tryz.underlying22 (show Tryz.prog.info? 5 = some Tryz.t5 by kernel_rfl) rfl rfl rfl hb (by omega) hrd (fun v hv => bys1 l v (List.mem_of_mem_drop hv)) (by omega)) rfl rfl rfl ?_
             rintro _ h2 ⟨rfl, hb2, hx2⟩)
  all_goals (simp only [Int.toNat_zero, List.take_zero, List.nil_append, Nat.zero_add, Nat.zero_mul, Nat.mul_one] at hb2
             have e4 : List.drop k (bys l) = bys (l.drop k) := by simp [bys]
             rw [e4] at hb2
             have e5 : (bys (l.drop k)).length = l.length - k := by simp [bys]
             have e6 : (bys (l.drop k) ++ List.drop (l.length - k) cs).length = c := by rw [List.length_append, e5, List.length_drop, hcl]; omega)
  all_goals (refine WL.step (ok_assign rfl) rfl rfl rfl ?_)
  all_goals (refine WL.nil ?_)
  all_goals (refine Gn ?_)
  all_goals (refine Gs [(0, _), (7, _)] ?_)
  all_goals (refine WC.sr ?_)
  all_goals (refine Go ?_)
  all_goals (first | (refine WL.step (ok_slice_lhN Tryz.underlying22 (fun w => Tryz.sizeOf5 w) rfl rfl rfl (by omega)) rfl rfl rfl ?_) | (refine WL.step (ok_slice_lh Tryz.underlying22 (fun w => Tryz.sizeOf5 w) rfl rfl rfl (by omega)) rfl rfl rfl ?_))
  all_goals (refine WL.stepR0 (okE_clear rfl Tryz.underlying22 (fun w => Tryz.zeroValue5 w) rfl (by first | rfl | assumption | exact (if_neg (by omega)).trans (congrArg some (Addr.add_lit _ _ _))) (by omega) hb2 (by show 0 + _ * 1 + _ * 1 ≤ _; simp [e3]; omega) (by simp [Value.cells, Value.oneCell'])) rfl rfl ?_
             rintro _ h3 ⟨cs3, hb3, hl3, ht3, hx3⟩)
  all_goals (refine Gn ?_)
  all_goals (refine Gs [(0, _)] ?_)
  all_goals (refine WC.sr ?_)
  all_goals (refine Go ?_)
  all_goals (refine Gt ?_)
  all_goals (rw [e6] at hl3
             refine ⟨?_, (hx2.trans hx3).mono (fun q _ e => by simp [e, Value.ownBlock]), rfl⟩
             rw [e3]
             simp only [Int.toNat_zero, Nat.zero_add, Nat.mul_one] at ht3 ⊢
             exact Own.of_block (c := c) hb3 (by omega) (by unfold maxLen; omega) (by rw [hl3, Nat.mul_one]) (by rw [Nat.mul_one, ht3 _ (by omega), List.take_append_of_le_length (by omega), List.take_of_length_le (by omega)]))
end Go.Proofs.YtdjjpbbhcidaaaaGreatDoor


/-
  FRAMES (layer 4), by the code: the next message.
-/
namespace Go.Proofs.YtdjjpbbhcidaaaaGreatDoor
open Go Go.RK

def kindB (ty : Bool) (l : List UInt8) : UInt8 := if ty = true then l.headD 0 else 0
section
variable {h h' : Heap} {b : Nat} {ty : Bool} {v : Value} {l : List UInt8} {S : Nat → Prop}
set_option maxHeartbeats 2000000 in
set_option maxRecDepth 100000 in
theorem fw_peek (k : Fw h b ty v l) (hd n : Nat) (he : (if ty = true then 1 else 0) = hd) (hn : numB ((l.drop hd).take 4) = (n : Int)) (h4 : 4 ≤ n ∧ n ≤ 65536) (hl : hd + n ≤ l.length) (hm : l.length ≤ 1000000) :
    CallsH Tryz.prog 47 ⟨[.pointer (some ⟨b, 0, none⟩)]⟩ h fun u h' => ∃ w, u = .tuple ⟨[.agg ⟨[By (kindB ty l), w]⟩, .bool true, In 0]⟩ ∧ Own h' w 5 1 (n - 4) (bys ((l.drop (hd + 4)).take (n - 4))) ∧ Fw h' b ty v l ∧ Ext (fun q => q = b) h h' ∧ ∀ q, w.ownBlock = some q → h.size ≤ q := by
  have kr := fun (h' : Heap) (k : Fw h' b ty v l) => fw_ready k
  have kw := fun (h' : Heap) (k : Fw h' b ty v l) => fw_whole k hd n he hn h4 hl hm
  have kh := fun h' => fw_head (h := h') ty
  rw [he] at kh
  obtain ⟨B, d, rfl, _⟩ := id k.own.slice
  have hln : ((l.drop (hd + 4)).take (n - 4)).length = n - 4 := by simp; omega
  have hcap : l.length ≤ d := by
    obtain ⟨A1, c1, hv, hcap, _⟩ := id k.own.rd
    simp only [Value.slice.injEq] at hv
    obtain ⟨_, _, rfl⟩ := hv
    exact hcap
  obtain ⟨m, hme⟩ : ∃ m, m = (l.drop (hd + 4)).take (n - 4) := ⟨_, rfl⟩
  rw [← hme] at hln ⊢
  have cap := fun (g : Heap) (k : Fw g b ty (.slice B l.length d) l) (e : ty = true) => (show ∃ bb o, B = some ⟨bb, o, none⟩ ∧ At g bb o [By (kindB ty l)] by
    obtain ⟨bb, o, eA, _, hat⟩ := Rd.at_ k.own.rd (by omega)
    subst e
    cases l with
    | nil => simp at hl; omega
    | cons x l => exact ⟨bb, o, eA, At.pre (xs := [By x]) hat⟩)
  cases ty
  all_goals
    refine calls [(0, _)] Tryz.func47 rfl Tryz.ntmps47 rfl ⟨rfl, trivial⟩ ?_
    all_goals (refine WC.sr ?_)
    all_goals (refine WL.stepR (okE_alloc (fun w => Tryz.zeroValue38 w)) rfl rfl rfl ?_
               rintro _ h1 ⟨b1, rfl, hg1, hb1, hx1⟩)
    all_goals (have k1 := k.ext0 hx1
               have lb := lt_of_some k.blk)
    all_goals (refine Go ?_)
    all_goals (refine WC.seq ?_)
    all_goals (refine WC.sr ?_)
    all_goals (refine Go ?_)
    all_goals (refine WL.call (vs := [_]) rfl (fun a w => Tryz.call65 a w) rfl (kr _ k1) rfl rfl rfl ?_
               rintro _ hq ⟨rfl, hz⟩
               replace hz := hz.symm
               subst hz)
    all_goals (refine Go ?_)
    all_goals (refine Gs [(0, _), (2, _), (11, _)] ?_)
    all_goals (refine goC 1 2 ?_ ?_ <;> first | exact ⟨⟩ | refine Hb.mk fun hb => ?_ | skip)
    all_goals (first | (fail_if_success refine goB 1 ?_) | (
    refine goB 1 ?_
    all_goals (refine WC.sr ?_)
    all_goals (refine WL.step (ok_buildF (vs := []) (cs := [_, _]) (fun | [] => [(.int .u8 0), (.slice none 0 0)] | _ => []) rfl rfl (by kernel_rfl)) rfl rfl rfl ?_)
    all_goals (refine WL.stepR0 (okE_storeW (fun w => Tryz.sizeOf38 w) rfl rfl rfl (by assumption) rfl (by simp [Value.oneCell'])) rfl rfl ?_
               rintro _ h1 ⟨hb1, hx1⟩)
    all_goals (refine Go ?_)
    all_goals (refine WC.ret ?_)
    all_goals (repeat' (with_reducible first | refine thenP_r ?_ | refine blockP_r ?_))
    all_goals (refine retP_3 _ _ _ ⟨⟨_, rfl, ld_blk (fun w => Tryz.isAgg38 w) (fun w => Tryz.sizeOf38 w) (by assumption) rfl⟩, rfl, rfl, trivial⟩ ?_)
    all_goals (exact ⟨_, rfl, hln ▸ how6, kf6, X6, fun q hq => by have := hfw q hq; omega⟩)
    skip))
    all_goals (first | (fail_if_success refine goB 2 ?_) | (
    refine goB 2 ?_
    all_goals (refine WC.skip ?_)
    skip))
    all_goals (refine Gn ?_)
    all_goals (refine WC.sr ?_)
    all_goals (refine Go ?_)
    all_goals (refine WL.call (vs := [_]) rfl (fun a w => Tryz.call81 a w) rfl (kw _ k1) rfl rfl rfl ?_
               rintro _ h2 ⟨rfl, k2, hx2⟩)
    all_goals (have hb2 := k2.blk
               have hb12 := hx2.obj hb1 (fun e => by omega)
               have hs2 := (k2.own.rd.drop (l := hd + 4) (by omega)).take (k := n - 4) (by omega)
               have hmb : ((bys l).drop ((hd + 4) * 1)).take ((n - 4) * 1) = bys ((l.drop (hd + 4)).take (n - 4)) := by simp [bys]
               rw [hmb, ← hme, ← hln] at hs2
               have lb2 := lt_of_some hb2
               have lb12 := lt_of_some hb12
               have X : Ext No h2 h2 := .refl _ _)
    all_goals (refine Go ?_)
    all_goals (refine Gs [(0, _), (2, _), (5, _), (6, _), (7, _)] ?_)
    all_goals (refine WC.seq ?_)
    all_goals (refine WC.sr ?_)
    all_goals (refine Go ?_)
    all_goals (refine goC 3 4 ?_ ?_ <;> first | exact ⟨⟩ | refine Hb.mk fun hb => ?_ | skip)
    all_goals (first | (fail_if_success refine goB 3 ?_) | (
    refine goB 3 ?_
    all_goals (refine WC.sr ?_)
    all_goals (refine WL.step (ok_buildF (vs := []) (cs := [_, _]) (fun | [] => [(.int .u8 0), (.slice none 0 0)] | _ => []) rfl rfl (by kernel_rfl)) rfl rfl rfl ?_)
    all_goals (refine Go ?_)
    all_goals (refine WL.stepR0 (okE_storeW (fun w => Tryz.sizeOf38 w) rfl rfl rfl (by assumption) rfl (by simp [Value.oneCell'])) rfl rfl ?_
               rintro _ h1 ⟨hb1, hx1⟩)
    all_goals (refine Go ?_)
    all_goals (refine Gs [(2, _), (3, _), (4, _)] ?_)
    all_goals (refine WC.ret ?_)
    all_goals (repeat' (with_reducible first | refine thenP_r ?_ | refine blockP_r ?_))
    all_goals (refine retP_3 _ _ _ ⟨⟨_, rfl, ld_blk (fun w => Tryz.isAgg38 w) (fun w => Tryz.sizeOf38 w) (by assumption) rfl⟩, rfl, rfl, trivial⟩ ?_)
    all_goals (exact ⟨_, rfl, hln ▸ how6, kf6, X6, fun q hq => by have := hfw q hq; omega⟩)
    skip))
    all_goals (first | (fail_if_success refine goB 4 ?_) | (
    refine goB 4 ?_
    all_goals (refine WC.skip ?_)
    skip))
    all_goals (refine Gn ?_)
    all_goals (refine Gs [(0, _), (2, _), (5, _)] ?_)
    all_goals (refine WC.seq ?_)
    all_goals (refine WC.drawH (fun h' => Ext No h2 h') 15 16 rfl fol ?_)
    all_goals (refine WH.tk 0 rfl (fun hq hC => ok_move rfl) rfl rfl rfl ?_)
    all_goals (refine WH.tk 1 rfl (fun hq hC => ok_nilCheck rfl) rfl rfl rfl ?_)
    all_goals (refine WH.tk 2 rfl (fun hq hC => ok_fieldAddr rfl Tryz.underlying87 rfl (fun w => Tryz.sizeOf22 w)) rfl rfl rfl ?_)
    all_goals (refine WH.tk 3 rfl (fun hq hC => ok_load (fun w => Tryz.isAgg22 w) rfl (by first | exact hC.cell (by first | exact At.pre (xs := [_]) (ys := [_, _, _]) (At.tl ((At.of_block hb2).ext hC nos)) | assumption | exact cell_blk (by assumption) rfl) nos)) rfl rfl rfl ?_)
    all_goals (refine WH.tk 4 rfl (fun hq hC => ok_move rfl) rfl rfl rfl ?_)
    all_goals (refine WH.tk 5 rfl (fun hq hC => ok_nilCheck rfl) rfl rfl rfl ?_)
    all_goals (refine WH.tk 6 rfl (fun hq hC => ok_fieldAddr rfl Tryz.underlying87 rfl (fun w => Tryz.sizeOf85 w)) rfl rfl rfl ?_)
    all_goals (refine WH.tk 7 rfl (fun hq hC => ok_loadN (fun w => Tryz.isAgg85 w) (fun w => Tryz.sizeOf85 w) rfl rfl (by exact At.pre (xs := [_]) (ys := [_, _, _, _]) ((At.of_block hb2).ext hC nos))) rfl rfl rfl ?_)
    all_goals (refine WH.tk 10 rfl (fun hq hC => ok_move rfl) rfl rfl rfl ?_)
    all_goals (refine WH.two 8 14 (by kernel_rfl) (Br.out (i := 5006) ?_) (Br.out (i := 5007) ?_))
    all_goals (first | (fail_if_success refine goB 5006 ?_) | (
    refine goB 5006 ?_
    all_goals (refine Comes1.call (vs := [_]) rfl rfl (fun a w => Tryz.call49 a w) rfl (kh _) rfl rfl rfl ?_ (fun _ => by kernel_rfl)
               rintro _ h3 ⟨rfl, hx3⟩
               replace X := X.trans hx3
               try (replace hb8 := hx3.obj hb8 nos))
    all_goals (refine ⟨fun _ => X, ?_⟩)
    all_goals (first | (refine WH.tk 9 rfl (fun hq hC => ok_addI rfl rfl (by omega)) rfl rfl rfl ?_) | (refine WH.tk 9 rfl (fun hq hC => ok_add rfl rfl) rfl rfl rfl ?_))
    all_goals (refine WH.tk 11 rfl (fun hq hC => ok_slice_lhN (l := hd + 4) (k := hd + n) Tryz.underlying22 (fun w => Tryz.sizeOf5 w) rfl rfl rfl (by omega)) rfl rfl rfl ?_)
    all_goals (rw [show hd + n - (hd + 4) = m.length by omega])
    all_goals (refine WH.two 12 14 (by kernel_rfl) (Br.out (i := 5006) ?_) (Br.out (i := 5007) ?_))
    all_goals (first | (fail_if_success refine goB 5006 ?_) | (
    refine goB 5006 ?_
    all_goals (refine Comes1.call (vs := [_]) rfl rfl (fun a w => Tryz.call41 a w) rfl (clone_byt m (hs2.ext0 X) (by omega)) rfl rfl rfl ?_ (fun _ => by kernel_rfl)
               rintro w3 h4 ⟨how, hx4, hfw⟩
               have hfw : ∀ q, w3.ownBlock = some q → h2.size ≤ q := fun q hq => by have := hfw q hq; have := X.size; omega
               obtain ⟨A3, c3, rfl, _⟩ := id how.slice
               replace X := X.trans hx4
               try (replace hb8 := hx4.obj hb8 nos))
    all_goals (refine ⟨fun _ => X, ?_⟩)
    all_goals (refine WH.tk 13 rfl (fun hq hC => ok_buildF (vs := [_]) (cs := [_, _]) (fun | [a1] => [(.int .u8 0), a1] | _ => []) rfl rfl (by kernel_rfl)) rfl rfl rfl ?_)
    all_goals (refine WH.one 14 (by kernel_rfl) ?_)
    all_goals (refine Comes1.run rfl (okE_alloc (fun w => Tryz.zeroValue38 w)) rfl rfl rfl ?_ (fun _ => by kernel_rfl)
               rintro _ h5 ⟨b8, rfl, hg8, hb8, hx5⟩
               have hg8 : h2.size ≤ b8 := by have := X.size; omega
               replace X := X.trans hx5
               try (replace how := how.ext hx5 (fun _ _ => nos)))
    all_goals (refine ⟨fun _ => X, ?_⟩)
    all_goals (refine WH.one 15 (by kernel_rfl) ?_)
    all_goals (refine Comes1.run0 rfl (okE_storeW (fun w => Tryz.sizeOf38 w) rfl rfl rfl hb8 rfl (by simp [Value.oneCell'])) rfl rfl ?_ (fun _ => by kernel_rfl)
               rintro _ h6 ⟨hb86, hx6⟩
               have hb26 := hx6.obj (X.obj hb2 nos) (fun e => by omega)
               have hb126 := hx6.obj (X.obj hb12 nos) (fun e => by omega)
               have how6 := how.ext hx6 (fun q hq e => own_ne how hb8 (by decide) (e ▸ hq))
               have kf6 : Fw h6 b _ (.slice B l.length d) l := (k2.ext0 X).ext hx6 (fun e => by omega) (fun q hq e => own_ne (k2.ext0 X).own hb8 (by decide) (e ▸ hq))
               have X6 : Ext (fun q => q = b) h h6 := (hx1.mono fun _ _ e => e.elim).trans (hx2.trans ((X.trans' hx6 (fun q hq e => by omega)).mono fun _ _ e => e.elim))
               have hl1 := hx1.size
               have hl2 := hx2.size
               replace hb8 := hb86
               clear hb86)
    all_goals (refine ⟨fun e => (by cases e), ?_⟩)
    all_goals (refine WH.done (by kernel_rfl) ?_)
    skip))
    all_goals (first | (fail_if_success refine goB 5007 ?_) | (
    refine goB 5007 ?_
    all_goals (refine Comes1.run rfl (okE_alloc (fun w => Tryz.zeroValue38 w)) rfl rfl rfl ?_ (fun _ => by kernel_rfl)
               rintro _ h5 ⟨b8, rfl, hg8, hb8, hx5⟩
               have hg8 : h2.size ≤ b8 := by have := X.size; omega
               replace X := X.trans hx5
               try (replace how := how.ext hx5 (fun _ _ => nos)))
    all_goals (refine ⟨fun _ => X, ?_⟩)
    all_goals (refine WH.one 12 (by kernel_rfl) ?_)
    all_goals (refine Comes1.call (vs := [_]) rfl rfl (fun a w => Tryz.call41 a w) rfl (clone_byt m (hs2.ext0 X) (by omega)) rfl rfl rfl ?_ (fun _ => by kernel_rfl)
               rintro w3 h4 ⟨how, hx4, hfw⟩
               have hfw : ∀ q, w3.ownBlock = some q → h2.size ≤ q := fun q hq => by have := hfw q hq; have := X.size; omega
               obtain ⟨A3, c3, rfl, _⟩ := id how.slice
               replace X := X.trans hx4
               try (replace hb8 := hx4.obj hb8 nos))
    all_goals (refine ⟨fun _ => X, ?_⟩)
    all_goals (refine WH.tk 13 rfl (fun hq hC => ok_buildF (vs := [_]) (cs := [_, _]) (fun | [a1] => [(.int .u8 0), a1] | _ => []) rfl rfl (by kernel_rfl)) rfl rfl rfl ?_)
    all_goals (refine WH.one 15 (by kernel_rfl) ?_)
    all_goals (refine Comes1.run0 rfl (okE_storeW (fun w => Tryz.sizeOf38 w) rfl rfl rfl hb8 rfl (by simp [Value.oneCell'])) rfl rfl ?_ (fun _ => by kernel_rfl)
               rintro _ h6 ⟨hb86, hx6⟩
               have hb26 := hx6.obj (X.obj hb2 nos) (fun e => by omega)
               have hb126 := hx6.obj (X.obj hb12 nos) (fun e => by omega)
               have how6 := how.ext hx6 (fun q hq e => own_ne how hb8 (by decide) (e ▸ hq))
               have kf6 : Fw h6 b _ (.slice B l.length d) l := (k2.ext0 X).ext hx6 (fun e => by omega) (fun q hq e => own_ne (k2.ext0 X).own hb8 (by decide) (e ▸ hq))
               have X6 : Ext (fun q => q = b) h h6 := (hx1.mono fun _ _ e => e.elim).trans (hx2.trans ((X.trans' hx6 (fun q hq e => by omega)).mono fun _ _ e => e.elim))
               have hl1 := hx1.size
               have hl2 := hx2.size
               replace hb8 := hb86
               clear hb86)
    all_goals (refine ⟨fun e => (by cases e), ?_⟩)
    all_goals (refine WH.done (by kernel_rfl) ?_)
    skip))
    skip))
    all_goals (first | (fail_if_success refine goB 5007 ?_) | (
    refine goB 5007 ?_
    all_goals (refine Comes1.run rfl (okE_alloc (fun w => Tryz.zeroValue38 w)) rfl rfl rfl ?_ (fun _ => by kernel_rfl)
               rintro _ h5 ⟨b8, rfl, hg8, hb8, hx5⟩
               have hg8 : h2.size ≤ b8 := by have := X.size; omega
               replace X := X.trans hx5
               try (replace how := how.ext hx5 (fun _ _ => nos)))
    all_goals (refine ⟨fun _ => X, ?_⟩)
    all_goals (refine WH.one 8 (by kernel_rfl) ?_)
    all_goals (refine Comes1.call (vs := [_]) rfl rfl (fun a w => Tryz.call49 a w) rfl (kh _) rfl rfl rfl ?_ (fun _ => by kernel_rfl)
               rintro _ h3 ⟨rfl, hx3⟩
               replace X := X.trans hx3
               try (replace hb8 := hx3.obj hb8 nos))
    all_goals (refine ⟨fun _ => X, ?_⟩)
    all_goals (first | (refine WH.tk 9 rfl (fun hq hC => ok_addI rfl rfl (by omega)) rfl rfl rfl ?_) | (refine WH.tk 9 rfl (fun hq hC => ok_add rfl rfl) rfl rfl rfl ?_))
    all_goals (refine WH.tk 11 rfl (fun hq hC => ok_slice_lhN (l := hd + 4) (k := hd + n) Tryz.underlying22 (fun w => Tryz.sizeOf5 w) rfl rfl rfl (by omega)) rfl rfl rfl ?_)
    all_goals (rw [show hd + n - (hd + 4) = m.length by omega])
    all_goals (refine WH.one 12 (by kernel_rfl) ?_)
    all_goals (refine Comes1.call (vs := [_]) rfl rfl (fun a w => Tryz.call41 a w) rfl (clone_byt m (hs2.ext0 X) (by omega)) rfl rfl rfl ?_ (fun _ => by kernel_rfl)
               rintro w3 h4 ⟨how, hx4, hfw⟩
               have hfw : ∀ q, w3.ownBlock = some q → h2.size ≤ q := fun q hq => by have := hfw q hq; have := X.size; omega
               obtain ⟨A3, c3, rfl, _⟩ := id how.slice
               replace X := X.trans hx4
               try (replace hb8 := hx4.obj hb8 nos))
    all_goals (refine ⟨fun _ => X, ?_⟩)
    all_goals (refine WH.tk 13 rfl (fun hq hC => ok_buildF (vs := [_]) (cs := [_, _]) (fun | [a1] => [(.int .u8 0), a1] | _ => []) rfl rfl (by kernel_rfl)) rfl rfl rfl ?_)
    all_goals (refine WH.one 15 (by kernel_rfl) ?_)
    all_goals (refine Comes1.run0 rfl (okE_storeW (fun w => Tryz.sizeOf38 w) rfl rfl rfl hb8 rfl (by simp [Value.oneCell'])) rfl rfl ?_ (fun _ => by kernel_rfl)
               rintro _ h6 ⟨hb86, hx6⟩
               have hb26 := hx6.obj (X.obj hb2 nos) (fun e => by omega)
               have hb126 := hx6.obj (X.obj hb12 nos) (fun e => by omega)
               have how6 := how.ext hx6 (fun q hq e => own_ne how hb8 (by decide) (e ▸ hq))
               have kf6 : Fw h6 b _ (.slice B l.length d) l := (k2.ext0 X).ext hx6 (fun e => by omega) (fun q hq e => own_ne (k2.ext0 X).own hb8 (by decide) (e ▸ hq))
               have X6 : Ext (fun q => q = b) h h6 := (hx1.mono fun _ _ e => e.elim).trans (hx2.trans ((X.trans' hx6 (fun q hq e => by omega)).mono fun _ _ e => e.elim))
               have hl1 := hx1.size
               have hl2 := hx2.size
               replace hb8 := hb86
               clear hb86)
    all_goals (refine ⟨fun e => (by cases e), ?_⟩)
    all_goals (refine WH.done (by kernel_rfl) ?_)
    skip))
    all_goals (refine Gn ?_)
    all_goals (refine Gs [(0, _), (2, _), (8, _)] ?_)
    all_goals (refine WC.seq ?_)
    all_goals (refine WC.sr ?_)
    all_goals (refine Go ?_)
    all_goals (refine WL.step (ok_nilCheck rfl) rfl rfl rfl ?_)
    all_goals (refine Go ?_)
    all_goals (refine WL.ld rfl (by first | exact At.pre (xs := [_]) (ys := [_, _, _, _]) (At.of_block hb26) | assumption | exact cell_blk (by assumption) rfl) rfl rfl rfl ?_)
    all_goals (refine Gn ?_)
    all_goals (refine Gs [(0, _), (2, _), (8, _), (41, _)] ?_)
    all_goals (refine goC 5 6 ?_ ?_ <;> first | exact ⟨⟩ | refine Hb.mk fun hb => ?_ | skip)
    all_goals (first | (fail_if_success refine goB 5 ?_) | (
    refine goB 5 ?_
    all_goals (refine WC.region ?_)
    all_goals (refine Go ?_)
    all_goals (refine WL.step (ok_nilCheck rfl) rfl rfl rfl ?_)
    all_goals (refine Go ?_)
    all_goals (refine WL.ld rfl (by first | exact At.pre (xs := [_]) (ys := [_, _, _]) (At.tl (At.of_block hb26)) | assumption | exact cell_blk (by assumption) rfl) rfl rfl rfl ?_)
    all_goals (obtain ⟨bb, o, rfl, hat⟩ := cap _ kf6 rfl
               have hat0 := hat.get (p := o + 0 * 1) 0 rfl (by omega))
    all_goals (refine WL.step (ok_idxAddrA Tryz.underlying22 (fun w => Tryz.sizeOf5 w) rfl rfl rfl (by first | omega | (simp <;> omega)) (by first | rfl | assumption) (k := 0)) rfl rfl rfl ?_)
    all_goals (refine WL.ld rfl (by first | exact hat0 | assumption | exact cell_blk (by assumption) rfl) rfl rfl rfl ?_)
    all_goals (refine Go ?_)
    all_goals (refine WL.stepR0 (okE_store (fun w => Tryz.sizeOf5 w) rfl rfl hb8 (Nat.le_of_ble_eq_true rfl) rfl rfl) rfl rfl ?_
               rintro _ h7 ⟨hb8z, hx7⟩
               replace X6 := X6.trans' hx7 (fun q hq e => by omega)
               replace how6 := how6.ext hx7 (fun q hq e => own_ne how6 hb8 (by decide) (e ▸ hq))
               replace kf6 := kf6.ext hx7 (fun e => by omega) (fun q hq e => own_ne kf6.own hb8 (by decide) (e ▸ hq))
               replace hb126 := hx7.obj hb126 (fun e => by omega)
               replace hb8 := hb8z)
    all_goals (refine Gn ?_)
    skip))
    all_goals (first | (fail_if_success refine goB 6 ?_) | (
    refine goB 6 ?_
    all_goals (refine WC.skip ?_)
    skip))
    all_goals (refine Gn ?_)
    all_goals (refine WC.sr ?_)
    all_goals (refine WL.step (ok_loadN (fun w => Tryz.isAgg38 w) (fun w => Tryz.sizeOf38 w) rfl rfl (by exact At.of_block hb8)) rfl rfl rfl ?_)
    all_goals (refine WL.stepR0 (okE_storeW (fun w => Tryz.sizeOf38 w) rfl rfl rfl hb126 rfl (by simp [Value.oneCell'])) rfl rfl ?_
               rintro _ h9 ⟨hb9, hx9⟩
               replace X6 := X6.trans' hx9 (fun q hq e => by omega)
               replace how6 := how6.ext hx9 (fun q hq e => own_ne how6 hb126 (by decide) (e ▸ hq))
               replace kf6 := kf6.ext hx9 (fun e => by omega) (fun q hq e => own_ne kf6.own hb126 (by decide) (e ▸ hq)))
    all_goals (refine Go ?_)
    all_goals (refine Gs [(2, _), (3, _), (4, _)] ?_)
    all_goals (refine WC.ret ?_)
    all_goals (repeat' (with_reducible first | refine thenP_r ?_ | refine blockP_r ?_))
    all_goals (refine retP_3 _ _ _ ⟨⟨_, rfl, ld_blk (fun w => Tryz.isAgg38 w) (fun w => Tryz.sizeOf38 w) (by assumption) rfl⟩, rfl, rfl, trivial⟩ ?_)
    all_goals (exact ⟨_, rfl, hln ▸ how6, kf6, X6, fun q hq => by have := hfw q hq; omega⟩)
end
end Go.Proofs.YtdjjpbbhcidaaaaGreatDoor


/-
  FRAMES (layer 4), by the code: the next message, taken.
-/
namespace Go.Proofs.YtdjjpbbhcidaaaaGreatDoor
open Go Go.RK

section
variable {h h' : Heap} {b : Nat} {ty : Bool} {v : Value} {l : List UInt8} {S : Nat → Prop}
set_option maxHeartbeats 2000000 in
set_option maxRecDepth 100000 in
theorem fw_next (k : Fw h b ty v l) (hd n : Nat) (he : (if ty = true then 1 else 0) = hd) (hn : numB ((l.drop hd).take 4) = (n : Int)) (h4 : 4 ≤ n ∧ n ≤ 65536) (hl : hd + n ≤ l.length) (hm : l.length ≤ 1000000) :
    CallsH Tryz.prog 23 ⟨[.pointer (some ⟨b, 0, none⟩)]⟩ h fun u h' => ∃ w v', u = .tuple ⟨[.agg ⟨[By (kindB ty l), w]⟩, .bool true, In 0]⟩ ∧ Own h' w 5 1 (n - 4) (bys ((l.drop (hd + 4)).take (n - 4))) ∧ Fw h' b ty v' (l.drop (hd + n)) ∧ Ext (fun q => q = b ∨ v.ownBlock = some q) h h' ∧ (∀ q, w.ownBlock = some q → h.size ≤ q) ∧ v'.ownBlock = v.ownBlock := by
  have kp := fun (h' : Heap) (k : Fw h' b ty v l) => fw_peek k hd n he hn h4 hl hm
  have kh := fun h' => fw_head (h := h') ty
  rw [he] at kh
  have hne := k.ne
  have hbl : ∀ q, v.ownBlock = some q → q < h.size := fun q hq => k.own.lt hq
  obtain ⟨B, d, rfl, _⟩ := id k.own.slice
  obtain ⟨m, hme⟩ : ∃ m, m = (l.drop (hd + 4)).take (n - 4) := ⟨_, rfl⟩
  rw [← hme] at kp ⊢
  have kd := fun (h' : Heap) (k : Fw h' b ty (.slice B l.length d) l) => delete_byt (k := hd + n) l k.own (by omega) hm
  refine calls [(0, _)] Tryz.func23 rfl Tryz.ntmps23 rfl ⟨rfl, trivial⟩ ?_
  all_goals (refine WC.sr ?_)
  all_goals (refine WL.stepR (okE_alloc (fun w => Tryz.zeroValue38 w)) rfl rfl rfl ?_
             rintro _ h1 ⟨b1, rfl, hg1, hb1, hx1⟩)
  all_goals (have k1 := k.ext0 hx1
             have lb := lt_of_some k.blk)
  all_goals (refine Go ?_)
  all_goals (refine WC.sr ?_)
  all_goals (refine Go ?_)
  all_goals (refine WL.call (vs := [_]) rfl (fun a w => Tryz.call47 a w) rfl (kp _ k1) rfl rfl rfl ?_
             rintro _ h2 ⟨w2, rfl, how, k2, hx2, hfw⟩)
  all_goals (obtain ⟨A2, c2, rfl, _⟩ := id how.slice
             have hb12 := hx2.obj hb1 (fun e => by omega)
             have l1 := hx1.size
             have l2 := hx2.size)
  all_goals (refine Go ?_)
  all_goals (refine WL.stepR (okE_alloc (fun w => Tryz.zeroValue38 w)) rfl rfl rfl ?_
             rintro _ h3 ⟨b5, rfl, hg5, hb5, hx3⟩)
  all_goals (refine WL.stepR0 (okE_storeW (fun w => Tryz.sizeOf38 w) rfl rfl rfl hb5 rfl (by simp [Value.oneCell'])) rfl rfl ?_
             rintro _ h4 ⟨hb54, hx4⟩
             have X : Ext No h2 h4 := hx3.trans' hx4 (fun q hq e => by omega)
             have k4 := k2.ext0 X
             have how4 := how.ext X (fun _ _ => nos)
             have hb14 := X.obj hb12 nos
             have hb24 := k4.blk
             have l4 := X.size
             clear hb1 hb12 hb5 hx3 hx4
             have nB : (Value.slice B l.length d).ownBlock ≠ some b := fun e => hne b e rfl
             have nB5 : (Value.slice B l.length d).ownBlock ≠ some b5 := fun e => by have := hbl b5 e; omega)
  all_goals (refine Go ?_)
  all_goals (refine Gs [(0, _), (2, _), (5, _), (6, _), (7, _)] ?_)
  all_goals (refine WC.seq ?_)
  all_goals (refine WC.sr ?_)
  all_goals (refine Go ?_)
  all_goals (refine goC 1 2 ?_ ?_ <;> first | exact ⟨⟩ | refine Hb.mk fun hb => ?_ | skip)
  all_goals (first | (fail_if_success refine goB 1 ?_) | (
  refine goB 1 ?_
  all_goals (refine WC.drawH (fun h' => Ext (fun q => (Value.slice B l.length d).ownBlock = some q) h4 h') 18 19 rfl fol ?_)
  all_goals (refine WH.tk 0 rfl (fun hq hC => ok_move rfl) rfl rfl rfl ?_)
  all_goals (refine WH.tk 1 rfl (fun hq hC => ok_move rfl) rfl rfl rfl ?_)
  all_goals (refine WH.tk 2 rfl (fun hq hC => ok_nilCheck rfl) rfl rfl rfl ?_)
  all_goals (refine WH.tk 3 rfl (fun hq hC => ok_fieldAddr rfl Tryz.underlying87 rfl (fun w => Tryz.sizeOf22 w)) rfl rfl rfl ?_)
  all_goals (refine WH.tk 4 rfl (fun hq hC => ok_load (fun w => Tryz.isAgg22 w) rfl (by first | exact hC.cell (by first | exact At.pre (xs := [_]) (ys := [_, _, _]) (At.tl ((At.of_block hb24).ext hC nB)) | assumption | exact cell_blk (by assumption) rfl) (by first | exact nB | exact nB5))) rfl rfl rfl ?_)
  all_goals (refine WH.tk 5 rfl (fun hq hC => ok_move rfl) rfl rfl rfl ?_)
  all_goals (refine WH.tk 6 rfl (fun hq hC => ok_nilCheck rfl) rfl rfl rfl ?_)
  all_goals (refine WH.tk 7 rfl (fun hq hC => ok_fieldAddr rfl Tryz.underlying87 rfl (fun w => Tryz.sizeOf85 w)) rfl rfl rfl ?_)
  all_goals (refine WH.tk 8 rfl (fun hq hC => ok_loadN (fun w => Tryz.isAgg85 w) (fun w => Tryz.sizeOf85 w) rfl rfl (by exact At.pre (xs := [_]) (ys := [_, _, _, _]) ((At.of_block hb24).ext hC nB))) rfl rfl rfl ?_)
  all_goals (refine WH.tk 11 rfl (fun hq hC => ok_fieldAddr rfl Tryz.underlying38 rfl (fun w => Tryz.sizeOf22 w)) rfl rfl rfl ?_)
  all_goals (refine WH.tk 12 rfl (fun hq hC => ok_load (fun w => Tryz.isAgg22 w) rfl (by first | exact hC.cell (by first | exact At.pre (xs := [_]) (ys := []) (At.tl ((At.of_block hb54).ext hC nB5)) | assumption | exact cell_blk (by assumption) rfl) (by first | exact nB | exact nB5))) rfl rfl rfl ?_)
  all_goals (refine WH.tk 13 rfl (fun hq hC => ok_lenL rfl Tryz.underlying22 rfl) rfl rfl rfl ?_)
  all_goals (refine WH.one 9 (by kernel_rfl) ?_)
  all_goals (refine Comes1.call (vs := [_]) rfl rfl (fun a w => Tryz.call49 a w) rfl (kh _) rfl rfl rfl ?_ (fun _ => by kernel_rfl)
             rintro _ h5 ⟨rfl, hx5⟩
             have hC5 : Ext (fun q => (Value.slice B l.length d).ownBlock = some q) h4 h5 := hx5.mono fun _ _ e => e.elim)
  all_goals (refine ⟨fun _ => hC5, ?_⟩)
  all_goals (first | (refine WH.tk 10 rfl (fun hq hC => ok_addI rfl rfl (by omega)) rfl rfl rfl ?_) | (refine WH.tk 10 rfl (fun hq hC => ok_add rfl rfl) rfl rfl rfl ?_))
  all_goals (first | (refine WH.tk 14 rfl (fun hq hC => ok_addI rfl rfl (by omega)) rfl rfl rfl ?_) | (refine WH.tk 14 rfl (fun hq hC => ok_add rfl rfl) rfl rfl rfl ?_))
  all_goals (rw [show (hd : Int) + 4 + ((n - 4 : Nat) : Int) = ((hd + n : Nat) : Int) by omega])
  all_goals (refine WH.one 15 (by kernel_rfl) ?_)
  all_goals (refine Comes1.call (vs := [_, _, _]) rfl rfl (fun a w => Tryz.call48 a w) rfl (kd _ (k4.ext0 hx5)) rfl rfl rfl ?_ (fun _ => by kernel_rfl)
             rintro v6 h6 ⟨ho6, hx6, hf6⟩
             obtain ⟨B6, d6, rfl, _⟩ := id ho6.slice
             have hb26 := hx6.obj (k4.ext0 hx5).blk nB
             have hC6 : Ext (fun q => (Value.slice B l.length d).ownBlock = some q) h4 h6 := (hx5.mono fun _ _ e => e.elim).trans hx6
             have how6 := how4.ext hC6 (fun q hq e => by have := hfw q hq; have := hbl q e; omega)
             have hb16 := hC6.obj hb14 (fun e => by have := hbl b1 e; omega)
             have hb56 := hC6.obj hb54 nB5)
  all_goals (refine ⟨fun _ => by first | assumption | trivial, ?_⟩)
  all_goals (refine WH.one 16 (by kernel_rfl) ?_)
  all_goals (refine Comes1.run rfl (OkP.r (ok_nilCheck rfl)) rfl rfl rfl ?_ (fun _ => by kernel_rfl)
             rintro _ hz ⟨rfl, _⟩
             subst hz)
  all_goals (refine ⟨fun _ => by first | assumption | trivial, ?_⟩)
  all_goals (refine WH.one 17 (by kernel_rfl) ?_)
  all_goals (refine Comes1.run rfl (OkP.r (ok_fieldAddr rfl Tryz.underlying87 rfl (fun w => Tryz.sizeOf22 w))) rfl rfl rfl ?_ (fun _ => by kernel_rfl)
             rintro _ hz ⟨rfl, _⟩
             subst hz)
  all_goals (refine ⟨fun _ => by first | assumption | trivial, ?_⟩)
  all_goals (refine WH.one 18 (by kernel_rfl) ?_)
  all_goals (refine Comes1.run0 rfl (okE_store (fun w => Tryz.sizeOf22 w) rfl rfl hb26 (Nat.le_of_ble_eq_true rfl) rfl rfl) rfl rfl ?_ (fun _ => by kernel_rfl)
             rintro _ h7 ⟨hb27, hx7⟩
             have k7 : Fw h7 b ty (.slice B6 (l.drop (hd + n)).length d6) (l.drop (hd + n)) := ⟨hb27, ho6.ext hx7 (fun q hq e => nB (by rw [← hf6]; exact e ▸ hq))⟩
             have how7 := how6.ext hx7 (fun q hq e => own_ne how6 hb26 (by decide) (e ▸ hq))
             have hb17 := hx7.obj hb16 (fun e => by omega)
             have hb57 := hx7.obj hb56 (fun e => by omega)
             have X7 : Ext (fun q => q = b ∨ (Value.slice B l.length d).ownBlock = some q) h h7 := (hx1.mono fun _ _ e => e.elim).trans ((hx2.mono fun _ _ e => .inl e).trans ((X.mono fun _ _ e => e.elim).trans ((hC6.mono fun _ _ e => .inr e).trans (hx7.mono fun _ _ e => .inl e)))))
  all_goals (refine ⟨fun e => (by cases e), ?_⟩)
  all_goals (refine WH.done (by kernel_rfl) ?_)
  skip))
  all_goals (first | (fail_if_success refine goB 2 ?_) | (
  refine goB 2 ?_
  all_goals (refine WC.skip ?_)
  skip))
  all_goals (refine Gn ?_)
  all_goals (refine WC.sr ?_)
  all_goals (refine WL.step (ok_loadN (fun w => Tryz.isAgg38 w) (fun w => Tryz.sizeOf38 w) rfl rfl (by exact At.of_block hb57)) rfl rfl rfl ?_)
  all_goals (refine Go ?_)
  all_goals (refine WL.stepR0 (okE_storeW (fun w => Tryz.sizeOf38 w) rfl rfl rfl hb17 rfl (by simp [Value.oneCell'])) rfl rfl ?_
             rintro _ h8 ⟨hb18, hx8⟩)
  all_goals (refine Go ?_)
  all_goals (refine Gs [(2, _), (3, _), (4, _)] ?_)
  all_goals (refine WC.ret ?_)
  all_goals (repeat' (with_reducible first | refine thenP_r ?_ | refine blockP_r ?_))
  all_goals (refine retP_3 _ _ _ ⟨⟨_, rfl, ld_blk (fun w => Tryz.isAgg38 w) (fun w => Tryz.sizeOf38 w) (by assumption) rfl⟩, rfl, rfl, trivial⟩ ?_)
  all_goals (exact ⟨_, _, rfl, how7.ext hx8 (fun q hq e => own_ne how7 hb17 (by decide) (e ▸ hq)), k7.ext hx8 (fun e => by omega) (fun q hq e => own_ne k7.own hb17 (by decide) (e ▸ hq)), X7.trans' hx8 (fun q hq e => by omega), fun q hq => by have := hfw q hq; omega, hf6⟩)
end
end Go.Proofs.YtdjjpbbhcidaaaaGreatDoor


/-
  SCANS (layer 5), by the code.
-/
namespace Go.Proofs.YtdjjpbbhcidaaaaGreatDoor
open Go Go.RK

/-- A scan at b: what is left is l. -/
structure Sc (h : Heap) (b : Nat) (v : Value) (l : List UInt8) : Prop where
  blk : h[b]? = some (.cells ⟨[v, .bool false, .bool true]⟩ 160 (0, 0))
  rd : Rd h v 1 l.length (bys l)
  ne : ∀ q, v.ownBlock = some q → q ≠ b
section
variable {h h' : Heap} {b : Nat} {v : Value} {l : List UInt8} {S : Nat → Prop}
theorem Sc.ext (k : Sc h b v l) (x : Ext S h h') (h1 : ¬ S b) (h2 : ∀ q, v.ownBlock = some q → ¬ S q) : Sc h' b v l := ⟨x.obj k.blk h1, k.rd.ext x h2, k.ne⟩
set_option maxHeartbeats 2000000 in
set_option maxRecDepth 100000 in
theorem clone_bytV {h : Heap} (l : List UInt8) (hr : Rd h v 1 l.length (bys l)) (hm : l.length ≤ 1000000) : CallsH Tryz.prog 20 ⟨[v]⟩ h fun u h' => Own h' u 5 1 l.length (bys l) ∧ Ext No h h' ∧ (∀ k, u.ownBlock = some k → h.size ≤ k) := by
  obtain ⟨A, c, rfl, _⟩ := id hr
  cases A with
  | none =>
    have h0 : l = [] := by
      cases l with
      | nil => rfl
      | cons a l => obtain ⟨b, o, e, _⟩ := Rd.at_ hr (by simp); cases e
    subst h0
    refine calls [(0, _)] Tryz.func20 rfl Tryz.ntmps20 rfl ⟨rfl, trivial⟩ ?_
    all_goals (refine WC.sr ?_)
    all_goals (refine Go ?_)
    all_goals (refine WC.seq ?_)
    all_goals (refine WC.sr ?_)
    all_goals (refine Go ?_)
    all_goals (refine WL.step (ok_eqlSn Tryz.underlying22 rfl rfl) rfl rfl rfl ?_)
    all_goals (refine Gn ?_)
    all_goals (refine goC 1 2 ?_ ?_ <;> first | exact ⟨⟩ | refine Hb.mk fun hb => ?_ | skip)
    all_goals (first | (fail_if_success refine goB 1 ?_) | (
    refine goB 1 ?_
    all_goals (refine WC.sr ?_)
    all_goals (refine Go ?_)
    all_goals (refine Gt ?_)
    all_goals (exact ⟨Own.nil _ _ _, .refl _ _, by simp [Value.ownBlock]⟩)
    skip))
    all_goals (first | (fail_if_success refine goB 2 ?_) | (
    refine goB 2 ?_
    all_goals (refine WC.skip ?_)
    skip))
    all_goals (refine Gn ?_)
    all_goals (refine WC.sr ?_)
    all_goals (refine WL.stepR (okE_buildSlice (vs := []) (cs := []) (fun _ => []) Tryz.underlying22 rfl rfl (by kernel_rfl)) rfl rfl rfl ?_
               rintro _ h1 ⟨b1, rfl, hg1, hb1, hx1⟩)
    all_goals (refine Go ?_)
    all_goals (refine WL.stepR (ok_append (sz := 1) (bytes := 1) rfl Tryz.underlying22 (show Tryz.prog.info? 5 = some Tryz.t5 by kernel_rfl) rfl rfl rfl rfl (by decide) rfl rfl (by assumption) (by first | assumption | exact rd_blk (by assumption) rfl) (by simp [Value.oneCell']) (by simp only [maxLen]; omega) (by omega)) rfl rfl rfl ?_
               rintro v1 h1 ⟨ho1, hx1, hl1⟩)
    all_goals (refine Go ?_)
    all_goals (refine Gs [(2, _)] ?_)
    all_goals (refine Gt ?_)
    all_goals (exact ⟨Own.nil _ _ _, .refl _ _, by simp [Value.ownBlock]⟩)
  | some a =>
    refine calls [(0, _)] Tryz.func20 rfl Tryz.ntmps20 rfl ⟨rfl, trivial⟩ ?_
    all_goals (refine WC.sr ?_)
    all_goals (refine Go ?_)
    all_goals (refine WC.seq ?_)
    all_goals (refine WC.sr ?_)
    all_goals (refine Go ?_)
    all_goals (refine WL.step (ok_eqlSn Tryz.underlying22 rfl rfl) rfl rfl rfl ?_)
    all_goals (refine Gn ?_)
    all_goals (refine goC 1 2 ?_ ?_ <;> first | exact ⟨⟩ | refine Hb.mk fun hb => ?_ | skip)
    all_goals (first | (fail_if_success refine goB 1 ?_) | (
    refine goB 1 ?_
    all_goals (refine WC.sr ?_)
    all_goals (refine Go ?_)
    all_goals (refine Gt ?_)
    all_goals (exact ⟨by simpa using ho2, hx1.trans' hx2 (fun k hk e => by simp [Value.ownBlock] at e; omega), fresh_of hl2 (fun k hk => by simp [Value.ownBlock] at hk; omega) hx1.size⟩)
    skip))
    all_goals (first | (fail_if_success refine goB 2 ?_) | (
    refine goB 2 ?_
    all_goals (refine WC.skip ?_)
    skip))
    all_goals (refine Gn ?_)
    all_goals (refine WC.sr ?_)
    all_goals (refine WL.stepR (okE_buildSlice (vs := []) (cs := []) (fun _ => []) Tryz.underlying22 rfl rfl (by kernel_rfl)) rfl rfl rfl ?_
               rintro _ h1 ⟨b1, rfl, hg1, hb1, hx1⟩)
    all_goals (refine Go ?_)
    all_goals (have hr1 := hr.ext0 hx1)
    all_goals (refine WL.stepR (ok_append (sz := 1) (bytes := 1) rfl Tryz.underlying22 (show Tryz.prog.info? 5 = some Tryz.t5 by kernel_rfl) rfl rfl rfl rfl (by decide) rfl rfl (own_blk hb1 rfl (by simp [maxLen])) hr1 (by intro c hc; obtain ⟨b, _, rfl⟩ := List.mem_map.1 hc; rfl) (by simp only [maxLen]; omega) (by omega)) rfl rfl rfl ?_
               rintro v2 h2 ⟨ho2, hx2, hl2⟩)
    all_goals (refine Go ?_)
    all_goals (refine Gs [(2, _)] ?_)
    all_goals (refine Gt ?_)
    all_goals (exact ⟨by simpa using ho2, hx1.trans' hx2 (fun k hk e => by simp [Value.ownBlock] at e; omega), fresh_of hl2 (fun k hk => by simp [Value.ownBlock] at hk; omega) hx1.size⟩)
set_option maxHeartbeats 2000000 in
set_option maxRecDepth 100000 in
theorem scan_new {w : Value} (l : List UInt8) (hr : Rd h w 1 l.length (bys l)) (hm : l.length ≤ 1000000) : CallsH Tryz.prog 55 ⟨[w]⟩ h fun u h' => ∃ b v, u = .pointer (some ⟨b, 0, none⟩) ∧ Sc h' b v l ∧ Ext No h h' ∧ h.size ≤ b ∧ ∀ q, v.ownBlock = some q → h.size ≤ q := by
  refine calls [(0, _)] Tryz.func55 rfl Tryz.ntmps55 rfl ⟨rfl, trivial⟩ ?_
  all_goals (refine WC.sr ?_)
  all_goals (refine Go ?_)
  all_goals (refine WC.sr ?_)
  all_goals (refine Go ?_)
  all_goals (refine WL.call (vs := [_]) rfl (fun a w => Tryz.call20 a w) rfl (clone_bytV l hr hm) rfl rfl rfl ?_
             rintro v1 h1 ⟨ho1, hx1, hf1⟩
             obtain ⟨A1, c1, rfl, _⟩ := id ho1.slice)
  all_goals (refine WL.step (ok_buildF (vs := [_, _]) (cs := [_, _, _]) (fun | [a0, a2] => [a0, (.bool false), a2] | _ => []) rfl rfl (by kernel_rfl)) rfl rfl rfl ?_)
  all_goals (refine WL.stepR (okE_box rfl) rfl rfl rfl ?_
             rintro _ h2 ⟨b2, rfl, hg2, hb2, hx2⟩)
  all_goals (refine Go ?_)
  all_goals (refine Gs [(2, _)] ?_)
  all_goals (refine Gt ?_)
  all_goals (exact ⟨b2, _, rfl, ⟨hb2, (ho1.ext hx2 (fun _ _ => nos)).rd, fun q hq e => by have := ho1.lt hq; omega⟩, hx1.trans hx2, by have := hx1.size; omega, hf1⟩)
set_option maxHeartbeats 2000000 in
set_option maxRecDepth 100000 in
theorem sc_good (k : Sc h b v l) : CallsH Tryz.prog 91 ⟨[.pointer (some ⟨b, 0, none⟩)]⟩ h fun u h' => u = .bool true ∧ h' = h := by
  have hb := k.blk
  refine calls [(0, _)] Tryz.func91 rfl Tryz.ntmps91 rfl ⟨rfl, trivial⟩ ?_
  all_goals (refine WC.sr ?_)
  all_goals (refine Go ?_)
  all_goals (refine WC.sr ?_)
  all_goals (refine Go ?_)
  all_goals (refine WL.step (ok_neqPn Tryz.underlying97 rfl rfl) rfl rfl rfl ?_)
  all_goals (refine Go ?_)
  all_goals (refine goP 5 ?_ ?_ <;> first | exact ⟨⟩ | refine Hb.mk fun hb => ?_ | skip)
  all_goals (refine Gg ?_)
  all_goals (first | (refine WL.pass rfl rfl rfl ?_) | (refine WL.step (ok_nilCheck rfl) rfl rfl rfl ?_))
  all_goals (refine Gg ?_)
  all_goals (first | (refine WL.pass rfl rfl rfl ?_) | (refine WL.ld rfl (by first | exact cell_blk hb rfl | assumption | exact cell_blk (by assumption) rfl) rfl rfl rfl ?_))
  all_goals (refine Go ?_)
  all_goals (refine goP 11 ?_ ?_ <;> first | exact ⟨⟩ | refine Hb.mk fun hb => ?_ | skip)
  all_goals (refine Gg ?_)
  all_goals (first | (refine WL.pass rfl rfl rfl ?_) | (refine WL.step (ok_nilCheck rfl) rfl rfl rfl ?_))
  all_goals (refine Gg ?_)
  all_goals (first | (refine WL.pass rfl rfl rfl ?_) | (refine WL.ld rfl (by first | exact cell_blk hb rfl | assumption | exact cell_blk (by assumption) rfl) rfl rfl rfl ?_))
  all_goals (refine Gg ?_)
  all_goals (refine Go ?_)
  all_goals (refine Gs [(2, _)] ?_)
  all_goals (refine Gt ?_)
  all_goals (exact ⟨rfl, rfl⟩)
theorem Rd.capped {A : Option Addr} {n c sz : Nat} {xs : List Value} (r : Rd h (.slice A n c) sz n xs) : Rd h (.slice A n n) sz n xs := by
  obtain ⟨A1, c1, e, hc, hl, hp⟩ := r
  simp only [Value.slice.injEq] at e
  obtain ⟨rfl, _, rfl⟩ := e
  exact ⟨_, _, rfl, Nat.le_refl _, hl, hp⟩
theorem own_off {A : Option Addr} {n m c d k : Nat} {p : Prop} [Decidable p] {q : Nat} (e : (Value.slice (if p then A else A.map (·.add k)) m d).ownBlock = some q) : (Value.slice A n c).ownBlock = some q := by
  cases A with
  | none => split at e <;> cases e
  | some a => split at e <;> (simp only [Value.ownBlock, Option.map_some, Option.some.injEq, Addr.add] at e ⊢; first | exact e | (split at e <;> exact e))
theorem own_as {A : Option Addr} {n m c d q : Nat} (e : (Value.slice A m d).ownBlock = some q) : (Value.slice A n c).ownBlock = some q := by cases A <;> exact e
set_option maxHeartbeats 2000000 in
set_option maxRecDepth 100000 in
theorem sc_cut (k : Sc h b v l) (n : Nat) (hn : n ≤ l.length) (hm : l.length ≤ 1000000) : CallsH Tryz.prog 130 ⟨[.pointer (some ⟨b, 0, none⟩), In (n : Int)]⟩ h fun u h' => ∃ A c v', u = .tuple ⟨[.slice A n c, .bool true]⟩ ∧ Rd h' (.slice A n c) 1 n (bys (l.take n)) ∧ Sc h' b v' (l.drop n) ∧ Ext (fun q => q = b) h h' := by
  have kg := fun (h' : Heap) (k : Sc h' b v l) => sc_good k
  have hb := k.blk
  have hr := k.rd
  have hne := k.ne
  obtain ⟨A, c, rfl, hcap, _⟩ := id hr
  refine calls [(0, _), (1, _)] Tryz.func130 rfl Tryz.ntmps130 rfl ⟨rfl, rfl, trivial⟩ ?_
  all_goals (refine WC.sr ?_)
  all_goals (refine Go ?_)
  all_goals (refine WC.seq ?_)
  all_goals (refine WC.sr ?_)
  all_goals (refine Go ?_)
  all_goals (refine WL.call (vs := [_]) rfl (fun a w => Tryz.call91 a w) rfl (kg _ k) rfl rfl rfl ?_
             rintro _ hq ⟨rfl, hz⟩
             replace hz := hz.symm
             subst hz)
  all_goals (refine Go ?_)
  all_goals (refine goP 10 ?_ ?_ <;> first | exact ⟨⟩ | refine Hb.mk fun hb => ?_ | skip)
  all_goals (refine Gg ?_)
  all_goals (refine Go ?_)
  all_goals (refine goP 14 ?_ ?_ <;> first | exact ⟨⟩ | refine Hb.mk fun hb => ?_ | skip)
  all_goals (refine Gg ?_)
  all_goals (first | (refine WL.pass rfl rfl rfl ?_) | (refine WL.step (ok_nilCheck rfl) rfl rfl rfl ?_))
  all_goals (refine Gg ?_)
  all_goals (first | (refine WL.pass rfl rfl rfl ?_) | (refine WL.ld rfl (by first | exact cell_blk hb rfl | assumption | exact cell_blk (by assumption) rfl) rfl rfl rfl ?_))
  all_goals (refine Gg ?_)
  all_goals (refine Go ?_)
  all_goals (refine Gs [(0, _), (1, _), (22, _)] ?_)
  all_goals (refine goC 1 2 ?_ ?_ <;> first | exact ⟨⟩ | refine Hb.mk fun hb => ?_ | skip)
  all_goals (first | (fail_if_success refine goB 2 ?_) | (
  refine goB 2 ?_
  all_goals (refine WC.skip ?_)
  skip))
  all_goals (refine Gn ?_)
  all_goals (refine WC.sr ?_)
  all_goals (refine Go ?_)
  all_goals (refine WL.step (ok_nilCheck rfl) rfl rfl rfl ?_)
  all_goals (refine Go ?_)
  all_goals (refine WL.ld rfl (by first | exact cell_blk hb rfl | assumption | exact cell_blk (by assumption) rfl) rfl rfl rfl ?_)
  all_goals (refine Go ?_)
  all_goals (first | (refine WL.step (ok_slice_hmN Tryz.underlying22 (fun w => Tryz.sizeOf5 w) rfl rfl rfl (by omega)) rfl rfl rfl ?_) | (refine WL.step (ok_slice_hm Tryz.underlying22 (fun w => Tryz.sizeOf5 w) rfl rfl rfl (by omega)) rfl rfl rfl ?_))
  all_goals (refine Go ?_)
  all_goals (refine Gs [(0, _), (1, _), (6, _)] ?_)
  all_goals (refine WC.sr ?_)
  all_goals (refine Go ?_)
  all_goals (refine WL.step (ok_nilCheck rfl) rfl rfl rfl ?_)
  all_goals (refine Go ?_)
  all_goals (refine WL.ld rfl (by first | exact cell_blk hb rfl | assumption | exact cell_blk (by assumption) rfl) rfl rfl rfl ?_)
  all_goals (refine Go ?_)
  all_goals (first | (refine WL.step (ok_slice_lN Tryz.underlying22 (fun w => Tryz.sizeOf5 w) rfl rfl (by omega)) rfl rfl rfl ?_) | (refine WL.step (ok_slice_lS Tryz.underlying22 (fun w => Tryz.sizeOf5 w) rfl rfl (by omega)) rfl rfl rfl ?_) | (refine WL.step (ok_slice_l Tryz.underlying22 (fun w => Tryz.sizeOf5 w) rfl rfl (by omega)) rfl rfl rfl ?_))
  all_goals (refine WL.step (ok_nilCheck rfl) rfl rfl rfl ?_)
  all_goals (refine Go ?_)
  all_goals (refine WL.stepR0 (okE_store (fun w => Tryz.sizeOf22 w) rfl rfl hb (Nat.le_of_ble_eq_true rfl) rfl rfl) rfl rfl ?_
             rintro _ h2 ⟨hb2, hx2⟩)
  all_goals (refine Gn ?_)
  all_goals (refine Gs [(6, _)] ?_)
  all_goals (refine WC.sr ?_)
  all_goals (refine Go ?_)
  all_goals (refine Gt ?_)
  all_goals (have r1 := Rd.capped (hr.take hn)
             have r2 := hr.drop hn
             rw [show (bys l).take (n * 1) = bys (l.take n) by simp [bys]] at r1
             rw [show (bys l).drop (n * 1) = bys (l.drop n) by simp [bys]] at r2
             have n2 : ∀ q, (Value.slice (if c = n then A else A.map (fun x => x.add (n * 1))) (l.length - n) (c - n)).ownBlock = some q → q ≠ b := fun q hq => hne q (own_off hq)
             exact ⟨A, n, _, rfl, r1.ext hx2 (fun q hq => hne q (own_as hq)), ⟨hb2, by rw [List.length_drop]; exact r2.ext hx2 n2, n2⟩, hx2⟩)
set_option maxHeartbeats 2000000 in
set_option maxRecDepth 100000 in
theorem sc_num (k : Sc h b v l) (hn : 4 ≤ l.length) (hm : l.length ≤ 1000000) : CallsH Tryz.prog 82 ⟨[.pointer (some ⟨b, 0, none⟩), In 4]⟩ h fun u h' => ∃ v', u = In (numB (l.take 4)) ∧ Sc h' b v' (l.drop 4) ∧ Ext (fun q => q = b) h h' := by
  have kc := fun (h' : Heap) (k : Sc h' b v l) => sc_cut k 4 hn hm
  have kr := fun (h' : Heap) => right_v (h := h') 0 4 (.inr (.inr rfl)) (by unfold Rt; decide)
  have h4 : (l.take 4).length = 4 := by simp; omega
  have kn := fun (h' : Heap) (A : Option Addr) (c : Nat) (r : Rd h' (.slice A 4 c) 1 4 (bys (l.take 4))) => get_v (l.take 4) (A := A) (c := c) (by rw [h4]; exact r) 0 (by omega) (by omega)
  simp only [h4, List.drop_zero, List.take_take, Nat.min_self] at kn
  refine calls [(0, _), (1, _)] Tryz.func82 rfl Tryz.ntmps82 rfl ⟨rfl, rfl, trivial⟩ ?_
  all_goals (refine WC.sr ?_)
  all_goals (refine Go ?_)
  all_goals (refine WC.seq ?_)
  all_goals (refine WC.sr ?_)
  all_goals (refine Go ?_)
  all_goals (refine WL.call (vs := [_, _]) rfl (fun a w => Tryz.call128 a w) rfl (kr _) rfl rfl rfl ?_
             rintro _ hq ⟨rfl, hz⟩
             replace hz := hz.symm
             subst hz)
  all_goals (refine Go ?_)
  all_goals (refine goC 1 2 ?_ ?_ <;> first | exact ⟨⟩ | refine Hb.mk fun hb => ?_ | skip)
  all_goals (first | (fail_if_success refine goB 2 ?_) | (
  refine goB 2 ?_
  all_goals (refine WC.skip ?_)
  skip))
  all_goals (refine Gn ?_)
  all_goals (refine Gs [(0, _), (1, _)] ?_)
  all_goals (refine WC.sr ?_)
  all_goals (refine Go ?_)
  all_goals (refine WL.call (vs := [_, _]) rfl (fun a w => Tryz.call130 a w) rfl (kc _ k) rfl rfl rfl ?_
             rintro _ h2 ⟨A2, c2, v2, rfl, r2, k2, hx2⟩)
  all_goals (refine Go ?_)
  all_goals (refine Gs [(0, _), (1, _), (5, _), (6, _)] ?_)
  all_goals (refine WC.seq ?_)
  all_goals (refine WC.sr ?_)
  all_goals (refine Go ?_)
  all_goals (refine goC 3 4 ?_ ?_ <;> first | exact ⟨⟩ | refine Hb.mk fun hb => ?_ | skip)
  all_goals (first | (fail_if_success refine goB 3 ?_) | (
  refine goB 3 ?_
  all_goals (refine WC.sr ?_)
  all_goals (refine Go ?_)
  all_goals (refine Gs [(4, _)] ?_)
  all_goals (refine Gt ?_)
  all_goals (exact ⟨_, rfl, k2, hx2⟩)
  skip))
  all_goals (first | (fail_if_success refine goB 4 ?_) | (
  refine goB 4 ?_
  all_goals (refine WC.skip ?_)
  skip))
  all_goals (refine Gn ?_)
  all_goals (refine WC.sr ?_)
  all_goals (refine Go ?_)
  all_goals (refine WL.call (vs := [_, _, _]) rfl (fun a w => Tryz.call131 a w) rfl (kn _ _ _ r2) rfl rfl rfl ?_
             rintro _ hq ⟨rfl, hz⟩
             replace hz := hz.symm
             subst hz)
  all_goals (refine Go ?_)
  all_goals (refine Gs [(0, _), (7, _), (8, _)] ?_)
  all_goals (refine WC.seq ?_)
  all_goals (refine WC.sr ?_)
  all_goals (refine Go ?_)
  all_goals (refine goC 5 6 ?_ ?_ <;> first | exact ⟨⟩ | refine Hb.mk fun hb => ?_ | skip)
  all_goals (first | (fail_if_success refine goB 6 ?_) | (
  refine goB 6 ?_
  all_goals (refine WC.skip ?_)
  skip))
  all_goals (refine Gn ?_)
  all_goals (refine Gs [(7, _)] ?_)
  all_goals (refine WC.sr ?_)
  all_goals (refine Go ?_)
  all_goals (refine Gt ?_)
  all_goals (exact ⟨_, rfl, k2, hx2⟩)
set_option maxHeartbeats 2000000 in
set_option maxRecDepth 100000 in
theorem sc_done (k : Sc h b v []) : CallsH Tryz.prog 57 ⟨[.pointer (some ⟨b, 0, none⟩)]⟩ h fun u h' => u = .bool true ∧ h' = h := by
  have kg := sc_good k
  have hb := k.blk
  obtain ⟨A, c, rfl, _⟩ := id k.rd
  refine calls [(0, _)] Tryz.func57 rfl Tryz.ntmps57 rfl ⟨rfl, trivial⟩ ?_
  all_goals (refine WC.sr ?_)
  all_goals (refine Go ?_)
  all_goals (refine WC.sr ?_)
  all_goals (refine Go ?_)
  all_goals (refine WL.call (vs := [_]) rfl (fun a w => Tryz.call91 a w) rfl (kg) rfl rfl rfl ?_
             rintro _ hq ⟨rfl, hz⟩
             replace hz := hz.symm
             subst hz)
  all_goals (refine Go ?_)
  all_goals (refine goP 5 ?_ ?_ <;> first | exact ⟨⟩ | refine Hb.mk fun hb => ?_ | skip)
  all_goals (refine Gg ?_)
  all_goals (first | (refine WL.pass rfl rfl rfl ?_) | (refine WL.step (ok_nilCheck rfl) rfl rfl rfl ?_))
  all_goals (refine Gg ?_)
  all_goals (first | (refine WL.pass rfl rfl rfl ?_) | (refine WL.ld rfl (by first | exact cell_blk hb rfl | assumption | exact cell_blk (by assumption) rfl) rfl rfl rfl ?_))
  all_goals (refine Gg ?_)
  all_goals (refine Go ?_)
  all_goals (refine Gs [(2, _)] ?_)
  all_goals (refine Gt ?_)
  all_goals (exact ⟨rfl, rfl⟩)
set_option maxHeartbeats 2000000 in
set_option maxRecDepth 100000 in
theorem sc_text (s r : List UInt8) (hs : Lib.indexByte (s ++ 0 :: r) 0 = s.length) (k : Sc h b v (s ++ 0 :: r)) (hm : (s ++ 0 :: r).length ≤ 1000000) : CallsH Tryz.prog 87 ⟨[.pointer (some ⟨b, 0, none⟩)]⟩ h fun u h' => ∃ v', u = St s ∧ Sc h' b v' r ∧ Ext (fun q => q = b) h h' := by
  have kg := fun (h' : Heap) (k : Sc h' b v (s ++ 0 :: r)) => sc_good k
  have kc := fun (h' : Heap) (k : Sc h' b v (s ++ 0 :: r)) => sc_cut k (s.length + 1) (by simp) hm
  have hb := k.blk
  have ki := indexByte_bys _ 0 k.rd (by simp; omega)
  rw [hs] at ki
  have e1 : (s ++ 0 :: r).drop (s.length + 1) = r := by rw [List.drop_append]; simp
  have e2 : (s ++ 0 :: r).take (s.length + 1) = s ++ [0] := by rw [List.take_append, List.take_of_length_le (by omega)]; simp
  rw [e1, e2] at kc
  have hms : s.length + 1 ≤ 1000000 := by simp at hm; omega
  refine calls [(0, _)] Tryz.func87 rfl Tryz.ntmps87 rfl ⟨rfl, trivial⟩ ?_
  all_goals (refine WC.sr ?_)
  all_goals (refine Go ?_)
  all_goals (refine WC.seq ?_)
  all_goals (refine WC.sr ?_)
  all_goals (refine Go ?_)
  all_goals (refine WL.call (vs := [_]) rfl (fun a w => Tryz.call91 a w) rfl (kg _ k) rfl rfl rfl ?_
             rintro _ hq ⟨rfl, hz⟩
             replace hz := hz.symm
             subst hz)
  all_goals (refine Go ?_)
  all_goals (refine goC 1 2 ?_ ?_ <;> first | exact ⟨⟩ | refine Hb.mk fun hb => ?_ | skip)
  all_goals (first | (fail_if_success refine goB 1 ?_) | (
  refine goB 1 ?_
  all_goals (refine WC.sr ?_)
  all_goals (refine Go ?_)
  all_goals (refine Gs [(2, _)] ?_)
  all_goals (refine Gt ?_)
  all_goals (exact ⟨_, rfl, k2, hx2⟩)
  skip))
  all_goals (first | (fail_if_success refine goB 2 ?_) | (
  refine goB 2 ?_
  all_goals (refine WC.skip ?_)
  skip))
  all_goals (refine Gn ?_)
  all_goals (refine Gs [(0, _)] ?_)
  all_goals (refine WC.sr ?_)
  all_goals (refine Go ?_)
  all_goals (refine WL.step (ok_nilCheck rfl) rfl rfl rfl ?_)
  all_goals (refine Go ?_)
  all_goals (refine WL.ld rfl (by first | exact cell_blk hb rfl | assumption | exact cell_blk (by assumption) rfl) rfl rfl rfl ?_)
  all_goals (refine WL.call (vs := [_, _]) rfl (fun a w => Tryz.call86 a w) rfl (ki) rfl rfl rfl ?_
             rintro _ hq ⟨rfl, hz⟩
             replace hz := hz.symm
             subst hz)
  all_goals (refine Go ?_)
  all_goals (refine Gs [(0, _), (3, _)] ?_)
  all_goals (refine WC.seq ?_)
  all_goals (refine WC.sr ?_)
  all_goals (refine Go ?_)
  all_goals (refine goC 3 4 ?_ ?_ <;> first | exact ⟨⟩ | refine Hb.mk fun hb => ?_ | skip)
  all_goals (first | (fail_if_success refine goB 4 ?_) | (
  refine goB 4 ?_
  all_goals (refine WC.skip ?_)
  skip))
  all_goals (refine Gn ?_)
  all_goals (refine WC.sr ?_)
  all_goals (refine Go ?_)
  all_goals (rw [show ((s.length : Int) + 1) = ((s.length + 1 : Nat) : Int) from rfl])
  all_goals (refine WL.call (vs := [_, _]) rfl (fun a w => Tryz.call130 a w) rfl (kc _ k) rfl rfl rfl ?_
             rintro _ h2 ⟨A2, c2, v2, rfl, r2, k2, hx2⟩
             have r3 := r2.take (k := s.length) (by omega)
             rw [show (bys (s ++ [0])).take (s.length * 1) = bys s by simp [bys]] at r3
             have hcap : s.length + 1 ≤ c2 := by obtain ⟨A1, c1, hv, hcap, _⟩ := id r2; simp only [Value.slice.injEq] at hv; obtain ⟨_, _, rfl⟩ := hv; exact hcap)
  all_goals (refine Go ?_)
  all_goals (refine Gs [(3, _), (4, _)] ?_)
  all_goals (refine WC.sr ?_)
  all_goals (refine Go ?_)
  all_goals (first | (refine WL.step (ok_slice_hN Tryz.underlying22 (fun w => Tryz.sizeOf5 w) rfl rfl (by omega)) rfl rfl rfl ?_) | (refine WL.step (ok_slice_h Tryz.underlying22 (fun w => Tryz.sizeOf5 w) rfl rfl (by omega)) rfl rfl rfl ?_))
  all_goals (refine WL.step (ok_convBS Tryz.underlying22 Tryz.underlying5 Tryz.underlying9 rfl r3) rfl rfl rfl ?_)
  all_goals (refine Go ?_)
  all_goals (refine Gs [(2, _)] ?_)
  all_goals (refine Gt ?_)
  all_goals (exact ⟨_, rfl, k2, hx2⟩)
end
end Go.Proofs.YtdjjpbbhcidaaaaGreatDoor


/-
  A ROW THAT LISTS VARIABLES, THE WORLD's SHAPE KEPT: what the lift of such a row asks. No program is named here.
-/
namespace Go.RK
open Go
variable {H : Type} {enc : TypeId × Value → H}

/-! ### a scope through which no goto goes -/
def scopeP (Q : Post) : Post
  | .goto _, _, _ => False
  | e, f, h => Q e f h
section
variable {P : Program} {n : Env} {Q : Post} {f : Fr} {h : Heap}
theorem WC.scope {c : Code} (hc : WC P n c (scopeP Q) f h) (hro : n.ro = Option.none := by rfl) : WC P n (.scope c) Q f h := fun a w ha hw => by
  obtain ⟨m, ds, ro⟩ := n
  obtain rfl : ro = Option.none := hro
  exact wpIn_wide.2 (wp_scope_straight (Go.wp_mono (wpIn_wide.1 (hc a w ha hw)) fun e _ _ ⟨hl, hs, g, hg, q⟩ => by
    cases e <;> first | exact ⟨hl, hs, g, hg, q⟩ | exact q.elim))
theorem scopeP_n (hq : Q .normal f h) : scopeP Q .normal f h := hq
theorem scopeP_x {i : Nat} (hq : Q (.exit i) f h) : scopeP Q (.exit i) f h := hq
theorem scopeP_r (hq : Q .ret f h) : scopeP Q .ret f h := hq
end
end Go.RK

/-
  A HELLO (layer 5), read by the code.
-/
namespace Go.Proofs.YtdjjpbbhcidaaaaGreatDoor
open Go Go.RK

abbrev restL : List UInt8 := [117, 115, 101, 114, 0, 117, 0, 0]
set_option maxHeartbeats 2000000 in
set_option maxRecDepth 100000 in
theorem sc_texts {h : Heap} {b : Nat} {v : Value} (k : Sc h b v restL) : CallsH Tryz.prog 83 ⟨[.pointer (some ⟨b, 0, none⟩)]⟩ h fun u h' => ∃ v', Own h' u 125 2 1 [St userL, St uL] ∧ Sc h' b v' [] ∧ Ext (fun q => q = b) h h' ∧ ∀ q, u.ownBlock = some q → h.size ≤ q := by
  have k1 := fun (h' : Heap) (k : Sc h' b v restL) => sc_text userL [117, 0, 0] (by decide) k (by decide)
  have k2 := fun (h' : Heap) (v : Value) (k : Sc h' b v [117, 0, 0]) => sc_text uL [0] (by decide) k (by decide)
  have k3 := fun (h' : Heap) (v : Value) (k : Sc h' b v [0]) => sc_text [] [] (by decide) k (by decide)
  have lb := lt_of_some k.blk
  refine calls [(0, _)] Tryz.func83 rfl Tryz.ntmps83 rfl ⟨rfl, trivial⟩ ?_
  all_goals (refine WC.sr ?_)
  all_goals (refine Go ?_)
  all_goals (refine WC.scope ?_)
  all_goals (refine WC.sr ?_)
  all_goals (refine Go ?_)
  all_goals (repeat' (with_reducible first | refine thenP_n ?_ | refine blockP_n ?_ | refine scopeP_n ?_))
  all_goals (refine WC.seq ?_)
  all_goals (refine WC.label ?_)
  all_goals (repeat' (with_reducible first | refine thenP_n ?_ | refine blockP_n ?_ | refine scopeP_n ?_))
  all_goals (refine WC.seq ?_)
  all_goals (refine WC.block ?_)
  -- loop 0: slots that turn [3], that stay [0]
  all_goals (refine WC.loopG (X := Nat × Value) (fun x => ([(3, x.2)] : Fr)) [(0, _)] (fun x h' => (x.1 = 0 ∧ x.2 = .slice none 0 0 ∧ h' = h) ∨ (x.1 = 1 ∧ ∃ v', Own h' x.2 125 2 1 [St userL, St uL] ∧ Sc h' b v' [0] ∧ Ext (fun q => q = b) h h' ∧ ∀ q, x.2.ownBlock = some q → h.size ≤ q)) (fun x => 1 - x.1) ((0, .slice none 0 0)) ⟨rfl, rfl, trivial⟩ (by exact .inl ⟨rfl, rfl, rfl⟩) ?_)
  all_goals (rintro ⟨j, w⟩ h1 hI
             dsimp only at hI
             rcases hI with ⟨rfl, rfl, rfl⟩ | ⟨rfl, v1, ho1, ks1, hx1, hf1⟩)
  all_goals (refine WC.sub [(3, _), (0, _)] ⟨rfl, rfl, trivial⟩ ?_)
  all_goals (dsimp only)
  all_goals (refine WC.block ?_)
  all_goals (refine WC.sr ?_)
  all_goals (refine Go ?_)
  all_goals (refine WL.call (vs := [_]) rfl (fun a w => Tryz.call87 a w) rfl ((by first | exact k1 _ k | exact k3 _ _ ks1)) rfl rfl rfl ?_
             rintro _ h2 ⟨v2, rfl, ks2, hx2⟩)
  all_goals (refine Go ?_)
  all_goals (repeat' (with_reducible first | refine thenP_n ?_ | refine blockP_n ?_ | refine scopeP_n ?_))
  all_goals (refine WC.seq ?_)
  all_goals (refine WC.sr ?_)
  all_goals (refine Go ?_)
  all_goals (repeat' (with_reducible first | refine thenP_n ?_ | refine blockP_n ?_ | refine scopeP_n ?_))
  all_goals (refine goC 1 2 ?_ ?_ <;> first | exact ⟨⟩ | refine Hb.mk fun hb => ?_ | skip)
  all_goals (first | (fail_if_success refine goB 1 ?_) | (
  refine goB 1 ?_
  all_goals (refine WC.exit ?_)
  all_goals (repeat' (with_reducible first | refine thenP_x ?_ | refine blockP_miss rfl ?_ | refine blockP_hit ?_ | refine blockP_n ?_ | refine thenP_n ?_ | refine scopeP_x ?_ | refine scopeP_n ?_))
  all_goals (refine Br.out (i := 1000) ?_)
  skip))
  all_goals (first | (fail_if_success refine goB 2 ?_) | (
  refine goB 2 ?_
  all_goals (refine WC.skip ?_)
  skip))
  all_goals (first | (refine Br.keep ?_) | (repeat' (with_reducible first | refine thenP_n ?_ | refine blockP_n ?_ | refine scopeP_n ?_)))
  all_goals (first | (refine Br.keep ?_) | (refine Gs [(0, _), (3, _), (4, _)] ?_))
  all_goals (first | (refine Br.keep ?_) | (refine WC.region ?_))
  all_goals (refine Go ?_)
  all_goals (first
               | (refine Br.keep ?_)
               | (refine WL.call (vs := [_]) rfl (fun a w => Tryz.call87 a w) rfl (k2 _ _ ks2) rfl rfl rfl ?_
                  rintro _ h3 ⟨v3, rfl, ks3, hx3⟩))
  all_goals (first | (refine Br.keep ?_) | (refine WL.step (ok_buildF (vs := [_, _]) (cs := [_, _]) (fun | [a0, a1] => [a0, a1] | _ => []) rfl rfl (by kernel_rfl)) rfl rfl rfl ?_))
  all_goals (first
               | (refine Br.keep ?_)
               | (refine WL.stepR (okE_buildSlice (vs := [_]) (cs := [_, _]) (fun | [.agg ⟨[a0, a1]⟩] => [a0, a1] | _ => []) Tryz.underlying28 rfl rfl (by kernel_rfl)) rfl rfl rfl ?_
                  rintro _ h4 ⟨b4, rfl, hg4, hb4, hx4⟩))
  all_goals (first
               | (refine Br.keep ?_)
               | (refine WL.stepR (ok_append (sz := 2) (bytes := 32) rfl Tryz.underlying28 (show Tryz.prog.info? 125 = some Tryz.t125 by kernel_rfl) rfl rfl rfl rfl (by decide) rfl rfl (Own.nil _ _ _) (rd_blk (len := 1) (sz := 2) (cs := [St userL, St uL]) hb4 rfl) (by simp [Value.oneCell']) (by simp only [maxLen]; omega) (by omega)) rfl rfl rfl ?_
                  rintro v5 h5 ⟨ho5, hx5, hl5⟩
                  have hx23 := hx2.trans hx3
                  have X4 := hx23.trans (hx4.mono fun _ _ e => e.elim)
                  have X5 := X4.trans' hx5 (fun q hq e => by cases e)
                  have ks4 := ks3.ext hx4 nos (fun _ _ => nos)
                  have ks5 := ks4.ext hx5 (fun e => by cases e) (fun q hq e => by cases e)
                  have hf5 : ∀ q, v5.ownBlock = some q → h1.size ≤ q := fresh_of hl5 (fun k hk => by cases hk) X4.size))
  all_goals (refine Go ?_)
  all_goals (first | (refine Br.keep ?_) | (repeat' (with_reducible first | refine thenP_n ?_ | refine blockP_n ?_ | refine scopeP_n ?_)))
  all_goals (first | (refine Br.keep ?_) | (exact ⟨(0 + 1, _), ⟨rfl, rfl, trivial⟩, (by exact .inr ⟨rfl, v3, ho5, ks5, X5, hf5⟩), (by first | omega | (dsimp only; omega) | simp)⟩))
  all_goals (try (refine Br.mk (i := 1000) ?_))
  all_goals (repeat' (with_reducible first | refine thenP_n ?_ | refine blockP_n ?_ | refine scopeP_n ?_))
  all_goals (refine Gs [(3, _)] ?_)
  all_goals (refine WC.sr ?_)
  all_goals (refine Go ?_)
  all_goals (repeat' (with_reducible first | refine thenP_n ?_ | refine blockP_n ?_ | refine scopeP_n ?_))
  all_goals (refine WC.ret ?_)
  all_goals (repeat' (with_reducible first | refine thenP_r ?_ | refine blockP_r ?_ | refine scopeP_r ?_))
  all_goals (refine retP_1 _ ⟨rfl, trivial⟩ ?_)
  all_goals (exact ⟨v2, ho1.ext hx2 (fun q hq e => by have := hf1 q hq; omega), ks2, hx1.trans hx2, hf1⟩)
set_option maxHeartbeats 2000000 in
set_option maxRecDepth 100000 in
theorem hello_read {h : Heap} {w : Value} (hr : Rd h w 1 12 (bys body5)) : CallsH Tryz.prog 51 ⟨[w]⟩ h fun u h' => ∃ p, u = .tuple ⟨[.agg ⟨[In 196608, In 0, In 0, p]⟩, In 0]⟩ ∧ Own h' p 125 2 1 [St userL, St uL] ∧ Ext No h h' ∧ ∀ q, p.ownBlock = some q → h.size ≤ q := by
  have kn := fun (h' : Heap) (b : Nat) (v : Value) (k : Sc h' b v body5) => sc_num k (by decide) (by decide)
  rw [show numB (body5.take 4) = 196608 by decide] at kn
  have kt := fun (h' : Heap) (b : Nat) (v : Value) (k : Sc h' b v restL) => sc_texts k
  have kd := fun (h' : Heap) (b : Nat) (v : Value) (k : Sc h' b v []) => sc_done k
  obtain ⟨A, c, rfl, _⟩ := id hr
  refine calls [(0, _)] Tryz.func51 rfl Tryz.ntmps51 rfl ⟨rfl, trivial⟩ ?_
  all_goals (refine WC.sr ?_)
  all_goals (refine WL.stepR (okE_alloc (fun w => Tryz.zeroValue69 w)) rfl rfl rfl ?_
             rintro _ h1 ⟨b1, rfl, hg1, hb1, hx1⟩)
  all_goals (refine Go ?_)
  all_goals (refine WC.seq ?_)
  all_goals (refine WC.sr ?_)
  all_goals (refine Go ?_)
  all_goals (refine goC 1 2 ?_ ?_ <;> first | exact ⟨⟩ | refine Hb.mk fun hb => ?_ | skip)
  all_goals (first | (fail_if_success refine goB 1 ?_) | (
  refine goB 1 ?_
  all_goals (refine WC.sr ?_)
  all_goals (refine WL.step (ok_buildF (vs := []) (cs := [_, _, _, _]) (fun | [] => [(.int .i64 0), (.int .i64 0), (.int .i64 0), (.slice none 0 0)] | _ => []) rfl rfl (by kernel_rfl)) rfl rfl rfl ?_)
  all_goals (refine WL.stepR0 (okE_storeW (fun w => Tryz.sizeOf69 w) rfl rfl rfl (by assumption) rfl (by simp [Value.oneCell'])) rfl rfl ?_
             rintro _ h1 ⟨hb1, hx1⟩)
  all_goals (refine Go ?_)
  all_goals (refine Gs [(2, _), (3, _)] ?_)
  all_goals (refine WC.ret ?_)
  all_goals (repeat' (with_reducible first | refine thenP_r ?_ | refine blockP_r ?_))
  all_goals (refine retP_2 _ _ ⟨⟨_, rfl, ld_blk (fun w => Tryz.isAgg69 w) (fun w => Tryz.sizeOf69 w) (by assumption) rfl⟩, rfl, trivial⟩ ?_)
  all_goals (exact ⟨_, rfl, ho7.ext hx8 (fun q hq e => own_ne ho7 hb17 (by decide) (e ▸ hq)), X7.trans' hx8 (fun q hq e => by omega), fun q hq => by have := hf6 q hq; omega⟩)
  skip))
  all_goals (first | (fail_if_success refine goB 2 ?_) | (
  refine goB 2 ?_
  all_goals (refine WC.skip ?_)
  skip))
  all_goals (refine Gn ?_)
  all_goals (refine Gs [(0, _), (2, _)] ?_)
  all_goals (refine WC.sr ?_)
  all_goals (refine Go ?_)
  all_goals (refine WL.call (vs := [_]) rfl (fun a w => Tryz.call55 a w) rfl (scan_new body5 (hr.ext0 hx1) (by decide)) rfl rfl rfl ?_
             rintro _ h2 ⟨b2, v2, rfl, k2, hx2, hg2, hf2⟩)
  all_goals (refine Go ?_)
  all_goals (refine WC.sr ?_)
  all_goals (refine Go ?_)
  all_goals (refine WL.call (vs := [_, _]) rfl (fun a w => Tryz.call82 a w) rfl (kn _ _ _ k2) rfl rfl rfl ?_
             rintro _ h3 ⟨v3, rfl, k3, hx3⟩
             have l1 := hx1.size
             have l2 := hx2.size
             have l3 := hx3.size
             have hb13 := hx3.obj (hx2.obj hb1 nos) (fun e => by have := lt_of_some hb1; omega))
  all_goals (refine WL.step (ok_buildF (vs := [_]) (cs := [_, _, _, _]) (fun | [a0] => [a0, (.int .i64 0), (.int .i64 0), (.slice none 0 0)] | _ => []) rfl rfl (by kernel_rfl)) rfl rfl rfl ?_)
  all_goals (refine WL.stepR (okE_alloc (fun w => Tryz.zeroValue69 w)) rfl rfl rfl ?_
             rintro _ h4 ⟨b4, rfl, hg4, hb4, hx4⟩)
  all_goals (refine WL.stepR0 (okE_storeW (fun w => Tryz.sizeOf69 w) rfl rfl rfl hb4 rfl (by simp [Value.oneCell'])) rfl rfl ?_
             rintro _ h5 ⟨hb5, hx5⟩
             have k3' : Sc h3 b2 v3 restL := k3
             have X3 : Ext No h h3 := (hx1.trans hx2).trans' hx3 (fun q hq e => by omega)
             have l4 := hx4.size
             have X5 := (X3.trans hx4).trans' hx5 (fun q hq e => by omega)
             have lb3 := lt_of_some k3.blk
             have k5 : Sc h5 b2 v3 restL := (k3'.ext hx4 nos (fun _ _ => nos)).ext hx5 (fun e => by omega) (fun q hq e => by have := k3'.rd.lt (by decide) hq; omega)
             have hb15 := hx5.obj (hx4.obj hb13 nos) (fun e => by have := lt_of_some hb13; omega))
  all_goals (refine Gn ?_)
  all_goals (refine Gs [(2, _), (4, _), (5, _)] ?_)
  all_goals (refine WC.seq ?_)
  all_goals (refine WC.sr ?_)
  all_goals (refine Go ?_)
  all_goals (refine WL.ld rfl (by first | exact cell_blk hb5 rfl | assumption | exact cell_blk (by assumption) rfl) rfl rfl rfl ?_)
  all_goals (refine Gn ?_)
  all_goals (refine WC.block ?_)
  all_goals (refine WC.sr ?_)
  all_goals (refine Go ?_)
  all_goals (refine goC 3 4 ?_ ?_ <;> first | exact ⟨⟩ | refine Hb.mk fun hb => ?_ | skip)
  all_goals (first | (fail_if_success refine goB 3 ?_) | (
  refine goB 3 ?_
  all_goals (refine WC.region ?_)
  all_goals (refine Go ?_)
  all_goals (refine WL.call (vs := [_]) rfl (fun a w => Tryz.call83 a w) rfl (kt _ _ _ k5) rfl rfl rfl ?_
             rintro w6 h6 ⟨v6, ho6, k6, hx6, hf6⟩
             obtain ⟨A6, c6, rfl, _⟩ := id ho6.slice
             have hb46 := hx6.obj hb5 (fun e => by omega)
             have hb16 := hx6.obj hb15 (fun e => by have := lt_of_some hb1; omega)
             have l5 := X5.size
             have l5' := hx5.size
             have X6 := X5.trans' hx6 (fun q hq e => by omega))
  all_goals (refine Go ?_)
  all_goals (refine WL.stepR0 (okE_store (fun w => Tryz.sizeOf28 w) rfl rfl hb46 (Nat.le_of_ble_eq_true rfl) rfl rfl) rfl rfl ?_
             rintro _ h7 ⟨hb7, hx7⟩
             have ho7 := ho6.ext hx7 (fun q hq e => own_ne ho6 hb46 (by decide) (e ▸ hq))
             have k7 : Sc h7 b2 v6 [] := ⟨hx7.obj k6.blk (fun e => by omega), Rd.ext' k6.rd hx7 (fun q hq => by simp at hq), k6.ne⟩
             have X7 := X6.trans' hx7 (fun q hq e => by omega)
             have hb17 := hx7.obj hb16 (fun e => by have := lt_of_some hb13; omega))
  all_goals (refine Gn ?_)
  skip))
  all_goals (first | (fail_if_success refine goB 4 ?_) | (
  refine goB 4 ?_
  all_goals (refine WC.sr ?_)
  all_goals (refine Go ?_)
  all_goals (refine Gs [(2, _), (4, _), (5, _), (16, _), (23, _)] ?_)
  all_goals (refine goC 5 6 ?_ ?_ <;> first | exact ⟨⟩ | refine Hb.mk fun hb => ?_ | skip)
  all_goals (first | (fail_if_success refine goB 6 ?_) | (
  refine goB 6 ?_
  all_goals (refine WC.sr ?_)
  all_goals (refine Go ?_)
  all_goals (refine goC 7 8 ?_ ?_ <;> first | exact ⟨⟩ | refine Hb.mk fun hb => ?_ | skip)
  all_goals (first | (fail_if_success refine goB 7 ?_) | (
  refine goB 7 ?_
  all_goals (refine WC.skip ?_)
  skip))
  all_goals (first | (fail_if_success refine goB 8 ?_) | (
  refine goB 8 ?_
  all_goals (refine WC.sr ?_)
  all_goals (refine WL.step (ok_buildF (vs := []) (cs := [_, _, _, _]) (fun | [] => [(.int .i64 0), (.int .i64 0), (.int .i64 0), (.slice none 0 0)] | _ => []) rfl rfl (by kernel_rfl)) rfl rfl rfl ?_)
  all_goals (refine WL.stepR0 (okE_storeW (fun w => Tryz.sizeOf69 w) rfl rfl rfl (by assumption) rfl (by simp [Value.oneCell'])) rfl rfl ?_
             rintro _ h1 ⟨hb1, hx1⟩)
  all_goals (refine Go ?_)
  all_goals (refine Gs [(2, _), (3, _)] ?_)
  all_goals (refine WC.ret ?_)
  all_goals (repeat' (with_reducible first | refine thenP_r ?_ | refine blockP_r ?_))
  all_goals (refine retP_2 _ _ ⟨⟨_, rfl, ld_blk (fun w => Tryz.isAgg69 w) (fun w => Tryz.sizeOf69 w) (by assumption) rfl⟩, rfl, trivial⟩ ?_)
  all_goals (exact ⟨_, rfl, ho7.ext hx8 (fun q hq e => own_ne ho7 hb17 (by decide) (e ▸ hq)), X7.trans' hx8 (fun q hq e => by omega), fun q hq => by have := hf6 q hq; omega⟩)
  skip))
  skip))
  skip))
  all_goals (refine Gn ?_)
  all_goals (refine WC.seq ?_)
  all_goals (refine WC.sr ?_)
  all_goals (refine Go ?_)
  all_goals (refine WL.call (vs := [_]) rfl (fun a w => Tryz.call57 a w) rfl (kd _ _ _ k7) rfl rfl rfl ?_
             rintro _ hq ⟨rfl, hz⟩
             replace hz := hz.symm
             subst hz)
  all_goals (refine Go ?_)
  all_goals (refine Gs [(2, _), (5, _), (35, _)] ?_)
  all_goals (refine goC 9 10 ?_ ?_ <;> first | exact ⟨⟩ | refine Hb.mk fun hb => ?_ | skip)
  all_goals (first | (fail_if_success refine goB 9 ?_) | (
  refine goB 9 ?_
  all_goals (refine WC.sr ?_)
  all_goals (refine WL.step (ok_buildF (vs := []) (cs := [_, _, _, _]) (fun | [] => [(.int .i64 0), (.int .i64 0), (.int .i64 0), (.slice none 0 0)] | _ => []) rfl rfl (by kernel_rfl)) rfl rfl rfl ?_)
  all_goals (refine WL.stepR0 (okE_storeW (fun w => Tryz.sizeOf69 w) rfl rfl rfl (by assumption) rfl (by simp [Value.oneCell'])) rfl rfl ?_
             rintro _ h1 ⟨hb1, hx1⟩)
  all_goals (refine Go ?_)
  all_goals (refine WC.ret ?_)
  all_goals (repeat' (with_reducible first | refine thenP_r ?_ | refine blockP_r ?_))
  all_goals (refine retP_2 _ _ ⟨⟨_, rfl, ld_blk (fun w => Tryz.isAgg69 w) (fun w => Tryz.sizeOf69 w) (by assumption) rfl⟩, rfl, trivial⟩ ?_)
  all_goals (exact ⟨_, rfl, ho7.ext hx8 (fun q hq e => own_ne ho7 hb17 (by decide) (e ▸ hq)), X7.trans' hx8 (fun q hq e => by omega), fun q hq => by have := hf6 q hq; omega⟩)
  skip))
  all_goals (first | (fail_if_success refine goB 10 ?_) | (
  refine goB 10 ?_
  all_goals (refine WC.skip ?_)
  skip))
  all_goals (refine Gn ?_)
  all_goals (refine WC.sr ?_)
  all_goals (refine WL.step (ok_loadN (fun w => Tryz.isAgg69 w) (fun w => Tryz.sizeOf69 w) rfl rfl (by exact At.of_block hb7)) rfl rfl rfl ?_)
  all_goals (refine WL.stepR0 (okE_storeW (fun w => Tryz.sizeOf69 w) rfl rfl rfl hb17 rfl (by simp [Value.oneCell'])) rfl rfl ?_
             rintro _ h8 ⟨hb8, hx8⟩)
  all_goals (refine Go ?_)
  all_goals (refine WC.ret ?_)
  all_goals (repeat' (with_reducible first | refine thenP_r ?_ | refine blockP_r ?_))
  all_goals (refine retP_2 _ _ ⟨⟨_, rfl, ld_blk (fun w => Tryz.isAgg69 w) (fun w => Tryz.sizeOf69 w) (by assumption) rfl⟩, rfl, trivial⟩ ?_)
  all_goals (exact ⟨_, rfl, ho7.ext hx8 (fun q hq e => own_ne ho7 hb17 (by decide) (e ▸ hq)), X7.trans' hx8 (fun q hq e => by omega), fun q hq => by have := hf6 q hq; omega⟩)
end Go.Proofs.YtdjjpbbhcidaaaaGreatDoor


/-
  CLIENTS (layer 12), by the code: frames where nothing is left.
-/
namespace Go.Proofs.YtdjjpbbhcidaaaaGreatDoor
open Go Go.RK

section
variable {h h' : Heap} {b : Nat} {v : Value}
end
end Go.Proofs.YtdjjpbbhcidaaaaGreatDoor


/-
  THE COMPARE OF ARRAYS OF TEXTS. No program is named here.
-/
namespace Go.RK
open Go

section
variable {P : Program}
theorem run_eqItems_str (w : World) (d : Nat) {e : TypeId} (he : P.underlying e = some .string) (hp : P.plainKey e = true) (xs ys : Array Value) : ∀ (us vs : List (List UInt8)) (o : Nat), vs.length = us.length →
    (∀ (j : Nat) (a : List UInt8), us[j]? = some a → xs[o + j]? = some (St a)) → (∀ (j : Nat) (a : List UInt8), vs[j]? = some a → ys[o + j]? = some (St a)) →
    (Op.eqItems (d + 1) e 1 xs ys (List.range' o us.length)).run P w = .ok (decide (us = vs)) w
  | [], vs, o, hl, _, _ => by
    obtain rfl : vs = [] := List.eq_nil_of_length_eq_zero hl
    simp [Op.eqItems]
  | a :: us, [], o, hl, _, _ => by simp at hl
  | a :: us, b :: vs, o, hl, hx, hy => by
    have p1 := hx 0 a rfl
    have p2 := hy 0 b rfl
    rw [Nat.add_zero] at p1 p2
    have r1 := run_part_plain (P := P) (w := w) hp p1
    have r2 := run_part_plain (P := P) (w := w) hp p2
    have r3 : (Op.equalIn (d + 1) e (St a) (St b)).run P w = .ok (decide (a = b)) w := by
      show (Op.equalIn (d + 1) e (.string _) (.string _)).run P w = _
      rw [run_equalIn_string w d e _ _ he]
      simp [beq_dec]
    have ih := run_eqItems_str w d he hp xs ys us vs (o + 1) (by simpa using hl) (fun j c hj => by
      have := hx (j + 1) c (by simpa using hj)
      rwa [show o + (j + 1) = o + 1 + j by omega] at this) (fun j c hj => by
      have := hy (j + 1) c (by simpa using hj)
      rwa [show o + (j + 1) = o + 1 + j by omega] at this)
    rw [List.length_cons, List.range'_succ]
    simp only [Op.eqItems, Nat.mul_one, Sem.run_bind, r1, r2, r3, Result.andThen_ok]
    by_cases h : a = b
    · simp [h, ih]
    · simp [h]
variable {f : Fr} {h : Heap} {d : Option Tmp} {ty : TypeId} {pos : String} {af : Array Edge} {g : Option (Nat × Bool)}
theorem ok_eqlA {t t2 e : TypeId} {x y : Operand} {n : Nat} {i : TypeInfo} {us vs : List (List UInt8)} (hu : P.underlying t = some (.array n e)) (hi : P.info? e = some i) (he : P.underlying e = some .string) (hp : P.plainKey e = true) (h1 : P.cellsOf e = 1) (hg : P.eqGuardType P.depth t = false)
    (hl : us.length = n) (hl2 : vs.length = n) (hx : f.ev x = some (.agg ⟨us.map St⟩)) (hy : f.ev y = some (.agg ⟨vs.map St⟩)) :
    OkP P f ⟨d, .binOp .eql t x y t2, ty, pos, af, g⟩ h (.bool (decide (us = vs))) := fun ρ w hag _ => by
  have r1 := run_eqGuard_agg (P := P) w .eql t x y ⟨us.map St⟩ ⟨vs.map St⟩ hg
  have r2 := run_eql_struct (P := P) w t ⟨us.map St⟩ ⟨vs.map St⟩
  rw [show (10000 : Nat) = 9999 + 1 from rfl, run_equalIn_array w 9999 _ _ hu hi, h1, List.range_eq_range', ← hl] at r2
  rw [run_eqItems_str w 9998 he hp _ _ us vs 0 (by omega) (fun j a hj => by simp [hj]) (fun j a hj => by simp [hj])] at r2
  simp only [execOp, hag _ _ hx, hag _ _ hy, Sem.run_bind, r1, r2, Result.andThen_ok, Sem.run_pure]
end
end Go.RK

/-
  front.Check, of a Sync.
-/
namespace Go.Proofs.YtdjjpbbhcidaaaaGreatDoor
open Go Go.RK

set_option maxHeartbeats 2000000 in
set_option maxRecDepth 100000 in
theorem cells_no {h : Heap} (A : Option Addr) (c : Nat) : CallsH Tryz.prog 93 ⟨[.slice A 0 c]⟩ h fun u h' => u = .bool true ∧ h' = h := by
  have h1 : CallsH Tryz.prog 190 ⟨[.slice A 0 c, .func (.func 139) ⟨[]⟩ ⟨[]⟩]⟩ h fun u h' => u = In (-1) ∧ h' = h := by
    refine calls [(0, _), (1, _)] Tryz.func190 rfl Tryz.ntmps190 rfl ⟨rfl, rfl, trivial⟩ ?_
    all_goals (refine WC.sr ?_)
    all_goals (refine Go ?_)
    all_goals (refine WC.seq ?_)
    all_goals (refine WC.sr ?_)
    all_goals (refine Go ?_)
    all_goals (refine WC.block ?_)
    -- loop 0: slots that turn [8], that stay [0, 1, 7]
    all_goals (refine WC.loopG (X := Nat) (fun x => ([(8, In (x : Int))] : Fr)) [(0, _), (1, _), (7, _)] (fun k h' => k = 0 ∧ h' = h) (fun k => k) (0) ⟨rfl, rfl, rfl, rfl, trivial⟩ (by exact ⟨rfl, rfl⟩) ?_)
    all_goals (rintro k _ ⟨rfl, rfl⟩)
    all_goals (refine WC.sub [(8, _), (0, _), (1, _), (7, _)] ⟨rfl, rfl, rfl, rfl, trivial⟩ ?_)
    all_goals (refine WC.sr ?_)
    all_goals (refine Go ?_)
    all_goals (refine WC.seq ?_)
    all_goals (refine goC 1 2 ?_ ?_ <;> first | exact ⟨⟩ | refine Hb.mk fun hb => ?_ | skip)
    all_goals (first | (fail_if_success refine goB 1 ?_) | (
    refine goB 1 ?_
    all_goals (refine WC.skip ?_)
    skip))
    all_goals (first | (fail_if_success refine goB 2 ?_) | (
    refine goB 2 ?_
    all_goals (refine WC.exit ?_)
    all_goals (repeat' (with_reducible first | refine thenP_x ?_ | refine blockP_miss rfl ?_ | refine blockP_hit ?_ | refine blockP_n ?_ | refine thenP_n ?_))
    all_goals (refine Br.out (i := 1000) ?_)
    skip))
    all_goals (refine Gn ?_)
    all_goals (first | (refine Br.keep ?_) | (refine WC.seq ?_))
    all_goals (first | (refine Br.keep ?_) | (refine WC.block ?_))
    all_goals (first | (refine Br.keep ?_) | (refine WC.sr ?_))
    all_goals (refine Go ?_)
    all_goals (first | (refine Br.keep ?_) | (refine WC.sr ?_))
    all_goals (refine Go ?_)
    all_goals (first | (refine Br.keep ?_) | (refine WL.step (ok_idxAddrA Tryz.underlying32 (fun w => Tryz.sizeOf211 w) rfl rfl rfl (by omega) (by first | rfl | assumption)) rfl rfl rfl ?_))
    all_goals (first | (refine Br.keep ?_) | (refine WL.step (ok_loadN (fun w => Tryz.isAgg211 w) (fun w => Tryz.sizeOf211 w) rfl rfl (by assumption)) rfl rfl rfl ?_))
    all_goals (first | (refine Br.keep ?_) | (fail "no contract for the call at 4.5"))
    all_goals (refine Gn ?_)
    all_goals (first | (refine Br.keep ?_) | (refine Gs [(0, _), (1, _), (5, _), (7, _), (8, _), (16, _)] ?_))
    all_goals (first | (refine Br.keep ?_) | (refine goC 3 4 ?_ ?_ <;> first | exact ⟨⟩ | refine Hb.mk fun hb => ?_ | skip))
    all_goals (first | (fail_if_success refine goB 3 ?_) | (
    refine goB 3 ?_
    all_goals (refine WC.sr ?_)
    all_goals (refine Go ?_)
    all_goals (refine Gs [(4, _)] ?_)
    all_goals (refine Gt ?_)
    all_goals (exact ⟨rfl, rfl⟩)
    skip))
    all_goals (first | (fail_if_success refine goB 4 ?_) | (
    refine goB 4 ?_
    all_goals (refine WC.skip ?_)
    skip))
    all_goals (refine Gn ?_)
    all_goals (first | (refine Br.keep ?_) | (refine WC.region ?_))
    all_goals (refine Go ?_)
    all_goals (first | (refine Br.keep ?_) | (exact ⟨0, ⟨rfl, rfl, rfl, rfl, trivial⟩, (by exact ⟨⟩), (by simp; omega)⟩))
    all_goals (try (refine Br.mk (i := 1000) ?_))
    all_goals (refine Gn ?_)
    all_goals (refine Gs [] ?_)
    all_goals (refine WC.sr ?_)
    all_goals (refine Go ?_)
    all_goals (refine Gt ?_)
    all_goals (exact ⟨rfl, rfl⟩)
  have h2 : CallsH Tryz.prog 140 ⟨[.slice A 0 c, .func (.func 139) ⟨[]⟩ ⟨[]⟩]⟩ h fun u h' => u = .bool false ∧ h' = h := by
    refine calls [(0, _), (1, _)] Tryz.func140 rfl Tryz.ntmps140 rfl ⟨rfl, rfl, trivial⟩ ?_
    all_goals (refine WC.sr ?_)
    all_goals (refine Go ?_)
    all_goals (refine WC.sr ?_)
    all_goals (refine Go ?_)
    all_goals (refine WL.call (vs := [_, _]) rfl (fun a w => Tryz.call190 a w) rfl (h1) rfl rfl rfl ?_
               rintro _ hz ⟨rfl, _⟩
               subst hz)
    all_goals (refine Go ?_)
    all_goals (refine Gs [(4, _)] ?_)
    all_goals (refine Gt ?_)
    all_goals (exact ⟨rfl, rfl⟩)
  refine calls [(0, _)] Tryz.func93 rfl Tryz.ntmps93 rfl ⟨rfl, trivial⟩ ?_
  all_goals (refine WC.sr ?_)
  all_goals (refine Go ?_)
  all_goals (refine WC.sr ?_)
  all_goals (refine Go ?_)
  all_goals (refine WC.sr ?_)
  all_goals (refine Go ?_)
  all_goals (refine goP 7 ?_ ?_ <;> first | exact ⟨⟩ | refine Hb.mk fun hb => ?_ | skip)
  all_goals (refine Gg ?_)
  all_goals (first
               | (refine WL.pass rfl rfl rfl ?_)
               | (refine WL.call (vs := [_, _]) rfl (fun a w => Tryz.call140 a w) rfl (h2) rfl rfl rfl ?_
                  rintro _ hz ⟨rfl, _⟩
                  subst hz))
  all_goals (refine Gg ?_)
  all_goals (refine Go ?_)
  all_goals (refine Gs [(2, _)] ?_)
  all_goals (refine Gt ?_)
  all_goals (exact ⟨rfl, rfl⟩)
set_option maxHeartbeats 2000000 in
set_option maxRecDepth 100000 in
theorem alike_no {h : Heap} (A B : Option Addr) (c d : Nat) : CallsH Tryz.prog 145 ⟨[.slice A 0 c, .slice B 0 d, .func (.func 146) ⟨[]⟩ ⟨[]⟩]⟩ h fun u h' => u = .bool true ∧ h' = h := by
  refine calls [(0, _), (1, _), (2, _)] Tryz.func145 rfl Tryz.ntmps145 rfl ⟨rfl, rfl, rfl, trivial⟩ ?_
  all_goals (refine WC.sr ?_)
  all_goals (refine Go ?_)
  all_goals (refine WC.seq ?_)
  all_goals (refine WC.sr ?_)
  all_goals (refine Go ?_)
  all_goals (refine Gs [(0, _), (1, _), (2, _), (14, _)] ?_)
  all_goals (refine goC 1 2 ?_ ?_ <;> first | exact ⟨⟩ | refine Hb.mk fun hb => ?_ | skip)
  all_goals (first | (fail_if_success refine goB 1 ?_) | (
  refine goB 1 ?_
  all_goals (refine WC.sr ?_)
  all_goals (refine Go ?_)
  all_goals (refine Gs [(6, _)] ?_)
  all_goals (refine Gt ?_)
  all_goals (exact ⟨rfl, rfl⟩)
  skip))
  all_goals (first | (fail_if_success refine goB 2 ?_) | (
  refine goB 2 ?_
  all_goals (refine WC.skip ?_)
  skip))
  all_goals (refine Gn ?_)
  all_goals (refine WC.seq ?_)
  all_goals (refine WC.sr ?_)
  all_goals (refine Go ?_)
  all_goals (refine WC.block ?_)
  -- loop 0: slots that turn [17], that stay [1, 2, 15, 16]
  all_goals (refine WC.loopG (X := Nat) (fun x => ([(17, In (x : Int))] : Fr)) [(1, _), (2, _), (15, _), (16, _)] (fun k h' => k = 0 ∧ h' = h) (fun k => k) (0) ⟨rfl, rfl, rfl, rfl, rfl, trivial⟩ (by exact ⟨rfl, rfl⟩) ?_)
  all_goals (rintro k _ ⟨rfl, rfl⟩)
  all_goals (refine WC.sub [(17, _), (1, _), (2, _), (15, _), (16, _)] ⟨rfl, rfl, rfl, rfl, rfl, trivial⟩ ?_)
  all_goals (refine WC.sr ?_)
  all_goals (refine Go ?_)
  all_goals (refine WC.seq ?_)
  all_goals (refine goC 3 4 ?_ ?_ <;> first | exact ⟨⟩ | refine Hb.mk fun hb => ?_ | skip)
  all_goals (first | (fail_if_success refine goB 3 ?_) | (
  refine goB 3 ?_
  all_goals (refine WC.skip ?_)
  skip))
  all_goals (first | (fail_if_success refine goB 4 ?_) | (
  refine goB 4 ?_
  all_goals (refine WC.exit ?_)
  all_goals (repeat' (with_reducible first | refine thenP_x ?_ | refine blockP_miss rfl ?_ | refine blockP_hit ?_ | refine blockP_n ?_ | refine thenP_n ?_))
  all_goals (refine Br.out (i := 1000) ?_)
  skip))
  all_goals (refine Gn ?_)
  all_goals (first | (refine Br.keep ?_) | (refine WC.seq ?_))
  all_goals (first | (refine Br.keep ?_) | (refine WC.block ?_))
  all_goals (first | (refine Br.keep ?_) | (refine WC.sr ?_))
  all_goals (refine Go ?_)
  all_goals (first | (refine Br.keep ?_) | (refine WL.step (ok_idxAddrA Tryz.underlying32 (fun w => Tryz.sizeOf211 w) rfl rfl rfl (by omega) (by first | rfl | assumption)) rfl rfl rfl ?_))
  all_goals (first | (refine Br.keep ?_) | (refine WL.step (ok_loadN (fun w => Tryz.isAgg211 w) (fun w => Tryz.sizeOf211 w) rfl rfl (by assumption)) rfl rfl rfl ?_))
  all_goals (first
               | (refine Br.keep ?_)
               | (refine WL.stepR (okE_alloc (fun w => Tryz.zeroValue211 w)) rfl rfl rfl ?_
                  rintro _ h1 ⟨b1, rfl, hg1, hb1, hx1⟩))
  all_goals (refine Go ?_)
  all_goals (first
               | (refine Br.keep ?_)
               | (refine WL.stepR0 (okE_storeW (fun w => Tryz.sizeOf211 w) rfl rfl rfl (by assumption) rfl (by simp [Value.oneCell'])) rfl rfl ?_
                  rintro _ h1 ⟨hb1, hx1⟩))
  all_goals (refine Gn ?_)
  all_goals (first | (refine Br.keep ?_) | (refine Gs [(1, _), (2, _), (7, _), (8, _), (15, _), (16, _), (17, _)] ?_))
  all_goals (first | (refine Br.keep ?_) | (refine WC.sr ?_))
  all_goals (refine Go ?_)
  all_goals (first | (refine Br.keep ?_) | (refine WL.step (ok_idxAddrA Tryz.underlying32 (fun w => Tryz.sizeOf211 w) rfl rfl rfl (by omega) (by first | rfl | assumption)) rfl rfl rfl ?_))
  all_goals (first | (refine Br.keep ?_) | (refine WL.step (ok_loadN (fun w => Tryz.isAgg211 w) (fun w => Tryz.sizeOf211 w) rfl rfl (by assumption)) rfl rfl rfl ?_))
  all_goals (first
               | (refine Br.keep ?_)
               | (refine WL.stepR (okE_alloc (fun w => Tryz.zeroValue211 w)) rfl rfl rfl ?_
                  rintro _ h1 ⟨b1, rfl, hg1, hb1, hx1⟩))
  all_goals (first
               | (refine Br.keep ?_)
               | (refine WL.stepR0 (okE_storeW (fun w => Tryz.sizeOf211 w) rfl rfl rfl (by assumption) rfl (by simp [Value.oneCell'])) rfl rfl ?_
                  rintro _ h1 ⟨hb1, hx1⟩))
  all_goals (refine Gn ?_)
  all_goals (first | (refine Br.keep ?_) | (refine Gs [(1, _), (2, _), (8, _), (9, _), (15, _), (16, _), (17, _)] ?_))
  all_goals (first | (refine Br.keep ?_) | (refine WC.sr ?_))
  all_goals (refine Go ?_)
  all_goals (first | (refine Br.keep ?_) | (refine WL.step (ok_loadN (fun w => Tryz.isAgg211 w) (fun w => Tryz.sizeOf211 w) rfl rfl (by assumption)) rfl rfl rfl ?_))
  all_goals (first | (refine Br.keep ?_) | (refine WL.step (ok_loadN (fun w => Tryz.isAgg211 w) (fun w => Tryz.sizeOf211 w) rfl rfl (by assumption)) rfl rfl rfl ?_))
  all_goals (first | (refine Br.keep ?_) | (fail "no contract for the call at 7.3"))
  all_goals (refine Go ?_)
  all_goals (first | (refine Br.keep ?_) | (refine Gs [(1, _), (2, _), (15, _), (16, _), (17, _), (30, _)] ?_))
  all_goals (first | (refine Br.keep ?_) | (refine goC 5 6 ?_ ?_ <;> first | exact ⟨⟩ | refine Hb.mk fun hb => ?_ | skip))
  all_goals (first | (fail_if_success refine goB 5 ?_) | (
  refine goB 5 ?_
  all_goals (refine WC.sr ?_)
  all_goals (refine Go ?_)
  all_goals (refine Gs [(6, _)] ?_)
  all_goals (refine Gt ?_)
  all_goals (exact ⟨rfl, rfl⟩)
  skip))
  all_goals (first | (fail_if_success refine goB 6 ?_) | (
  refine goB 6 ?_
  all_goals (refine WC.skip ?_)
  skip))
  all_goals (refine Gn ?_)
  all_goals (first | (refine Br.keep ?_) | (refine WC.region ?_))
  all_goals (refine Go ?_)
  all_goals (first | (refine Br.keep ?_) | (exact ⟨0, ⟨rfl, rfl, rfl, rfl, rfl, trivial⟩, (by exact ⟨⟩), (by simp; omega)⟩))
  all_goals (try (refine Br.mk (i := 1000) ?_))
  all_goals (refine Gn ?_)
  all_goals (refine Gs [] ?_)
  all_goals (refine WC.sr ?_)
  all_goals (refine Go ?_)
  all_goals (refine Gt ?_)
  all_goals (exact ⟨rfl, rfl⟩)
/-- The cells of a Sync. -/
abbrev syC : List Value := [.int .u8 83, .int .u8 0, St [], St [], St [], .slice none 0 0, .slice none 0 0, .slice none 0 0, .slice none 0 0, In 0]
set_option maxHeartbeats 2000000 in
set_option maxRecDepth 100000 in
theorem whatS {h : Heap} : CallsH Tryz.prog 94 ⟨[.agg ⟨syC⟩]⟩ h fun u h' => u = .bool true ∧ Ext No h h' := by
  refine calls [(0, _)] Tryz.func94 rfl Tryz.ntmps94 rfl ⟨rfl, trivial⟩ ?_
  all_goals (refine WC.sr ?_)
  all_goals (refine WL.stepR (okE_box rfl) rfl rfl rfl ?_
             rintro _ h1 ⟨b1, rfl, hg1, hb1, hx1⟩)
  all_goals (refine Go ?_)
  all_goals (refine WC.seq ?_)
  all_goals (refine WC.sr ?_)
  all_goals (refine Go ?_)
  all_goals (refine Ld ?_)
  all_goals (refine Go ?_)
  all_goals (refine goP 6 ?_ ?_ <;> first | exact ⟨⟩ | refine Hb.mk fun hb => ?_ | skip)
  all_goals (refine Gg ?_)
  all_goals (first | (refine WL.pass rfl rfl rfl ?_) | (refine Ld ?_))
  all_goals (refine Gg ?_)
  all_goals (refine Go ?_)
  all_goals (refine Gs [(1, _), (10, _)] ?_)
  all_goals (refine goC 1 2 ?_ ?_ <;> first | exact ⟨⟩ | refine Hb.mk fun hb => ?_ | skip)
  all_goals (first | (fail_if_success refine goB 1 ?_) | (
  refine goB 1 ?_
  all_goals (refine WC.sr ?_)
  all_goals (refine Go ?_)
  all_goals (refine Ld ?_)
  all_goals (refine Go ?_)
  all_goals (refine goP 14 ?_ ?_ <;> first | exact ⟨⟩ | refine Hb.mk fun hb => ?_ | skip)
  all_goals (refine Gg ?_)
  all_goals (first | (refine WL.pass rfl rfl rfl ?_) | (refine Ld ?_))
  all_goals (refine Gg ?_)
  all_goals (refine Go ?_)
  all_goals (refine Gs [(2, _)] ?_)
  all_goals (refine Gt ?_)
  all_goals (exact ⟨rfl, hx1⟩)
  skip))
  all_goals (first | (fail_if_success refine goB 2 ?_) | (
  refine goB 2 ?_
  all_goals (refine WC.skip ?_)
  skip))
  all_goals (refine Gn ?_)
  all_goals (refine WC.sr ?_)
  all_goals (refine Go ?_)
  all_goals (refine Ld ?_)
  all_goals (refine Go ?_)
  all_goals (refine Gs [(2, _)] ?_)
  all_goals (refine Gt ?_)
  all_goals (exact ⟨rfl, hx1⟩)
set_option maxHeartbeats 2000000 in
set_option maxRecDepth 100000 in
theorem ofS {h : Heap} : CallsH Tryz.prog 97 ⟨[.agg ⟨syC⟩]⟩ h fun u h' => u = .agg ⟨syC⟩ ∧ Ext No h h' := by
  refine calls [(0, _)] Tryz.func97 rfl Tryz.ntmps97 rfl ⟨rfl, trivial⟩ ?_
  all_goals (refine WC.sr ?_)
  all_goals (refine WL.stepR (okE_box rfl) rfl rfl rfl ?_
             rintro _ h1 ⟨b1, rfl, hg1, hb1, hx1⟩)
  all_goals (refine WL.stepR (okE_alloc (fun w => Tryz.zeroValue34 w)) rfl rfl rfl ?_
             rintro _ h2 ⟨b2, rfl, hg2, hb2, hx2⟩)
  all_goals (have hb1a := hx2.obj hb1 nos)
  all_goals (refine Gn ?_)
  all_goals (refine WC.sr ?_)
  all_goals (refine Go ?_)
  all_goals (refine Ld ?_)
  all_goals (refine WL.step (ok_buildF (vs := [_]) (cs := [_, _, _, _, _, _, _, _, _, _]) (fun | [a0] => [a0, (.int .u8 0), (St []), (St []), (St []), (.slice none 0 0), (.slice none 0 0), (.slice none 0 0), (.slice none 0 0), (.int .i64 0)] | _ => []) rfl rfl (by kernel_rfl)) rfl rfl rfl ?_)
  all_goals (refine WL.stepR (okE_alloc (fun w => Tryz.zeroValue34 w)) rfl rfl rfl ?_
             rintro _ h3 ⟨b3, rfl, hg3, hb3, hx3⟩)
  all_goals (have hb1b := hx3.obj hb1a nos
             have hb2b := hx3.obj hb2 nos
             have n13 : ¬ b1 = b3 := by have := lt_of_some hb1a; omega
             have n23 : ¬ b2 = b3 := by have := lt_of_some hb2; omega)
  all_goals (refine WL.stepR0 (okE_storeW (fun w => Tryz.sizeOf34 w) rfl rfl rfl (by assumption) rfl (by simp [Value.oneCell'])) rfl rfl ?_
             rintro _ h4 ⟨hb4, hx4⟩)
  all_goals (have hb1c := hx4.obj hb1b n13
             have hb2c := hx4.obj hb2b n23
             have hX4 : Ext No h h4 := ((hx1.trans hx2).trans hx3).trans' hx4 (fun q hq e => by have := hx1.size; have := hx2.size; omega))
  all_goals (refine Gn ?_)
  all_goals (refine Gs [(1, _), (2, _), (3, _)] ?_)
  all_goals (refine WC.seq ?_)
  all_goals (refine WC.sr ?_)
  all_goals (refine Go ?_)
  all_goals (refine Ld ?_)
  all_goals (refine Gn ?_)
  all_goals (refine WC.block ?_)
  all_goals (refine WC.sr ?_)
  all_goals (refine Go ?_)
  all_goals (refine goC 1 2 ?_ ?_ <;> first | exact ⟨⟩ | refine Hb.mk fun hb => ?_ | skip)
  all_goals (first | (fail_if_success refine goB 1 ?_) | (
  refine goB 1 ?_
  all_goals (refine WC.drawE fol (by kernel_rfl) ?_)
  all_goals (refine WQ.stepE (ok_fieldAddr rfl Tryz.underlying34 rfl (fun w => Tryz.sizeOf9 w)) rfl rfl rfl ?_)
  all_goals (refine WQ.stepE (ok_load (fun w => Tryz.isAgg9 w) rfl (by first | assumption | exact cell_blk (by assumption) rfl)) rfl rfl rfl ?_)
  all_goals (refine WQ.stepE (ok_fieldAddr rfl Tryz.underlying34 rfl (fun w => Tryz.sizeOf9 w)) rfl rfl rfl ?_)
  all_goals (refine WQ.stepE (ok_load (fun w => Tryz.isAgg9 w) rfl (by first | assumption | exact cell_blk (by assumption) rfl)) rfl rfl rfl ?_)
  all_goals (refine WQ.stepE (ok_fieldAddr rfl Tryz.underlying34 rfl (fun w => Tryz.sizeOf31 w)) rfl rfl rfl ?_)
  all_goals (refine WQ.stepE (ok_load (fun w => Tryz.isAgg31 w) rfl (by first | assumption | exact cell_blk (by assumption) rfl)) rfl rfl rfl ?_)
  all_goals (refine WQ.stepE (ok_fieldAddr rfl Tryz.underlying34 rfl (fun w => Tryz.sizeOf9 w)) rfl rfl rfl ?_)
  all_goals (refine WL.stepR0 (okE_store (fun w => Tryz.sizeOf9 w) rfl rfl (by assumption) (Nat.le_of_ble_eq_true rfl) rfl rfl) rfl rfl ?_
             rintro _ h1 ⟨hb1, hx1⟩)
  all_goals (refine WQ.stepE (ok_fieldAddr rfl Tryz.underlying34 rfl (fun w => Tryz.sizeOf9 w)) rfl rfl rfl ?_)
  all_goals (refine WL.stepR0 (okE_store (fun w => Tryz.sizeOf9 w) rfl rfl (by assumption) (Nat.le_of_ble_eq_true rfl) rfl rfl) rfl rfl ?_
             rintro _ h1 ⟨hb1, hx1⟩)
  all_goals (refine WQ.stepE (ok_fieldAddr rfl Tryz.underlying34 rfl (fun w => Tryz.sizeOf31 w)) rfl rfl rfl ?_)
  all_goals (refine WL.stepR0 (okE_store (fun w => Tryz.sizeOf31 w) rfl rfl (by assumption) (Nat.le_of_ble_eq_true rfl) rfl rfl) rfl rfl ?_
             rintro _ h1 ⟨hb1, hx1⟩)
  all_goals (refine WQ.nil ?_)
  skip))
  all_goals (first | (fail_if_success refine goB 2 ?_) | (
  refine goB 2 ?_
  all_goals (refine WC.sr ?_)
  all_goals (refine Go ?_)
  all_goals (refine Gs [(1, _), (2, _), (3, _), (8, _), (20, _)] ?_)
  all_goals (refine goC 3 4 ?_ ?_ <;> first | exact ⟨⟩ | refine Hb.mk fun hb => ?_ | skip)
  all_goals (first | (fail_if_success refine goB 3 ?_) | (
  refine goB 3 ?_
  all_goals (refine WC.seq ?_)
  all_goals (refine WC.drawE fol (by kernel_rfl) ?_)
  all_goals (refine WQ.stepE (ok_fieldAddr rfl Tryz.underlying34 rfl (fun w => Tryz.sizeOf9 w)) rfl rfl rfl ?_)
  all_goals (refine WQ.stepE (ok_load (fun w => Tryz.isAgg9 w) rfl (by first | assumption | exact cell_blk (by assumption) rfl)) rfl rfl rfl ?_)
  all_goals (refine WQ.stepE (ok_fieldAddr rfl Tryz.underlying34 rfl (fun w => Tryz.sizeOf9 w)) rfl rfl rfl ?_)
  all_goals (refine WQ.stepE (ok_load (fun w => Tryz.isAgg9 w) rfl (by first | assumption | exact cell_blk (by assumption) rfl)) rfl rfl rfl ?_)
  all_goals (refine WQ.stepE (ok_fieldAddr rfl Tryz.underlying34 rfl (fun w => Tryz.sizeOf9 w)) rfl rfl rfl ?_)
  all_goals (refine WL.stepR0 (okE_store (fun w => Tryz.sizeOf9 w) rfl rfl (by assumption) (Nat.le_of_ble_eq_true rfl) rfl rfl) rfl rfl ?_
             rintro _ h1 ⟨hb1, hx1⟩)
  all_goals (refine WQ.stepE (ok_fieldAddr rfl Tryz.underlying34 rfl (fun w => Tryz.sizeOf9 w)) rfl rfl rfl ?_)
  all_goals (refine WL.stepR0 (okE_store (fun w => Tryz.sizeOf9 w) rfl rfl (by assumption) (Nat.le_of_ble_eq_true rfl) rfl rfl) rfl rfl ?_
             rintro _ h1 ⟨hb1, hx1⟩)
  all_goals (refine WQ.nil ?_)
  all_goals (refine Gn ?_)
  all_goals (refine Gs [(1, _), (2, _), (3, _)] ?_)
  all_goals (refine WC.drawE fol (by kernel_rfl) ?_)
  all_goals (refine WQ.stepE (ok_fieldAddr rfl Tryz.underlying34 rfl (fun w => Tryz.sizeOf31 w)) rfl rfl rfl ?_)
  all_goals (refine WQ.stepE (ok_load (fun w => Tryz.isAgg31 w) rfl (by first | assumption | exact cell_blk (by assumption) rfl)) rfl rfl rfl ?_)
  all_goals (refine WQ.stepE (ok_fieldAddr rfl Tryz.underlying34 rfl (fun w => Tryz.sizeOf32 w)) rfl rfl rfl ?_)
  all_goals (refine WQ.stepE (ok_load (fun w => Tryz.isAgg32 w) rfl (by first | assumption | exact cell_blk (by assumption) rfl)) rfl rfl rfl ?_)
  all_goals (refine WQ.stepE (ok_fieldAddr rfl Tryz.underlying34 rfl (fun w => Tryz.sizeOf31 w)) rfl rfl rfl ?_)
  all_goals (refine WQ.stepE (ok_load (fun w => Tryz.isAgg31 w) rfl (by first | assumption | exact cell_blk (by assumption) rfl)) rfl rfl rfl ?_)
  all_goals (refine WQ.stepE (ok_fieldAddr rfl Tryz.underlying34 rfl (fun w => Tryz.sizeOf31 w)) rfl rfl rfl ?_)
  all_goals (refine WL.stepR0 (okE_store (fun w => Tryz.sizeOf31 w) rfl rfl (by assumption) (Nat.le_of_ble_eq_true rfl) rfl rfl) rfl rfl ?_
             rintro _ h1 ⟨hb1, hx1⟩)
  all_goals (refine WQ.stepE (ok_fieldAddr rfl Tryz.underlying34 rfl (fun w => Tryz.sizeOf32 w)) rfl rfl rfl ?_)
  all_goals (refine WL.stepR0 (okE_store (fun w => Tryz.sizeOf32 w) rfl rfl (by assumption) (Nat.le_of_ble_eq_true rfl) rfl rfl) rfl rfl ?_
             rintro _ h1 ⟨hb1, hx1⟩)
  all_goals (refine WQ.stepE (ok_fieldAddr rfl Tryz.underlying34 rfl (fun w => Tryz.sizeOf31 w)) rfl rfl rfl ?_)
  all_goals (refine WL.stepR0 (okE_store (fun w => Tryz.sizeOf31 w) rfl rfl (by assumption) (Nat.le_of_ble_eq_true rfl) rfl rfl) rfl rfl ?_
             rintro _ h1 ⟨hb1, hx1⟩)
  all_goals (refine WQ.nil ?_)
  skip))
  all_goals (first | (fail_if_success refine goB 4 ?_) | (
  refine goB 4 ?_
  all_goals (refine WC.seq ?_)
  all_goals (refine WC.sr ?_)
  all_goals (refine Go ?_)
  all_goals (refine goC 5 6 ?_ ?_ <;> first | exact ⟨⟩ | refine Hb.mk fun hb => ?_ | skip)
  all_goals (first | (fail_if_success refine goB 5 ?_) | (
  refine goB 5 ?_
  all_goals (refine WC.skip ?_)
  skip))
  all_goals (first | (fail_if_success refine goB 6 ?_) | (
  refine goB 6 ?_
  all_goals (refine WC.region ?_)
  all_goals (refine Go ?_)
  skip))
  all_goals (refine Gn ?_)
  all_goals (refine goC 7 8 ?_ ?_ <;> first | exact ⟨⟩ | refine Hb.mk fun hb => ?_ | skip)
  all_goals (first | (fail_if_success refine goB 7 ?_) | (
  refine goB 7 ?_
  all_goals (refine WC.sr ?_)
  all_goals (refine Go ?_)
  all_goals (refine Ld ?_)
  all_goals (refine Go ?_)
  all_goals (refine WL.stepR0 (okE_store (fun w => Tryz.sizeOf5 w) rfl rfl (by assumption) (Nat.le_of_ble_eq_true rfl) rfl rfl) rfl rfl ?_
             rintro _ h1 ⟨hb1, hx1⟩)
  all_goals (refine Gn ?_)
  all_goals (refine Gs [(1, _), (2, _), (3, _)] ?_)
  all_goals (refine WC.sr ?_)
  all_goals (refine Go ?_)
  all_goals (refine Ld ?_)
  all_goals (refine Gn ?_)
  all_goals (refine WC.block ?_)
  all_goals (refine WC.sr ?_)
  all_goals (refine Go ?_)
  all_goals (refine goC 9 10 ?_ ?_ <;> first | exact ⟨⟩ | refine Hb.mk fun hb => ?_ | skip)
  all_goals (first | (fail_if_success refine goB 9 ?_) | (
  refine goB 9 ?_
  all_goals (refine WC.region ?_)
  all_goals (refine Go ?_)
  all_goals (refine Ld ?_)
  all_goals (refine Go ?_)
  all_goals (refine WL.stepR0 (okE_store (fun w => Tryz.sizeOf9 w) rfl rfl (by assumption) (Nat.le_of_ble_eq_true rfl) rfl rfl) rfl rfl ?_
             rintro _ h1 ⟨hb1, hx1⟩)
  all_goals (refine Gn ?_)
  skip))
  all_goals (first | (fail_if_success refine goB 10 ?_) | (
  refine goB 10 ?_
  all_goals (refine WC.sr ?_)
  all_goals (refine Go ?_)
  all_goals (refine Gs [(1, _), (2, _), (3, _), (50, _)] ?_)
  all_goals (refine goC 11 12 ?_ ?_ <;> first | exact ⟨⟩ | refine Hb.mk fun hb => ?_ | skip)
  all_goals (first | (fail_if_success refine goB 11 ?_) | (
  refine goB 11 ?_
  all_goals (refine WC.region ?_)
  all_goals (refine Go ?_)
  all_goals (refine Ld ?_)
  all_goals (refine Go ?_)
  all_goals (refine WL.stepR0 (okE_store (fun w => Tryz.sizeOf9 w) rfl rfl (by assumption) (Nat.le_of_ble_eq_true rfl) rfl rfl) rfl rfl ?_
             rintro _ h1 ⟨hb1, hx1⟩)
  all_goals (refine Gn ?_)
  skip))
  all_goals (first | (fail_if_success refine goB 12 ?_) | (
  refine goB 12 ?_
  all_goals (refine WC.skip ?_)
  skip))
  skip))
  skip))
  all_goals (first | (fail_if_success refine goB 8 ?_) | (
  refine goB 8 ?_
  all_goals (refine WC.sr ?_)
  all_goals (refine Go ?_)
  all_goals (refine Gs [(1, _), (2, _), (3, _), (8, _), (55, _)] ?_)
  all_goals (refine goC 13 14 ?_ ?_ <;> first | exact ⟨⟩ | refine Hb.mk fun hb => ?_ | skip)
  all_goals (first | (fail_if_success refine goB 13 ?_) | (
  refine goB 13 ?_
  all_goals (refine WC.drawE fol (by kernel_rfl) ?_)
  all_goals (refine WQ.stepE (ok_fieldAddr rfl Tryz.underlying34 rfl (fun w => Tryz.sizeOf9 w)) rfl rfl rfl ?_)
  all_goals (refine WQ.stepE (ok_load (fun w => Tryz.isAgg9 w) rfl (by first | assumption | exact cell_blk (by assumption) rfl)) rfl rfl rfl ?_)
  all_goals (refine WQ.stepE (ok_fieldAddr rfl Tryz.underlying34 rfl (fun w => Tryz.sizeOf3 w)) rfl rfl rfl ?_)
  all_goals (refine WQ.stepE (ok_load (fun w => Tryz.isAgg3 w) rfl (by first | assumption | exact cell_blk (by assumption) rfl)) rfl rfl rfl ?_)
  all_goals (refine WQ.stepE (ok_fieldAddr rfl Tryz.underlying34 rfl (fun w => Tryz.sizeOf9 w)) rfl rfl rfl ?_)
  all_goals (refine WL.stepR0 (okE_store (fun w => Tryz.sizeOf9 w) rfl rfl (by assumption) (Nat.le_of_ble_eq_true rfl) rfl rfl) rfl rfl ?_
             rintro _ h1 ⟨hb1, hx1⟩)
  all_goals (refine WQ.stepE (ok_fieldAddr rfl Tryz.underlying34 rfl (fun w => Tryz.sizeOf3 w)) rfl rfl rfl ?_)
  all_goals (refine WL.stepR0 (okE_store (fun w => Tryz.sizeOf3 w) rfl rfl (by assumption) (Nat.le_of_ble_eq_true rfl) rfl rfl) rfl rfl ?_
             rintro _ h1 ⟨hb1, hx1⟩)
  all_goals (refine WQ.nil ?_)
  skip))
  all_goals (first | (fail_if_success refine goB 14 ?_) | (
  refine goB 14 ?_
  all_goals (refine WC.sr ?_)
  all_goals (refine Go ?_)
  all_goals (refine goC 15 16 ?_ ?_ <;> first | exact ⟨⟩ | refine Hb.mk fun hb => ?_ | skip)
  all_goals (first | (fail_if_success refine goB 15 ?_) | (
  refine goB 15 ?_
  all_goals (refine WC.region ?_)
  all_goals (refine Go ?_)
  all_goals (refine Ld ?_)
  all_goals (refine Go ?_)
  all_goals (refine WL.stepR0 (okE_store (fun w => Tryz.sizeOf9 w) rfl rfl (by assumption) (Nat.le_of_ble_eq_true rfl) rfl rfl) rfl rfl ?_
             rintro _ h1 ⟨hb1, hx1⟩)
  all_goals (refine Gn ?_)
  skip))
  all_goals (first | (fail_if_success refine goB 16 ?_) | (
  refine goB 16 ?_
  all_goals (refine WC.skip ?_)
  skip))
  skip))
  skip))
  skip))
  skip))
  all_goals (refine Gn ?_)
  all_goals (refine WC.sr ?_)
  all_goals (refine WL.step (ok_loadN (fun w => Tryz.isAgg34 w) (fun w => Tryz.sizeOf34 w) rfl rfl (by exact At.of_block hb4)) rfl rfl rfl ?_)
  all_goals (refine WL.stepR0 (okE_storeW (fun w => Tryz.sizeOf34 w) rfl rfl rfl hb2c rfl (by simp [Value.oneCell'])) rfl rfl ?_
             rintro _ h9 ⟨hb9, hx9⟩)
  all_goals (refine Gn ?_)
  all_goals (refine WC.ret ?_)
  all_goals (repeat' (with_reducible first | refine thenP_r ?_ | refine blockP_r ?_))
  all_goals (refine retP_1 _ ⟨⟨_, rfl, ld_blk (fun w => Tryz.isAgg34 w) (fun w => Tryz.sizeOf34 w) (by assumption) rfl⟩, trivial⟩ ?_)
  all_goals (exact ⟨rfl, hX4.trans' hx9 (fun q hq e => by have := hx1.size; omega)⟩)
set_option maxHeartbeats 2000000 in
set_option maxRecDepth 100000 in
theorem sameS {h : Heap} : CallsH Tryz.prog 96 ⟨[.agg ⟨syC⟩, .agg ⟨syC⟩]⟩ h fun u h' => u = .bool true ∧ Ext No h h' := by
  have eqn : ∀ {h : Heap} (A B : Option Addr) (c d : Nat), CallsH Tryz.prog 144 ⟨[.slice A 0 c, .slice B 0 d]⟩ h fun u h' => u = .bool true ∧ h' = h := fun A B c d => equal_int [] [] ⟨A, c, rfl, Nat.zero_le _, rfl, fun hn => absurd hn (by decide)⟩ ⟨B, d, rfl, Nat.zero_le _, rfl, fun hn => absurd hn (by decide)⟩ (by simp [maxLen])
  refine calls [(0, _), (1, _)] Tryz.func96 rfl Tryz.ntmps96 rfl ⟨rfl, rfl, trivial⟩ ?_
  all_goals (refine WC.sr ?_)
  all_goals (refine WL.stepR (okE_box rfl) rfl rfl rfl ?_
             rintro _ h1 ⟨b1, rfl, hg1, hb1, hx1⟩)
  all_goals (refine WL.stepR (okE_box rfl) rfl rfl rfl ?_
             rintro _ h2 ⟨b2, rfl, hg2, hb2, hx2⟩)
  all_goals (have hb1' := hx2.obj hb1 nos
             have hx := hx1.trans hx2)
  all_goals (refine Go ?_)
  all_goals (refine WC.sr ?_)
  all_goals (refine Go ?_)
  all_goals (refine Ld ?_)
  all_goals (refine Go ?_)
  all_goals (refine Ld ?_)
  all_goals (refine Go ?_)
  all_goals (refine Ld ?_)
  all_goals (refine WL.step (ok_buildF (vs := [_, _, _]) (cs := [_, _, _]) (fun | [a0, a1, a2] => [a0, a1, a2] | _ => []) rfl rfl (by kernel_rfl)) rfl rfl rfl ?_)
  all_goals (refine Go ?_)
  all_goals (refine Ld ?_)
  all_goals (refine Go ?_)
  all_goals (refine Ld ?_)
  all_goals (refine Go ?_)
  all_goals (refine Ld ?_)
  all_goals (refine WL.step (ok_buildF (vs := [_, _, _]) (cs := [_, _, _]) (fun | [a0, a1, a2] => [a0, a1, a2] | _ => []) rfl rfl (by kernel_rfl)) rfl rfl rfl ?_)
  all_goals (refine WL.step (OkP.bool_t rfl (ok_eqlA (us := [[], [], []]) (vs := [[], [], []]) Tryz.underlying220 (show Tryz.prog.info? 9 = some Tryz.t9 by kernel_rfl) Tryz.underlying9 (by kernel_rfl) (by kernel_rfl) (by kernel_rfl) rfl rfl rfl rfl)) rfl rfl rfl ?_)
  all_goals (refine Go ?_)
  all_goals (refine Gs [(2, _), (3, _), (5, _)] ?_)
  all_goals (refine WC.sr ?_)
  all_goals (refine Go ?_)
  all_goals (refine Ld ?_)
  all_goals (refine Go ?_)
  all_goals (refine Ld ?_)
  all_goals (refine WL.call (vs := [_, _]) rfl (fun a w => Tryz.call144 a w) rfl (eqn _ _ _ _) rfl rfl rfl ?_
             rintro _ hz ⟨rfl, _⟩
             subst hz)
  all_goals (refine Go ?_)
  all_goals (refine goP 27 ?_ ?_ <;> first | exact ⟨⟩ | refine Hb.mk fun hb => ?_ | skip)
  all_goals (refine Gg ?_)
  all_goals (first | (refine WL.pass rfl rfl rfl ?_) | (refine Ld ?_))
  all_goals (refine Gg ?_)
  all_goals (first | (refine WL.pass rfl rfl rfl ?_) | (refine Ld ?_))
  all_goals (first
               | (refine WL.pass rfl rfl rfl ?_)
               | (refine WL.call (vs := [_, _]) rfl (fun a w => Tryz.call144 a w) rfl (eqn _ _ _ _) rfl rfl rfl ?_
                  rintro _ hz ⟨rfl, _⟩
                  subst hz))
  all_goals (refine Go ?_)
  all_goals (refine goP 34 ?_ ?_ <;> first | exact ⟨⟩ | refine Hb.mk fun hb => ?_ | skip)
  all_goals (refine Gg ?_)
  all_goals (first | (refine WL.pass rfl rfl rfl ?_) | (refine Ld ?_))
  all_goals (refine Gg ?_)
  all_goals (first | (refine WL.pass rfl rfl rfl ?_) | (refine Ld ?_))
  all_goals (first
               | (refine WL.pass rfl rfl rfl ?_)
               | (refine WL.call (vs := [_, _]) rfl (fun a w => Tryz.call144 a w) rfl (eqn _ _ _ _) rfl rfl rfl ?_
                  rintro _ hz ⟨rfl, _⟩
                  subst hz))
  all_goals (refine Go ?_)
  all_goals (refine Gs [(2, _), (3, _), (5, _), (6, _)] ?_)
  all_goals (refine WC.sr ?_)
  all_goals (refine Go ?_)
  all_goals (refine Ld ?_)
  all_goals (refine Go ?_)
  all_goals (refine Ld ?_)
  all_goals (refine Go ?_)
  all_goals (refine goP 46 ?_ ?_ <;> first | exact ⟨⟩ | refine Hb.mk fun hb => ?_ | skip)
  all_goals (refine Gg ?_)
  all_goals (first | (refine WL.pass rfl rfl rfl ?_) | (refine Ld ?_))
  all_goals (refine Gg ?_)
  all_goals (first | (refine WL.pass rfl rfl rfl ?_) | (refine Ld ?_))
  all_goals (refine Gg ?_)
  all_goals (refine Go ?_)
  all_goals (refine goP 53 ?_ ?_ <;> first | exact ⟨⟩ | refine Hb.mk fun hb => ?_ | skip)
  all_goals (refine Gg ?_)
  all_goals (first | (refine WL.pass rfl rfl rfl ?_) | (refine Ld ?_))
  all_goals (refine Gg ?_)
  all_goals (first | (refine WL.pass rfl rfl rfl ?_) | (refine Ld ?_))
  all_goals (refine Gg ?_)
  all_goals (refine Go ?_)
  all_goals (refine goP 60 ?_ ?_ <;> first | exact ⟨⟩ | refine Hb.mk fun hb => ?_ | skip)
  all_goals (refine Gg ?_)
  all_goals (refine Go ?_)
  all_goals (refine goP 63 ?_ ?_ <;> first | exact ⟨⟩ | refine Hb.mk fun hb => ?_ | skip)
  all_goals (refine Gg ?_)
  all_goals (refine Go ?_)
  all_goals (refine goP 66 ?_ ?_ <;> first | exact ⟨⟩ | refine Hb.mk fun hb => ?_ | skip)
  all_goals (refine Gg ?_)
  all_goals (first | (refine WL.pass rfl rfl rfl ?_) | (refine Ld ?_))
  all_goals (refine Gg ?_)
  all_goals (first | (refine WL.pass rfl rfl rfl ?_) | (refine Ld ?_))
  all_goals (first
               | (refine WL.pass rfl rfl rfl ?_)
               | (refine WL.call (vs := [_, _, _]) rfl (fun a w => Tryz.call145 a w) rfl (alike_no _ _ _ _) rfl rfl rfl ?_
                  rintro _ hz ⟨rfl, _⟩
                  subst hz))
  all_goals (refine Go ?_)
  all_goals (refine Gs [(4, _)] ?_)
  all_goals (refine Gt ?_)
  all_goals (exact ⟨rfl, hx⟩)
set_option maxHeartbeats 2000000 in
set_option maxRecDepth 100000 in
theorem checkS {h : Heap} : CallsH Tryz.prog 58 ⟨[.agg ⟨syC⟩]⟩ h fun u h' => u = In 0 ∧ Ext No h h' := by
  have hkno : ∀ {h : Heap}, CallsH Tryz.prog 54 ⟨[.int .u8 83]⟩ h fun u h' => u = In 1 ∧ Ext No h h' := known_front 83
  have r0 : ∀ {h : Heap} (A : Option Addr) (c : Nat), Rd h (.slice A 0 c) 1 ([] : List Int).length (ints []) := fun A c => ⟨A, c, rfl, Nat.zero_le _, rfl, fun hn => absurd hn (by decide)⟩
  have hw3 := fun {h : Heap} => whatS (h := h)
  have ho3 := fun {h : Heap} => ofS (h := h)
  have hs3 := fun {h : Heap} => sameS (h := h)
  have wit : ∀ {h : Heap} (A : Option Addr) (c : Nat) (lo hi : Int), CallsH Tryz.prog 92 ⟨[.slice A 0 c, In lo, In hi]⟩ h fun u h' => u = .bool true ∧ Ext No h h' := fun A c lo hi => within_front [] lo hi (r0 A c) (by simp [maxLen])
  refine calls [(0, _)] Tryz.func58 rfl Tryz.ntmps58 rfl ⟨rfl, trivial⟩ ?_
  all_goals (refine WC.sr ?_)
  all_goals (refine WL.stepR (okE_box rfl) rfl rfl rfl ?_
             rintro _ h1 ⟨b1, rfl, hg1, hb1, hx1⟩)
  all_goals (refine Go ?_)
  all_goals (refine WC.seq ?_)
  all_goals (refine WC.sr ?_)
  all_goals (refine Go ?_)
  all_goals (refine Ld ?_)
  all_goals (refine WL.call (vs := [_]) rfl (fun a w => Tryz.call54 a w) rfl (hkno) rfl rfl rfl ?_
             rintro _ h2 ⟨rfl, hx2⟩)
  all_goals (have hb2 := hx2.obj hb1 nos)
  all_goals (refine Go ?_)
  all_goals (refine Gs [(1, _), (7, _)] ?_)
  all_goals (refine goC 1 2 ?_ ?_ <;> first | exact ⟨⟩ | refine Hb.mk fun hb => ?_ | skip)
  all_goals (first | (fail_if_success refine goB 1 ?_) | (
  refine goB 1 ?_
  all_goals (refine WC.sr ?_)
  all_goals (refine Go ?_)
  all_goals (refine Gt ?_)
  all_goals (exact ⟨rfl, ((hX6.trans hx7).trans hx9).trans hx10⟩)
  skip))
  all_goals (first | (fail_if_success refine goB 2 ?_) | (
  refine goB 2 ?_
  all_goals (refine WC.skip ?_)
  skip))
  all_goals (refine Gn ?_)
  all_goals (refine WC.sr ?_)
  all_goals (refine Go ?_)
  all_goals (refine Ld ?_)
  all_goals (refine WL.call (vs := [_, _, _]) rfl (fun a w => Tryz.call92 a w) rfl (wit _ _ _ _) rfl rfl rfl ?_
             rintro _ h3' ⟨rfl, hx3⟩)
  all_goals (have hb3 := hx3.obj hb2 nos)
  all_goals (refine Go ?_)
  all_goals (refine goP 11 ?_ ?_ <;> first | exact ⟨⟩ | refine Hb.mk fun hb => ?_ | skip)
  all_goals (refine Gg ?_)
  all_goals (first | (refine WL.pass rfl rfl rfl ?_) | (refine Ld ?_))
  all_goals (first
               | (refine WL.pass rfl rfl rfl ?_)
               | (refine WL.call (vs := [_, _, _]) rfl (fun a w => Tryz.call92 a w) rfl (wit _ _ _ _) rfl rfl rfl ?_
                  rintro _ h4 ⟨rfl, hx4⟩))
  all_goals (have hb4 := hx4.obj hb3 nos)
  all_goals (refine Go ?_)
  all_goals (refine goP 16 ?_ ?_ <;> first | exact ⟨⟩ | refine Hb.mk fun hb => ?_ | skip)
  all_goals (refine Gg ?_)
  all_goals (first | (refine WL.pass rfl rfl rfl ?_) | (refine Ld ?_))
  all_goals (first
               | (refine WL.pass rfl rfl rfl ?_)
               | (refine WL.call (vs := [_, _, _]) rfl (fun a w => Tryz.call92 a w) rfl (wit _ _ _ _) rfl rfl rfl ?_
                  rintro _ h5 ⟨rfl, hx5⟩))
  all_goals (have hb5 := hx5.obj hb4 nos)
  all_goals (refine Go ?_)
  all_goals (refine goP 21 ?_ ?_ <;> first | exact ⟨⟩ | refine Hb.mk fun hb => ?_ | skip)
  all_goals (refine Gg ?_)
  all_goals (first | (refine WL.pass rfl rfl rfl ?_) | (refine Ld ?_))
  all_goals (first
               | (refine WL.pass rfl rfl rfl ?_)
               | (refine WL.call (vs := [_]) rfl (fun a w => Tryz.call93 a w) rfl (cells_no _ _) rfl rfl rfl ?_
                  rintro _ hz ⟨rfl, _⟩
                  subst hz))
  all_goals (refine Go ?_)
  all_goals (refine Gs [(1, _), (3, _)] ?_)
  all_goals (refine WC.seq ?_)
  all_goals (refine WC.sr ?_)
  all_goals (refine WL.step (ok_loadN (fun w => Tryz.isAgg34 w) (fun w => Tryz.sizeOf34 w) rfl rfl (by exact At.of_block hb5)) rfl rfl rfl ?_)
  all_goals (refine WL.call (vs := [_]) rfl (fun a w => Tryz.call94 a w) rfl (hw3) rfl rfl rfl ?_
             rintro _ h6 ⟨rfl, hx6⟩)
  all_goals (have hb6 := hx6.obj hb5 nos
             have hX6 := ((((hx1.trans hx2).trans hx3).trans hx4).trans hx5).trans hx6)
  all_goals (refine Go ?_)
  all_goals (refine goP 29 ?_ ?_ <;> first | exact ⟨⟩ | refine Hb.mk fun hb => ?_ | skip)
  all_goals (refine Gg ?_)
  all_goals (refine Go ?_)
  all_goals (refine goP 33 ?_ ?_ <;> first | exact ⟨⟩ | refine Hb.mk fun hb => ?_ | skip)
  all_goals (refine Gg ?_)
  all_goals (first | (refine WL.pass rfl rfl rfl ?_) | (refine Ld ?_))
  all_goals (refine Gg ?_)
  all_goals (first | (refine WL.pass rfl rfl rfl ?_) | (refine Ld ?_))
  all_goals (refine Gg ?_)
  all_goals (first | (refine WL.pass rfl rfl rfl ?_) | (refine Ld ?_))
  all_goals (first
               | (refine WL.pass rfl rfl rfl ?_)
               | (refine WL.stepR (okE_buildSlice (vs := [_, _, _]) (cs := [_, _, _]) (fun | [a0, a1, a2] => [a0, a1, a2] | _ => []) Tryz.underlying217 rfl rfl (by kernel_rfl)) rfl rfl rfl ?_
                  rintro _ h7 ⟨b7, rfl, hg7, hb7, hx7⟩))
  all_goals (have hb8 := hx7.obj hb6 nos)
  all_goals (first
               | (refine WL.pass rfl rfl rfl ?_)
               | (refine WL.call (vs := [_]) rfl (fun a w => Tryz.call95 a w) rfl (clean_front [[], [], []] (rd_blk hb7 rfl) (by simp [maxLen])) rfl rfl rfl ?_
                  rintro _ hq ⟨rfl, hz⟩
                  replace hz := hz.symm
                  subst hz
                  rw [show ([[], [], []] : List (List UInt8)).all cleanB = true from rfl]))
  all_goals (refine Gg ?_)
  all_goals (refine Go ?_)
  all_goals (refine goP 44 ?_ ?_ <;> first | exact ⟨⟩ | refine Hb.mk fun hb => ?_ | skip)
  all_goals (refine Gg ?_)
  all_goals (first | (refine WL.pass rfl rfl rfl ?_) | (refine Ld ?_))
  all_goals (refine Gg ?_)
  all_goals (refine Go ?_)
  all_goals (refine goP 49 ?_ ?_ <;> first | exact ⟨⟩ | refine Hb.mk fun hb => ?_ | skip)
  all_goals (refine Gg ?_)
  all_goals (first | (refine WL.pass rfl rfl rfl ?_) | (refine Ld ?_))
  all_goals (refine Gg ?_)
  all_goals (refine Go ?_)
  all_goals (refine Gs [(1, _), (53, _)] ?_)
  all_goals (refine goC 3 4 ?_ ?_ <;> first | exact ⟨⟩ | refine Hb.mk fun hb => ?_ | skip)
  all_goals (first | (fail_if_success refine goB 3 ?_) | (
  refine goB 3 ?_
  all_goals (refine WC.sr ?_)
  all_goals (refine Go ?_)
  all_goals (refine Gt ?_)
  all_goals (exact ⟨rfl, ((hX6.trans hx7).trans hx9).trans hx10⟩)
  skip))
  all_goals (first | (fail_if_success refine goB 4 ?_) | (
  refine goB 4 ?_
  all_goals (refine WC.skip ?_)
  skip))
  all_goals (refine Gn ?_)
  all_goals (refine WC.seq ?_)
  all_goals (refine WC.seq ?_)
  all_goals (refine WC.drawH (fun h' => h'[b1]? = some (.cells ⟨syC⟩ 34 (0, 0))) 5 5 rfl fol ?_)
  all_goals (refine WH.tk 0 rfl (fun hq hC => ok_loadN (fun w => Tryz.isAgg34 w) (fun w => Tryz.sizeOf34 w) rfl rfl (by exact At.of_block hC)) rfl rfl rfl ?_ (hC := (by first | exact hb8 | exact hx9.obj hb8 nos | exact hx10.obj (hx9.obj hb8 nos) nos)))
  all_goals (refine WH.tk 1 rfl (fun hq hC => ok_loadN (fun w => Tryz.isAgg34 w) (fun w => Tryz.sizeOf34 w) rfl rfl (by exact At.of_block hC)) rfl rfl rfl ?_ (hC := (by first | exact hb8 | exact hx9.obj hb8 nos | exact hx10.obj (hx9.obj hb8 nos) nos)))
  all_goals (refine WH.one 2 (by kernel_rfl) ?_)
  all_goals (refine Comes1.call (vs := [_]) rfl rfl (fun a w => Tryz.call97 a w) rfl (ho3) rfl rfl rfl ?_ (fun _ => by kernel_rfl)
             rintro _ h9 ⟨rfl, hx9⟩)
  all_goals (refine ⟨fun _ => hx9.obj hb8 nos, ?_⟩)
  all_goals (refine WH.one 3 (by kernel_rfl) ?_)
  all_goals (refine Comes1.call (vs := [_, _]) rfl rfl (fun a w => Tryz.call96 a w) rfl (hs3) rfl rfl rfl ?_ (fun _ => by kernel_rfl)
             rintro _ h10 ⟨rfl, hx10⟩)
  all_goals (refine ⟨fun _ => hx10.obj (hx9.obj hb8 nos) nos, ?_⟩)
  all_goals (refine WH.tk 4 rfl (fun hq hC => ok_not rfl) rfl rfl rfl ?_ (hC := (by first | exact hb8 | exact hx9.obj hb8 nos | exact hx10.obj (hx9.obj hb8 nos) nos)))
  all_goals (refine WH.done (by kernel_rfl) ?_)
  all_goals (refine Gn ?_)
  all_goals (refine Gs [(58, _)] ?_)
  all_goals (refine goC 5 6 ?_ ?_ <;> first | exact ⟨⟩ | refine Hb.mk fun hb => ?_ | skip)
  all_goals (first | (fail_if_success refine goB 5 ?_) | (
  refine goB 5 ?_
  all_goals (refine WC.sr ?_)
  all_goals (refine Go ?_)
  all_goals (refine Gt ?_)
  all_goals (exact ⟨rfl, ((hX6.trans hx7).trans hx9).trans hx10⟩)
  skip))
  all_goals (first | (fail_if_success refine goB 6 ?_) | (
  refine goB 6 ?_
  all_goals (refine WC.skip ?_)
  skip))
  all_goals (refine Gn ?_)
  all_goals (refine WC.sr ?_)
  all_goals (refine Go ?_)
  all_goals (refine Gt ?_)
  all_goals (exact ⟨rfl, ((hX6.trans hx7).trans hx9).trans hx10⟩)
end Go.Proofs.YtdjjpbbhcidaaaaGreatDoor


/-
  CLIENTS (layer 12), by the code: a Sync is read.
-/
namespace Go.Proofs.YtdjjpbbhcidaaaaGreatDoor
open Go Go.RK

section
variable {h h' : Heap} {b : Nat} {v : Value}
set_option maxHeartbeats 2000000 in
set_option maxRecDepth 100000 in
theorem readS {h : Heap} {p : Value} (hp : ∃ a, p = .pointer a) : CallsH Tryz.prog 56 ⟨[.agg ⟨[p]⟩, .int .u8 83]⟩ h fun u h' => u = .agg ⟨syC⟩ ∧ Ext No h h' := by
  obtain ⟨a, rfl⟩ := hp
  refine calls [(0, _), (1, _)] Tryz.func56 rfl Tryz.ntmps56 rfl ⟨rfl, rfl, trivial⟩ ?_
  all_goals (refine WC.sr ?_)
  all_goals (refine WL.stepR (okE_box rfl) rfl rfl rfl ?_
             rintro _ h1 ⟨b1, rfl, hg1, hb1, hx1⟩)
  all_goals (refine WL.stepR (okE_alloc (fun w => Tryz.zeroValue34 w)) rfl rfl rfl ?_
             rintro _ h2 ⟨b2, rfl, hg2, hb2, hx2⟩)
  all_goals (refine Gn ?_)
  all_goals (refine WC.sr ?_)
  all_goals (refine Go ?_)
  all_goals (refine WL.step (ok_buildF (vs := [_]) (cs := [_, _, _, _, _, _, _, _, _, _]) (fun | [a0] => [a0, (.int .u8 0), (St []), (St []), (St []), (.slice none 0 0), (.slice none 0 0), (.slice none 0 0), (.slice none 0 0), (.int .i64 0)] | _ => []) rfl rfl (by kernel_rfl)) rfl rfl rfl ?_)
  all_goals (refine WL.stepR (okE_alloc (fun w => Tryz.zeroValue34 w)) rfl rfl rfl ?_
             rintro _ h3 ⟨b3, rfl, hg3, hb3, hx3⟩)
  all_goals (refine WL.stepR0 (okE_storeW (fun w => Tryz.sizeOf34 w) rfl rfl rfl hb3 rfl (by simp [Value.oneCell'])) rfl rfl ?_
             rintro _ h4 ⟨hb4, hx4⟩
             have hb24 := hx4.obj (hx3.obj hb2 nos) (fun e => by have := lt_of_some hb2; omega)
             have X4 : Ext No h h4 := ((hx1.trans hx2).trans hx3).trans' hx4 (fun q hq e => by have := hx1.size; have := hx2.size; omega))
  all_goals (refine Gn ?_)
  all_goals (refine WC.seq ?_)
  all_goals (refine WC.sr ?_)
  all_goals (refine Go ?_)
  all_goals (refine Gs [(2, _), (4, _), (5, _), (9, _)] ?_)
  all_goals (refine WC.block ?_)
  all_goals (refine WC.sr ?_)
  all_goals (refine Go ?_)
  all_goals (refine goC 1 2 ?_ ?_ <;> first | exact ⟨⟩ | refine Hb.mk fun hb => ?_ | skip)
  all_goals (first | (fail_if_success refine goB 2 ?_) | (
  refine goB 2 ?_
  all_goals (refine WC.sr ?_)
  all_goals (refine Go ?_)
  all_goals (refine goC 3 4 ?_ ?_ <;> first | exact ⟨⟩ | refine Hb.mk fun hb => ?_ | skip)
  all_goals (first | (fail_if_success refine goB 4 ?_) | (
  refine goB 4 ?_
  all_goals (refine WC.seq ?_)
  all_goals (refine WC.sr ?_)
  all_goals (refine Go ?_)
  all_goals (refine Gs [(2, _), (4, _), (5, _), (9, _), (42, _)] ?_)
  all_goals (refine goC 5 6 ?_ ?_ <;> first | exact ⟨⟩ | refine Hb.mk fun hb => ?_ | skip)
  all_goals (first | (fail_if_success refine goB 5 ?_) | (
  refine goB 5 ?_
  all_goals (refine WC.skip ?_)
  skip))
  all_goals (first | (fail_if_success refine goB 6 ?_) | (
  refine goB 6 ?_
  all_goals (refine WC.region ?_)
  all_goals (refine Go ?_)
  skip))
  all_goals (refine Gn ?_)
  all_goals (refine goC 7 8 ?_ ?_ <;> first | exact ⟨⟩ | refine Hb.mk fun hb => ?_ | skip)
  all_goals (first | (fail_if_success refine goB 8 ?_) | (
  refine goB 8 ?_
  all_goals (refine WC.sr ?_)
  all_goals (refine Go ?_)
  all_goals (refine goC 11 12 ?_ ?_ <;> first | exact ⟨⟩ | refine Hb.mk fun hb => ?_ | skip)
  all_goals (first | (fail_if_success refine goB 12 ?_) | (
  refine goB 12 ?_
  all_goals (refine WC.sr ?_)
  all_goals (refine Go ?_)
  all_goals (refine Gs [(2, _), (4, _), (5, _), (71, _)] ?_)
  all_goals (refine goC 13 14 ?_ ?_ <;> first | exact ⟨⟩ | refine Hb.mk fun hb => ?_ | skip)
  all_goals (first | (fail_if_success refine goB 14 ?_) | (
  refine goB 14 ?_
  all_goals (refine WC.skip ?_)
  skip))
  skip))
  skip))
  skip))
  skip))
  all_goals (refine Gn ?_)
  all_goals (refine WC.sr ?_)
  all_goals (refine WL.step (ok_loadN (fun w => Tryz.isAgg34 w) (fun w => Tryz.sizeOf34 w) rfl rfl (by exact At.of_block hb4)) rfl rfl rfl ?_)
  all_goals (refine WL.stepR0 (okE_storeW (fun w => Tryz.sizeOf34 w) rfl rfl rfl hb24 rfl (by simp [Value.oneCell'])) rfl rfl ?_
             rintro _ h5 ⟨hb5, hx5⟩)
  all_goals (refine Gn ?_)
  all_goals (refine WC.ret ?_)
  all_goals (repeat' (with_reducible first | refine thenP_r ?_ | refine blockP_r ?_))
  all_goals (refine retP_1 _ ⟨⟨_, rfl, ld_blk (fun w => Tryz.isAgg34 w) (fun w => Tryz.sizeOf34 w) (by assumption) rfl⟩, trivial⟩ ?_)
  all_goals (exact ⟨rfl, X4.trans' hx5 (fun q hq e => by have := hx1.size; omega)⟩)
set_option maxHeartbeats 2000000 in
set_option maxRecDepth 100000 in
theorem decodeS {h : Heap} {w : Value} (hr : Rd h w 1 0 (bys [])) : CallsH Tryz.prog 26 ⟨[.agg ⟨[.int .u8 83, w]⟩]⟩ h fun u h' => u = .tuple ⟨[.agg ⟨syC⟩, In 0]⟩ ∧ Ext No h h' := by
  have hkno : ∀ {h : Heap}, CallsH Tryz.prog 54 ⟨[.int .u8 83]⟩ h fun u h' => u = In 1 ∧ Ext No h h' := known_front 83
  have kc := fun h' => checkS (h := h')
  have kd := fun (h' : Heap) (b : Nat) (v : Value) (k : Sc h' b v []) => sc_done k
  have kn := fun (h' : Heap) (x : Ext No h h') => scan_new [] (hr.ext0 x) (by decide)
  have km := fun (h' : Heap) (a : Option Addr) => readS (h := h') (p := .pointer a) ⟨a, rfl⟩
  obtain ⟨A, c, rfl, _⟩ := id hr
  refine calls [(0, _)] Tryz.func26 rfl Tryz.ntmps26 rfl ⟨rfl, trivial⟩ ?_
  all_goals (refine WC.sr ?_)
  all_goals (refine WL.stepR (okE_box rfl) rfl rfl rfl ?_
             rintro _ h1 ⟨b1, rfl, hg1, hb1, hx1⟩)
  all_goals (refine WL.stepR (okE_alloc (fun w => Tryz.zeroValue34 w)) rfl rfl rfl ?_
             rintro _ h2 ⟨b2, rfl, hg2, hb2, hx2⟩
             have hb12 := hx2.obj hb1 nos
             have X2 := hx1.trans hx2)
  all_goals (refine Go ?_)
  all_goals (refine WC.seq ?_)
  all_goals (refine WC.sr ?_)
  all_goals (refine Go ?_)
  all_goals (refine WL.ld rfl (by first | exact cell_blk hb12 rfl | assumption | exact cell_blk (by assumption) rfl) rfl rfl rfl ?_)
  all_goals (refine WL.call (vs := [_]) rfl (fun a w => Tryz.call54 a w) rfl (hkno) rfl rfl rfl ?_
             rintro _ h3 ⟨rfl, hx3⟩
             have X3 := X2.trans hx3
             have hb13 := hx3.obj hb12 nos)
  all_goals (refine Gn ?_)
  all_goals (refine Gs [(1, _), (2, _), (8, _)] ?_)
  all_goals (refine WC.block ?_)
  all_goals (refine WC.sr ?_)
  all_goals (refine Go ?_)
  all_goals (refine goC 1 2 ?_ ?_ <;> first | exact ⟨⟩ | refine Hb.mk fun hb => ?_ | skip)
  all_goals (first | (fail_if_success refine goB 1 ?_) | (
  refine goB 1 ?_
  all_goals (refine WC.sr ?_)
  all_goals (refine WL.step (ok_buildF (vs := []) (cs := [_, _, _, _, _, _, _, _, _, _]) (fun | [] => [(.int .u8 0), (.int .u8 0), (St []), (St []), (St []), (.slice none 0 0), (.slice none 0 0), (.slice none 0 0), (.slice none 0 0), (.int .i64 0)] | _ => []) rfl rfl (by kernel_rfl)) rfl rfl rfl ?_)
  all_goals (refine WL.stepR0 (okE_storeW (fun w => Tryz.sizeOf34 w) rfl rfl rfl (by assumption) rfl (by simp [Value.oneCell'])) rfl rfl ?_
             rintro _ h1 ⟨hb1, hx1⟩)
  all_goals (refine Go ?_)
  all_goals (refine Gs [(2, _), (3, _)] ?_)
  all_goals (refine WC.ret ?_)
  all_goals (repeat' (with_reducible first | refine thenP_r ?_ | refine blockP_r ?_))
  all_goals (refine retP_2 _ _ ⟨⟨_, rfl, ld_blk (fun w => Tryz.isAgg34 w) (fun w => Tryz.sizeOf34 w) (by assumption) rfl⟩, rfl, trivial⟩ ?_)
  all_goals (exact ⟨rfl, (X9.trans hx10).trans' hx11 (fun q hq e => by have := hx1.size; omega)⟩)
  skip))
  all_goals (first | (fail_if_success refine goB 2 ?_) | (
  refine goB 2 ?_
  all_goals (refine WC.sr ?_)
  all_goals (refine Go ?_)
  all_goals (refine Gs [(1, _), (2, _), (12, _)] ?_)
  all_goals (refine goC 3 4 ?_ ?_ <;> first | exact ⟨⟩ | refine Hb.mk fun hb => ?_ | skip)
  all_goals (first | (fail_if_success refine goB 3 ?_) | (
  refine goB 3 ?_
  all_goals (refine WC.sr ?_)
  all_goals (refine WL.step (ok_buildF (vs := []) (cs := [_, _, _, _, _, _, _, _, _, _]) (fun | [] => [(.int .u8 0), (.int .u8 0), (St []), (St []), (St []), (.slice none 0 0), (.slice none 0 0), (.slice none 0 0), (.slice none 0 0), (.int .i64 0)] | _ => []) rfl rfl (by kernel_rfl)) rfl rfl rfl ?_)
  all_goals (refine WL.stepR0 (okE_storeW (fun w => Tryz.sizeOf34 w) rfl rfl rfl (by assumption) rfl (by simp [Value.oneCell'])) rfl rfl ?_
             rintro _ h1 ⟨hb1, hx1⟩)
  all_goals (refine Go ?_)
  all_goals (refine WC.ret ?_)
  all_goals (repeat' (with_reducible first | refine thenP_r ?_ | refine blockP_r ?_))
  all_goals (refine retP_2 _ _ ⟨⟨_, rfl, ld_blk (fun w => Tryz.isAgg34 w) (fun w => Tryz.sizeOf34 w) (by assumption) rfl⟩, rfl, trivial⟩ ?_)
  all_goals (exact ⟨rfl, (X9.trans hx10).trans' hx11 (fun q hq e => by have := hx1.size; omega)⟩)
  skip))
  all_goals (first | (fail_if_success refine goB 4 ?_) | (
  refine goB 4 ?_
  all_goals (refine WC.skip ?_)
  skip))
  skip))
  all_goals (refine Gn ?_)
  all_goals (refine WC.sr ?_)
  all_goals (refine Go ?_)
  all_goals (refine WL.ld rfl (by first | exact cell_blk hb13 rfl | assumption | exact cell_blk (by assumption) rfl) rfl rfl rfl ?_)
  all_goals (refine WL.call (vs := [_]) rfl (fun a w => Tryz.call55 a w) rfl (kn _ X3) rfl rfl rfl ?_
             rintro _ h4 ⟨sb, sv, rfl, ks4, hx4, hgs, hfs⟩)
  all_goals (refine WL.step (ok_buildF (vs := [_]) (cs := [_]) (fun | [a0] => [a0] | _ => []) rfl rfl (by kernel_rfl)) rfl rfl rfl ?_)
  all_goals (refine WL.stepR (okE_alloc (fun w => Tryz.zeroValue100 w)) rfl rfl rfl ?_
             rintro _ h5 ⟨b4, rfl, hg5, hb5, hx5⟩)
  all_goals (refine WL.stepR0 (okE_storeW (fun w => Tryz.sizeOf100 w) rfl rfl rfl hb5 rfl (by simp [Value.oneCell'])) rfl rfl ?_
             rintro _ h6 ⟨hb56, hx6⟩
             have Y6 : Ext No h3 h6 := (hx4.trans hx5).trans' hx6 (fun q hq e => by have := hx4.size; omega)
             have X6 := X3.trans Y6
             have hb16 := Y6.obj hb13 nos
             have hb26 := Y6.obj (hx3.obj hb2 nos) nos
             have Z6 : Ext No h4 h6 := hx5.trans' hx6 (fun q hq e => by omega)
             have ks6 : Sc h6 sb sv [] := ks4.ext Z6 nos (fun _ _ => nos))
  all_goals (refine Gn ?_)
  all_goals (refine Gs [(1, _), (2, _), (4, _)] ?_)
  all_goals (refine WC.sr ?_)
  all_goals (refine WL.step (ok_loadN (fun w => Tryz.isAgg100 w) (fun w => Tryz.sizeOf100 w) rfl rfl (by exact At.of_block hb56)) rfl rfl rfl ?_)
  all_goals (refine Go ?_)
  all_goals (refine WL.ld rfl (by first | exact cell_blk hb16 rfl | assumption | exact cell_blk (by assumption) rfl) rfl rfl rfl ?_)
  all_goals (refine WL.call (vs := [_, _]) rfl (fun a w => Tryz.call56 a w) rfl (km _ _) rfl rfl rfl ?_
             rintro _ h7 ⟨rfl, hx7⟩)
  all_goals (refine WL.stepR (okE_alloc (fun w => Tryz.zeroValue34 w)) rfl rfl rfl ?_
             rintro _ h8 ⟨b5, rfl, hg8, hb8, hx8⟩)
  all_goals (refine WL.stepR0 (okE_storeW (fun w => Tryz.sizeOf34 w) rfl rfl rfl hb8 rfl (by simp [Value.oneCell'])) rfl rfl ?_
             rintro _ h9 ⟨hb89, hx9⟩
             have Y9 : Ext No h6 h9 := (hx7.trans hx8).trans' hx9 (fun q hq e => by have := hx7.size; omega)
             have X9 := X6.trans Y9
             have hb59 := Y9.obj hb56 nos
             have hb29 := Y9.obj hb26 nos
             have ks9 := ks6.ext Y9 nos (fun _ _ => nos))
  all_goals (refine Gn ?_)
  all_goals (refine Gs [(2, _), (4, _), (5, _)] ?_)
  all_goals (refine WC.seq ?_)
  all_goals (refine WC.sr ?_)
  all_goals (refine Go ?_)
  all_goals (refine WL.ld rfl (by first | exact cell_blk hb59 rfl | assumption | exact cell_blk (by assumption) rfl) rfl rfl rfl ?_)
  all_goals (refine WL.call (vs := [_]) rfl (fun a w => Tryz.call57 a w) rfl (kd _ _ _ ks9) rfl rfl rfl ?_
             rintro _ hq ⟨rfl, hz⟩
             replace hz := hz.symm
             subst hz)
  all_goals (refine Go ?_)
  all_goals (refine goP 27 ?_ ?_ <;> first | exact ⟨⟩ | refine Hb.mk fun hb => ?_ | skip)
  all_goals (first | (refine WL.pass rfl rfl rfl ?_) | (refine WL.step (ok_loadN (fun w => Tryz.isAgg34 w) (fun w => Tryz.sizeOf34 w) rfl rfl (by exact At.of_block hb89)) rfl rfl rfl ?_))
  all_goals (first
               | (refine WL.pass rfl rfl rfl ?_)
               | (refine WL.call (vs := [_]) rfl (fun a w => Tryz.call58 a w) rfl (kc _) rfl rfl rfl ?_
                  rintro _ h10 ⟨rfl, hx10⟩
                  have hb8A := hx10.obj hb89 nos
                  have hb2A := hx10.obj hb29 nos))
  all_goals (refine Gg ?_)
  all_goals (refine Go ?_)
  all_goals (refine Gs [(2, _), (5, _), (31, _)] ?_)
  all_goals (refine goC 5 6 ?_ ?_ <;> first | exact ⟨⟩ | refine Hb.mk fun hb => ?_ | skip)
  all_goals (first | (fail_if_success refine goB 5 ?_) | (
  refine goB 5 ?_
  all_goals (refine WC.sr ?_)
  all_goals (refine WL.step (ok_buildF (vs := []) (cs := [_, _, _, _, _, _, _, _, _, _]) (fun | [] => [(.int .u8 0), (.int .u8 0), (St []), (St []), (St []), (.slice none 0 0), (.slice none 0 0), (.slice none 0 0), (.slice none 0 0), (.int .i64 0)] | _ => []) rfl rfl (by kernel_rfl)) rfl rfl rfl ?_)
  all_goals (refine WL.stepR0 (okE_storeW (fun w => Tryz.sizeOf34 w) rfl rfl rfl (by assumption) rfl (by simp [Value.oneCell'])) rfl rfl ?_
             rintro _ h1 ⟨hb1, hx1⟩)
  all_goals (refine Go ?_)
  all_goals (refine WC.ret ?_)
  all_goals (repeat' (with_reducible first | refine thenP_r ?_ | refine blockP_r ?_))
  all_goals (refine retP_2 _ _ ⟨⟨_, rfl, ld_blk (fun w => Tryz.isAgg34 w) (fun w => Tryz.sizeOf34 w) (by assumption) rfl⟩, rfl, trivial⟩ ?_)
  all_goals (exact ⟨rfl, (X9.trans hx10).trans' hx11 (fun q hq e => by have := hx1.size; omega)⟩)
  skip))
  all_goals (first | (fail_if_success refine goB 6 ?_) | (
  refine goB 6 ?_
  all_goals (refine WC.skip ?_)
  skip))
  all_goals (refine Gn ?_)
  all_goals (refine WC.sr ?_)
  all_goals (refine WL.step (ok_loadN (fun w => Tryz.isAgg34 w) (fun w => Tryz.sizeOf34 w) rfl rfl (by exact At.of_block hb8A)) rfl rfl rfl ?_)
  all_goals (refine WL.stepR0 (okE_storeW (fun w => Tryz.sizeOf34 w) rfl rfl rfl hb2A rfl (by simp [Value.oneCell'])) rfl rfl ?_
             rintro _ h11 ⟨hb11, hx11⟩)
  all_goals (refine Go ?_)
  all_goals (refine WC.ret ?_)
  all_goals (repeat' (with_reducible first | refine thenP_r ?_ | refine blockP_r ?_))
  all_goals (refine retP_2 _ _ ⟨⟨_, rfl, ld_blk (fun w => Tryz.isAgg34 w) (fun w => Tryz.sizeOf34 w) (by assumption) rfl⟩, rfl, trivial⟩ ?_)
  all_goals (exact ⟨rfl, (X9.trans hx10).trans' hx11 (fun q hq e => by have := hx1.size; omega)⟩)
end
end Go.Proofs.YtdjjpbbhcidaaaaGreatDoor


