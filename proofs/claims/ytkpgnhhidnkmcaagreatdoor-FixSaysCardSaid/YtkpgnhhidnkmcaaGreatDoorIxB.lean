/-
  BYTES LOOKED FOR; clean texts; numbers within bounds: packages bytes, strings, digits, front, back.
-/
import Derived.Test.YtkpgnhhidnkmcaaGreatDoorShelf
import Derived.Test.YtkpgnhhidnkmcaaGreatDoorDel
import Derived.Test.YtkpgnhhidnkmcaaGreatDoorK16
import Derived.Lib.IndexAny
import Derived.Lib.IndexLaws
namespace Go.Proofs.YtkpgnhhidnkmcaaGreatDoor
open Go Go.RK

theorem ixb_nat (c : UInt8) : ((c.toNat : Int)).toNat.toUInt8 = c := by simp
theorem indexByte_str {h : Heap} (s : List UInt8) (c : UInt8) :
    CallsH Tryz.prog 125 ⟨[St s, By c]⟩ h fun u h' => u = In (Lib.indexByte s c) ∧ h' = h := fun w hw =>
  (Tryz.strings_IndexByte ⟨⟨s⟩⟩ c.toNat w).mono fun e w' ⟨he, hb⟩ => ⟨⟨by rw [hb], by rw [hb], by rw [hb], trivial⟩, _, he, by rw [ixb_nat], by rw [hb, hw]⟩
theorem indexByte_bys {h : Heap} {v : Value} (l : List UInt8) (c : UInt8) (hr : Rd h v 1 l.length (bys l)) (h0 : 0 < l.length) :
    CallsH Tryz.prog 124 ⟨[v, By c]⟩ h fun u h' => u = In (Lib.indexByte l c) ∧ h' = h := by
  obtain ⟨A, cap, rfl, _⟩ := id hr
  obtain ⟨b, o, rfl, _, hat⟩ := Rd.at_ hr h0
  intro w hw
  subst hw
  have e : Lib.bytesOf (l.map fun x : UInt8 => (x.toNat : Int)) = l := by
    unfold Lib.bytesOf
    rw [List.map_map]
    conv => rhs; rw [← List.map_id l]
    exact List.map_congr_left fun x _ => ixb_nat x
  refine (Tryz.bytes_IndexByte b o l.length cap (l.map fun x : UInt8 => (x.toNat : Int)) c.toNat w (by simp) fun i hi => ?_).mono fun e' w' ⟨he, hb⟩ => ⟨⟨by rw [hb], by rw [hb], by rw [hb], trivial⟩, _, he, by rw [ixb_nat, e], by rw [hb]⟩
  rw [cell_eq]
  have := hat i (By l[i]) (by simp [hi])
  rw [this]
  simp [List.getD, hi]
def cleanB (s : List UInt8) : Bool := !s.contains 0
set_option maxRecDepth 100000 in
theorem clean_any {h : Heap} (s : List UInt8) : CallsH Tryz.prog 96 ⟨[St s]⟩ h fun u h' => u = .bool (cleanB s) ∧ h' = h := by
  refine calls [(0, _)] Tryz.func96 rfl Tryz.ntmps96 rfl ⟨rfl, trivial⟩ ?_
  all_goals (refine WC.seq ?_)
  all_goals (refine WC.region ?_)
  all_goals (refine WL.step (ok_assign rfl) rfl rfl rfl ?_)
  all_goals (refine WL.nil ?_)
  all_goals (repeat' (with_reducible first | refine thenP_n ?_ | refine blockP_n ?_))
  all_goals (refine WC.seq ?_)
  all_goals (refine WC.region ?_)
  all_goals (refine WL.step (ok_move rfl) rfl rfl rfl ?_)
  all_goals (refine WL.call (vs := [_, _]) rfl (fun a w => Tryz.call125 a w) rfl (indexByte_str s 0) rfl rfl rfl ?_
             rintro _ hz ⟨rfl, _⟩
             subst hz)
  all_goals (refine WL.step (ok_lss rfl rfl) rfl rfl rfl ?_)
  all_goals (refine WL.step (ok_assign rfl) rfl rfl rfl ?_)
  all_goals (refine WL.nil ?_)
  all_goals (repeat' (with_reducible first | refine thenP_n ?_ | refine blockP_n ?_))
  all_goals (refine WC.sub [(2, _)] ⟨rfl, trivial⟩ ?_)
  all_goals (refine WC.ret ?_)
  all_goals (repeat' (with_reducible first | refine thenP_r ?_ | refine blockP_r ?_))
  all_goals (refine retP_1 _ ⟨rfl, trivial⟩ ?_)
  all_goals (exact ⟨by unfold cleanB; rw [Lib.contains_iff_indexByte]; exact congrArg Value.bool (by rw [← decide_not]; exact decide_eq_decide.2 (by omega)), rfl⟩)
set_option maxRecDepth 100000 in
theorem containsF_int {h : Heap} {A : Option Addr} {c : Nat} (l : List Int) (p : Int → Bool) {fk : Nat} {fs us : List Value} (hcf : ∀ (args : Array Value) (w : World), (callFunc fk args).run Tryz.prog w = .ok (.enter fk args) w) (hr : Rd h (.slice A l.length c) 1 l.length (ints l)) (hm : l.length ≤ maxLen)
    (hp : ∀ x ∈ l, CallsH Tryz.prog fk ⟨fs ++ [In x] ++ us⟩ h fun u h' => u = .bool (p x) ∧ h' = h) :
    CallsH Tryz.prog 130 ⟨[.slice A l.length c, .func (.func fk) ⟨fs⟩ ⟨us⟩]⟩ h fun u h' => u = .bool (l.any p) ∧ h' = h := by
  refine calls [(0, _), (1, _)] Tryz.func130 rfl Tryz.ntmps130 rfl ⟨rfl, rfl, trivial⟩ ?_
  all_goals (refine WC.seq ?_)
  all_goals (refine WC.region ?_)
  all_goals (refine WL.step (ok_assign rfl) rfl rfl rfl ?_)
  all_goals (refine WL.nil ?_)
  all_goals (repeat' (with_reducible first | refine thenP_n ?_ | refine blockP_n ?_))
  all_goals (refine WC.seq ?_)
  all_goals (refine WC.region ?_)
  all_goals (refine WL.step (ok_move rfl) rfl rfl rfl ?_)
  all_goals (refine WL.step (ok_move rfl) rfl rfl rfl ?_)
  all_goals (refine WL.call (vs := [_, _]) rfl (fun a w => Tryz.call143 a w) rfl (indexFunc_int l p hcf hr hm hp) rfl rfl rfl ?_
             rintro _ hz ⟨rfl, _⟩
             subst hz)
  all_goals (refine WL.step (ok_geq rfl rfl) rfl rfl rfl ?_)
  all_goals (refine WL.step (ok_assign rfl) rfl rfl rfl ?_)
  all_goals (refine WL.nil ?_)
  all_goals (repeat' (with_reducible first | refine thenP_n ?_ | refine blockP_n ?_))
  all_goals (refine WC.sub [(4, _)] ⟨rfl, trivial⟩ ?_)
  all_goals (refine WC.ret ?_)
  all_goals (repeat' (with_reducible first | refine thenP_r ?_ | refine blockP_r ?_))
  all_goals (refine retP_1 _ ⟨rfl, trivial⟩ ?_)
  all_goals (exact ⟨by rw [idxP_geq], rfl⟩)
def withinB (l : List Int) (lo hi : Int) : Bool := decide (l.length ≤ 65535) && !l.any fun n => decide (n < lo) || decide (hi < n)
def knownI (k : UInt8) : Int := if ([66, 67, 68, 69, 72, 80, 81, 83, 88] : List UInt8).contains k then 1 else if ([70, 99, 100, 102, 112] : List UInt8).contains k then 2 else 0
end Go.Proofs.YtkpgnhhidnkmcaaGreatDoor

