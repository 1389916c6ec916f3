/-
  SEVERAL TEXTS IN ONE: Num, Key, Mpk, Rg, Rg2, Rg3, K23, R14, Rg5, R14d, R14e, R14f, R14g, RwR, RwJ, RwJ2.
-/
import Derived.Test.YtggmocdbfbhklaaGreatPRewriteDoes2
import Derived.RangeFuncRecord
import Derived.RangeFuncLeaves
/-
  NUMBERS AS BYTES (layer 1): package num's Put, and the document's.
-/
namespace Go.Proofs.YtggmocdbfbhklaaGreat
open Go Go.RK

/-- Byte i (the last is 0) of a number. -/
def bI (n : Int) (i : Nat) : UInt8 := UInt8.ofNat ((n / 256 ^ i) % 256).toNat
/-- The first k of a number's s bytes. -/
def beK (n : Int) (s : Nat) : Nat → List UInt8
  | 0 => []
  | k + 1 => beK n s k ++ [bI n (s - 1 - k)]
def be (n : Int) (s : Nat) : List UInt8 := beK n s s
theorem beK_len (n : Int) (s k : Nat) : (beK n s k).length = k := by
  induction k with
  | zero => rfl
  | succ k ih => simp [beK, ih]
theorem be_len (n : Int) (s : Nat) : (be n s).length = s := beK_len n s s
theorem bI_val (n : Int) (i : Nat) : ((bI n i).toNat : Int) = (n / 256 ^ i) % 256 := by
  unfold bI
  have h1 : 0 ≤ (n / 256 ^ i) % 256 := Int.emod_nonneg _ (by decide)
  have h2 : (n / 256 ^ i) % 256 < 256 := Int.emod_lt_of_pos _ (by decide)
  have h3 : (UInt8.ofNat ((n / 256 ^ i) % 256).toNat).toNat = ((n / 256 ^ i) % 256).toNat := by simp; omega
  rw [h3, Int.toNat_of_nonneg h1]
/-- Of one size: 1, 2 or 4. -/
def Sz (s : Nat) : Prop := s = 1 ∨ s = 2 ∨ s = 4
def Rt (n : Int) (s : Nat) : Prop := -(256 ^ s / 2) ≤ n ∧ n < 256 ^ s
theorem By_bI {n x : Int} {i : Nat} (h : x % 256 = (n / 256 ^ i) % 256) : (.int .u8 (IntKind.u8.wrap x) : Value) = By (bI n i) := by
  unfold By
  rw [bI_val, ← h]
  congr 1
set_option maxHeartbeats 2000000 in
set_option maxRecDepth 100000 in
theorem sized_v {h : Heap} (s : Nat) (hs : Sz s) : CallsH Tryz.prog 130 ⟨[In s]⟩ h fun u h' => u = .bool true ∧ h' = h := by
  rcases hs with rfl | rfl | rfl
  all_goals
    refine calls [(0, _)] Tryz.func130 rfl Tryz.ntmps130 rfl ⟨rfl, trivial⟩ ?_
    all_goals (refine WC.sr ?_; refine Go ?_; refine WC.seq ?_; refine WC.sr ?_; refine Go ?_; refine WC.block ?_; refine WC.seq ?_; refine WC.sr ?_; refine Go ?_; refine goC 1 2 ?_ TT.mk)
    all_goals (first | (fail_if_success refine goB 1 ?_) | (
    refine goB 1 ?_
    all_goals (refine WC.skip ?_)
    skip))
    all_goals (first | (fail_if_success refine goB 2 ?_) | (
    refine goB 2 ?_
    all_goals (refine WC.sr ?_; refine Go ?_; refine Gs [(3, _), (4, _)] ?_; refine goC 3 4 ?_ TT.mk)
    all_goals (first | (fail_if_success refine goB 3 ?_) | (
    refine goB 3 ?_
    all_goals (refine WC.skip ?_)
    skip))
    all_goals (first | (fail_if_success refine goB 4 ?_) | (
    refine goB 4 ?_
    all_goals (refine WC.region ?_; refine Go ?_)
    skip))
    skip))
    all_goals (refine Gn ?_; refine goC 5 6 ?_ TT.mk; refine goB 5 ?_; refine WC.sr ?_; refine Go ?_; refine Gt ?_; exact ⟨rfl, rfl⟩)
set_option maxHeartbeats 2000000 in
set_option maxRecDepth 100000 in
theorem span_v {h : Heap} (s : Nat) (hs : Sz s) : CallsH Tryz.prog 131 ⟨[In s]⟩ h fun u h' => u = In (256 ^ s) ∧ h' = h := by
  rcases hs with rfl | rfl | rfl
  all_goals
    refine calls [(0, _)] Tryz.func131 rfl Tryz.ntmps131 rfl ⟨rfl, trivial⟩ ?_
    all_goals (refine WC.sr ?_; refine Go ?_; refine WC.sr ?_; refine Go ?_; refine WL.step (ok_mulI rfl rfl (by omega)) rfl rfl rfl ?_; refine WL.step (ok_shl rfl rfl (by decide) (by decide)) rfl rfl rfl ?_; refine Go ?_; refine Gs [(2, _)] ?_; refine Gt ?_; exact ⟨rfl, rfl⟩)
theorem pow_sz {s : Nat} (hs : Sz s) : (256 : Int) ^ s = 256 ∨ (256 : Int) ^ s = 65536 ∨ (256 : Int) ^ s = 4294967296 := by
  rcases hs with rfl | rfl | rfl
  · exact .inl rfl
  · exact .inr (.inl rfl)
  · exact .inr (.inr rfl)
set_option maxHeartbeats 2000000 in
set_option maxRecDepth 100000 in
theorem right_v {h : Heap} (n : Int) (s : Nat) (hs : Sz s) (hr : Rt n s) : CallsH Tryz.prog 109 ⟨[In n, In s]⟩ h fun u h' => u = .bool true ∧ h' = h := by
  obtain ⟨r1, r2⟩ := hr
  have ks := span_v (h := h) s hs
  have hq := pow_sz hs
  generalize (256 : Int) ^ s = q at r1 r2 ks hq
  rcases hq with rfl | rfl | rfl
  all_goals
    refine calls [(0, _), (1, _)] Tryz.func109 rfl Tryz.ntmps109 rfl ⟨rfl, rfl, trivial⟩ ?_
    all_goals (refine WC.sr ?_; refine Go ?_; refine WC.seq ?_; refine WC.sr ?_; refine Go ?_; refine WL.call (vs := [_]) rfl (fun a w => Tryz.call130 a w) rfl (sized_v s hs) rfl rfl rfl ?_; rintro _ hz ⟨rfl, _⟩; subst hz; refine Go ?_; refine goC 1 2 ?_ TT.mk; refine goB 2 ?_; refine WC.skip ?_; refine Gn ?_; refine Gs [(0, _), (1, _)] ?_; refine WC.sr ?_; refine Go ?_; refine WL.call (vs := [_]) rfl (fun a w => Tryz.call131 a w) rfl (ks) rfl rfl rfl ?_; rintro _ hz ⟨rfl, _⟩; subst hz; refine WL.step (ok_negI rfl (by omega)) rfl rfl rfl ?_; refine WL.step (ok_quoI rfl rfl (by decide) (tdiv_in (by omega) (by decide))) rfl rfl rfl ?_; first | rw [show (-256 : Int).tdiv 2 = -128 from rfl] | rw [show (-65536 : Int).tdiv 2 = -32768 from rfl] | rw [show (-4294967296 : Int).tdiv 2 = -2147483648 from rfl])
    all_goals (refine Go ?_; refine goP 14 ?_ TT.mk; refine Gg ?_; refine WL.call (vs := [_]) rfl (fun a w => Tryz.call131 a w) rfl (ks) rfl rfl rfl ?_; rintro _ hz ⟨rfl, _⟩; subst hz; refine Gg ?_; refine Go ?_; refine Gs [(4, _)] ?_; refine Gt ?_; exact ⟨rfl, rfl⟩)
set_option maxHeartbeats 2000000 in
set_option maxRecDepth 100000 in
theorem right01 {h : Heap} (n : Int) (s : Nat) (hs : Sz s) (hr : Rt n s) (kp : CallsH Tryz.prog 111 ⟨[In s]⟩ h fun u h' => u = In (256 ^ s) ∧ h' = h) (kz : CallsH Tryz.prog 132 ⟨[In s]⟩ h fun u h' => u = .bool true ∧ h' = h) :
    CallsH Tryz.prog 110 ⟨[In n, In s]⟩ h fun u h' => u = .bool true ∧ h' = h := by
  obtain ⟨r1, r2⟩ := hr
  have hq := pow_sz hs
  generalize (256 : Int) ^ s = q at r1 r2 kp hq
  rcases hq with rfl | rfl | rfl
  all_goals
    refine calls [(0, _), (1, _)] Tryz.func110 rfl Tryz.ntmps110 rfl ⟨rfl, rfl, trivial⟩ ?_
    all_goals (refine WC.sr ?_; refine Go ?_; refine WC.sr ?_; refine Go ?_; refine WL.call (vs := [_]) rfl (fun a w => Tryz.call132 a w) rfl (kz) rfl rfl rfl ?_; rintro _ hz ⟨rfl, _⟩; subst hz; refine Go ?_; refine goP 7 ?_ TT.mk; refine Gg ?_; refine WL.call (vs := [_]) rfl (fun a w => Tryz.call111 a w) rfl (kp) rfl rfl rfl ?_; rintro _ hz ⟨rfl, _⟩; subst hz; refine WL.step (ok_negI rfl (by omega)) rfl rfl rfl ?_; refine WL.step (ok_quoI rfl rfl (by decide) (tdiv_in (by omega) (by decide))) rfl rfl rfl ?_; first | rw [show (-256 : Int).tdiv 2 = -128 from rfl] | rw [show (-65536 : Int).tdiv 2 = -32768 from rfl] | rw [show (-4294967296 : Int).tdiv 2 = -2147483648 from rfl])
    all_goals (refine Gg ?_; refine Go ?_; refine goP 15 ?_ TT.mk; refine Gg ?_; refine WL.call (vs := [_]) rfl (fun a w => Tryz.call111 a w) rfl (kp) rfl rfl rfl ?_; rintro _ hz ⟨rfl, _⟩; subst hz; refine Gg ?_; refine Go ?_; refine Gs [(4, _)] ?_; refine Gt ?_; exact ⟨rfl, rfl⟩)
set_option maxHeartbeats 2000000 in
set_option maxRecDepth 100000 in
theorem sized01 {h : Heap} (s : Nat) (hs : Sz s) : CallsH Tryz.prog 132 ⟨[In s]⟩ h fun u h' => u = .bool true ∧ h' = h := by
  rcases hs with rfl | rfl | rfl
  all_goals
    refine calls [(0, _)] Tryz.func132 rfl Tryz.ntmps132 rfl ⟨rfl, trivial⟩ ?_
    all_goals (refine WC.sr ?_; refine Go ?_; refine WC.sr ?_; refine Go ?_; refine goP 5 ?_ TT.mk; refine Gg ?_; refine Go ?_; refine goP 9 ?_ TT.mk; refine Gg ?_; refine Go ?_; refine Gs [(2, _)] ?_; refine Gt ?_; exact ⟨rfl, rfl⟩)
theorem pow_le {k : Nat} (h : k ≤ 3) : 1 ≤ (256 : Int) ^ k ∧ (256 : Int) ^ k ≤ 16777216 := by
  have : k = 0 ∨ k = 1 ∨ k = 2 ∨ k = 3 := by omega
  rcases this with rfl | rfl | rfl | rfl <;> decide
set_option maxHeartbeats 2000000 in
set_option maxRecDepth 100000 in
theorem pow_v {h : Heap} (s : Nat) (hs : s ≤ 4) : CallsH Tryz.prog 111 ⟨[In s]⟩ h fun u h' => u = In (256 ^ s) ∧ h' = h := by
  refine calls [(0, _)] Tryz.func111 rfl Tryz.ntmps111 rfl ⟨rfl, trivial⟩ ?_
  all_goals (refine WC.sr ?_; refine Go ?_; refine WC.sr ?_; refine Go ?_; refine WC.seq ?_; refine WC.sr ?_; refine Go ?_; refine WC.block ?_)
  -- loop 0: slots that turn [3, 4], that stay [0]
  all_goals (refine WC.loopG (X := Nat × Int) (fun x => ([(3, In x.2), (4, In (x.1 : Int))] : Fr)) [(0, _)] (fun x h' => h' = h ∧ x.1 ≤ s ∧ x.2 = 256 ^ x.1) (fun x => s - x.1) ((0, 1)) ⟨rfl, rfl, rfl, trivial⟩ (by exact ⟨rfl, Nat.zero_le _, rfl⟩) ?_)
  all_goals (rintro ⟨k, p⟩ h9 ⟨hz, hk, hp⟩
             dsimp only at hk hp
             subst h9)
  all_goals (refine WC.sub [(3, _), (4, _), (0, _)] ⟨rfl, rfl, rfl, trivial⟩ ?_; dsimp only)
  all_goals (refine WC.seq ?_; refine WC.sr ?_; refine Go ?_; refine goC 1 2 (Hb.mk fun hb => ?_) (Hb.mk fun hb => ?_))
  all_goals (first | (fail_if_success refine goB 1 ?_) | (
  refine goB 1 ?_
  all_goals (refine WC.skip ?_)
  skip))
  all_goals (first | (fail_if_success refine goB 2 ?_) | (
  refine goB 2 ?_
  all_goals (refine WC.exit ?_; repeat' (with_reducible first | refine thenP_x ?_ | refine blockP_miss rfl ?_ | refine blockP_hit ?_ | refine blockP_n ?_ | refine thenP_n ?_))
  all_goals (refine Br.out (i := 1000) ?_)
  skip))
  all_goals (refine Gn ?_; first | (refine Br.keep ?_) | (refine WC.seq ?_))
  all_goals (first | (refine Br.keep ?_) | (refine WC.block ?_))
  all_goals (first | (refine Br.keep ?_) | (refine WC.region ?_))
  all_goals (first
               | (refine Br.keep ?_)
               | (have hpl := pow_le (show k ≤ 3 by omega)
                  rw [← hp] at hpl))
  all_goals (first | (refine Br.keep ?_) | (refine WL.step (ok_move rfl) rfl rfl rfl ?_))
  all_goals (first | (refine Br.keep ?_) | (refine WL.step (ok_mulI rfl rfl (by omega)) rfl rfl rfl ?_))
  all_goals (refine Go ?_; first | (refine Br.keep ?_) | (refine Gs [(0, _), (3, _), (4, _)] ?_))
  all_goals (first | (refine Br.keep ?_) | (refine WC.region ?_))
  all_goals (refine Go ?_; first | (refine Br.keep ?_) | (exact ⟨(k + 1, _), ⟨rfl, rfl, rfl, trivial⟩, (by exact ⟨rfl, by omega, by rw [hp]; rfl⟩), (by simp; omega)⟩))
  all_goals (try (refine Br.mk (i := 1000) ?_))
  all_goals (refine Gn ?_; refine Gs [(3, _)] ?_; refine WC.sr ?_; refine Go ?_; refine Gt ?_; exact ⟨by rw [hp, show k = s by omega], rfl⟩)
/-! ### Put -/
theorem shr_byte {n : Int} {k : Nat} {b : Int} (hb : b = 8 * (k : Int)) : n / 2 ^ b.toNat = n / 256 ^ k := by
  have h1 : b.toNat = 8 * k := by omega
  rw [h1, show (2 : Int) ^ (8 * k) = 256 ^ k by rw [Int.pow_mul]; rfl]
set_option maxHeartbeats 2000000 in
set_option maxRecDepth 100000 in
theorem put_v {h : Heap} {v : Value} (l : List UInt8) (n : Int) (s : Nat) (hs : Sz s) (hr : Rt n s) (hv : Rd h v 1 l.length (bys l)) (hl : l.length ≤ 100000000000000) :
    CallsH Tryz.prog 78 ⟨[v, In n, In s]⟩ h fun u h' => Own h' u 5 1 (l ++ be n s).length (bys (l ++ be n s)) ∧ Ext No h h' ∧ ∀ q, u.ownBlock = some q → h.size ≤ q := by
  obtain ⟨A, c, rfl, hc⟩ := id hv
  have hs4 : s ≤ 4 := by unfold Sz at hs; omega
  have hs1 : 1 ≤ s := by unfold Sz at hs; omega
  refine calls [(0, _), (1, _), (2, _)] Tryz.func78 rfl Tryz.ntmps78 rfl ⟨rfl, rfl, rfl, trivial⟩ ?_
  all_goals (refine WC.sr ?_; refine Go ?_; refine WC.sr ?_; refine WL.stepR (okE_buildSlice (vs := []) (cs := []) (fun _ => []) Tryz.underlying42 rfl rfl (by kernel_rfl)) rfl rfl rfl ?_; rintro _ h1 ⟨b1, rfl, hg1, hb1, hx1⟩; refine Go ?_; refine WL.stepR (ok_append (sz := 1) (bytes := 1) rfl Tryz.underlying42 (show Tryz.prog.info? 5 = some Tryz.t5 by kernel_rfl) rfl rfl rfl rfl (by decide) rfl rfl (own_blk hb1 rfl (by decide)) (hv.ext0 hx1) (by intro c hc; obtain ⟨b, _, rfl⟩ := List.mem_map.1 hc; rfl) (by simp only [maxLen]; omega) (by omega)) rfl rfl rfl ?_; rintro v2 h2 ⟨ho2, hx2, hl2⟩; have hf2 : ∀ q, v2.ownBlock = some q → h.size ≤ q := fresh_of hl2 (by simp [Value.ownBlock]; omega) hx1.size; have hX2 : Ext No h h2 := hx1.trans' hx2 (fun q hq e => by simp [Value.ownBlock] at e; omega); refine Go ?_; refine Gs [(1, _), (2, _), (7, _)] ?_; refine WC.seq ?_; refine WC.sr ?_; refine Go ?_; refine WL.call (vs := [_, _]) rfl (fun a w => Tryz.call109 a w) rfl (right_v n s hs hr) rfl rfl rfl ?_; rintro _ hz ⟨rfl, _⟩; subst hz; refine Go ?_; refine goC 1 2 ?_ TT.mk; refine goB 2 ?_; refine WC.skip ?_; refine Gn ?_; refine Gs [(1, _), (2, _), (7, _)] ?_; refine WC.seq ?_; refine WC.sr ?_; refine Go ?_; refine WL.step (ok_mulI rfl rfl (by omega)) rfl rfl rfl ?_; refine Go ?_; refine Gs [(1, _), (7, _), (8, _)] ?_; refine WC.block ?_)
  -- loop 0: slots that turn [7, 8], that stay [1]
  all_goals (refine WC.loopG (X := Value × Int × Nat) (fun x => ([(7, x.1), (8, In x.2.1)] : Fr)) [(1, _)] (fun x h' => x.2.2 ≤ s ∧ x.2.1 = 8 * ((s : Int) - 1 - x.2.2) ∧ Own h' x.1 5 1 (l ++ beK n s x.2.2).length (bys (l ++ beK n s x.2.2)) ∧ Ext No h h' ∧ ∀ q, x.1.ownBlock = some q → h.size ≤ q) (fun x => s - x.2.2) ((v2, _, 0)) ⟨rfl, rfl, rfl, trivial⟩ (by exact ⟨Nat.zero_le _, by simp, by simpa [beK] using ho2, hX2, hf2⟩) ?_)
  all_goals (rintro ⟨w, sh, k⟩ h3 ⟨hk, hsh, ho3, hx3, hf3⟩
             dsimp only at hk hsh ho3 hf3
             have hbl := beK_len n s k
             have hlen3 : (l ++ beK n s k).length = l.length + k := by rw [List.length_append, hbl])
  all_goals (refine WC.sub [(7, _), (8, _), (1, _)] ⟨rfl, rfl, rfl, trivial⟩ ?_; dsimp only)
  all_goals (refine WC.seq ?_; refine WC.sr ?_; refine Go ?_; refine goC 3 4 (Hb.mk fun hb => ?_) (Hb.mk fun hb => ?_))
  all_goals (first | (fail_if_success refine goB 3 ?_) | (
  refine goB 3 ?_
  all_goals (refine WC.skip ?_)
  skip))
  all_goals (first | (fail_if_success refine goB 4 ?_) | (
  refine goB 4 ?_
  all_goals (refine WC.exit ?_; repeat' (with_reducible first | refine thenP_x ?_ | refine blockP_miss rfl ?_ | refine blockP_hit ?_ | refine blockP_n ?_ | refine thenP_n ?_))
  all_goals (refine Br.out (i := 1000) ?_)
  skip))
  all_goals (refine Gn ?_; first | (refine Br.keep ?_) | (refine WC.seq ?_))
  all_goals (first | (refine Br.keep ?_) | (refine WC.block ?_))
  all_goals (first | (refine Br.keep ?_) | (refine WC.region ?_))
  all_goals (refine Go ?_; first | (refine Br.keep ?_) | (refine WL.step (ok_shr rfl rfl (by omega)) rfl rfl rfl ?_))
  all_goals (first | (refine Br.keep ?_) | (refine WL.step (ok_conv Tryz.underlying3 Tryz.underlying5 rfl) rfl rfl rfl ?_))
  all_goals (first
               | (refine Br.keep ?_)
               | (refine WL.stepR (okE_buildSlice (vs := [_]) (cs := [_]) (fun | [a0] => [a0] | _ => []) Tryz.underlying42 rfl rfl (by kernel_rfl)) rfl rfl rfl ?_
                  rintro _ h4 ⟨b4, rfl, hg4, hb4, hx4⟩))
  all_goals (first
               | (refine Br.keep ?_)
               | (refine WL.stepR (ok_append (sz := 1) (bytes := 1) rfl Tryz.underlying42 (show Tryz.prog.info? 5 = some Tryz.t5 by kernel_rfl) rfl rfl rfl rfl (by decide) rfl rfl (ho3.ext hx4 (fun _ _ => nos)) (rd_blk hb4 rfl) (by simp [Value.oneCell']) (by simp only [maxLen]; omega) (by omega)) rfl rfl rfl ?_
                  rintro v5 h5 ⟨ho5, hx5, hl5⟩))
  all_goals (first
               | (refine Br.keep ?_)
               | (have hsb : n / 2 ^ sh.toNat = n / 256 ^ (s - 1 - k) := shr_byte (by omega)
                  rw [hsb, By_bI rfl] at ho5
                  have hO : Own h5 v5 5 1 (l ++ beK n s (k + 1)).length (bys (l ++ beK n s (k + 1))) := by have e : l ++ beK n s (k + 1) = (l ++ beK n s k) ++ [bI n (s - 1 - k)] := (by simp [beK]); rw [e, bys, List.map_append, List.length_append]; exact ho5))
  all_goals (refine Go ?_; first | (refine Br.keep ?_) | (refine Gs [(1, _), (7, _), (8, _)] ?_))
  all_goals (first | (refine Br.keep ?_) | (refine WC.region ?_))
  all_goals (refine Go ?_; first | (refine Br.keep ?_) | (exact ⟨(_, _, k + 1), ⟨rfl, rfl, rfl, trivial⟩, (by exact ⟨by dsimp only; omega, by dsimp only; omega, hO, (hx3.trans hx4).trans' hx5 (fun q hq e => by have := hf3 q e; omega), fresh_of hl5 hf3 (by have := hx3.size; have := hx4.size; omega)⟩), (by simp; omega)⟩))
  all_goals (try (refine Br.mk (i := 1000) ?_))
  all_goals (refine Gn ?_; refine Gs [(7, _)] ?_; refine WC.sr ?_; refine Go ?_; refine Gt ?_; (obtain rfl : k = s := by omega); exact ⟨ho3, hx3, hf3⟩)
theorem bI_up {n : Int} {s i : Nat} (h : i < s) : bI (n + 256 ^ s) i = bI n i := by
  have h1 : (n + 256 ^ s) / 256 ^ i = n / 256 ^ i + 256 ^ (s - i) := by
    rw [show (256 : Int) ^ s = 256 ^ i * 256 ^ (s - i) by rw [← Int.pow_add, show i + (s - i) = s by omega]]
    rw [Int.add_mul_ediv_left _ _ (by have : (0 : Int) < 256 ^ i := Int.pow_pos (by decide); omega)]
  obtain ⟨j, hj⟩ : ∃ j, s - i = j + 1 := ⟨s - i - 1, by omega⟩
  have h2 : (256 : Int) ^ (s - i) = 256 ^ j * 256 := by rw [hj, Int.pow_succ]
  unfold bI
  rw [h1, h2, Int.add_mul_emod_self_right]
theorem beK_congr {m n : Int} {s : Nat} (h : ∀ i, i < s → bI m i = bI n i) (hs : 1 ≤ s) : ∀ k, beK m s k = beK n s k
  | 0 => rfl
  | k + 1 => by rw [beK, beK, beK_congr h hs k, h _ (by omega)]
theorem td_in {m p : Int} (h : 0 ≤ m ∧ m ≤ 4294967296) (hp : 1 ≤ p) : m.tdiv p = m / p ∧ 0 ≤ m / p ∧ m / p ≤ 4294967296 := by
  refine ⟨Int.tdiv_eq_ediv_of_nonneg h.1, Int.ediv_nonneg h.1 (by omega), ?_⟩
  have := Int.ediv_le_self p h.1
  omega
set_option maxHeartbeats 2000000 in
set_option maxRecDepth 100000 in
theorem put01 {h : Heap} {v : Value} (l : List UInt8) (n : Int) (s : Nat) (hs : Sz s) (hr : Rt n s) (hv : Rd h v 1 l.length (bys l)) (hl : l.length ≤ 100000000000000) :
    CallsH Tryz.prog 80 ⟨[v, In n, In s]⟩ h fun u h' => Own h' u 5 1 (l ++ be n s).length (bys (l ++ be n s)) ∧ Ext No h h' ∧ ∀ q, u.ownBlock = some q → h.size ≤ q := by
  obtain ⟨A, c, rfl, hc⟩ := id hv
  have hs4 : s ≤ 4 := by unfold Sz at hs; omega
  have hs1 : 1 ≤ s := by unfold Sz at hs; omega
  have hq := pow_sz hs
  obtain ⟨r1, r2⟩ := id hr
  have kp := fun h' => pow_v (h := h') s (by omega)
  have kr := fun h' => right01 (h := h') n s hs hr (kp h') (sized01 s hs)
  obtain ⟨m, hm0, hm1, hmb⟩ : ∃ m : Int, (if n < 0 then n + 256 ^ s else n) = m ∧ (0 ≤ m ∧ m ≤ 4294967296) ∧ ∀ i, i < s → bI m i = bI n i := by
    refine ⟨_, rfl, ?_, fun i hi => ?_⟩
    · generalize (256 : Int) ^ s = q at r1 r2 hq
      split <;> rcases hq with rfl | rfl | rfl <;> omega
    · split
      · exact bI_up hi
      · rfl
  rw [show be n s = be m s from (beK_congr hmb hs1 s).symm]
  generalize hqq : (256 : Int) ^ s = q at r1 r2 kp hq hm0
  refine calls [(0, _), (1, _), (2, _)] Tryz.func80 rfl Tryz.ntmps80 rfl ⟨rfl, rfl, rfl, trivial⟩ ?_
  all_goals (refine WC.sr ?_; refine Go ?_; refine WC.sr ?_; refine Go ?_; refine WL.stepR (ok_append (sz := 1) (bytes := 1) rfl Tryz.underlying42 (show Tryz.prog.info? 5 = some Tryz.t5 by kernel_rfl) rfl rfl rfl rfl (by decide) rfl rfl (Own.nil _ _ _) hv (by intro c hc; obtain ⟨b, _, rfl⟩ := List.mem_map.1 hc; rfl) (by simp only [maxLen]; omega) (by omega)) rfl rfl rfl ?_; rintro v2 h2 ⟨ho2, hx2, hl2⟩; have hf2 : ∀ q, v2.ownBlock = some q → h.size ≤ q := fresh_of hl2 (by simp [Value.ownBlock]) (Nat.le_refl _); have hX2 : Ext No h h2 := hx2.mono (fun q hq e => by simp [Value.ownBlock] at e); refine Go ?_; refine Gs [(1, _), (2, _), (7, _)] ?_; refine WC.seq ?_; refine WC.sr ?_; refine Go ?_; refine WL.call (vs := [_, _]) rfl (fun a w => Tryz.call110 a w) rfl (kr _) rfl rfl rfl ?_; rintro _ hz ⟨rfl, _⟩; subst hz; refine Go ?_; refine goC 1 2 ?_ TT.mk; refine goB 2 ?_; refine WC.skip ?_; refine Gn ?_; refine Gs [(1, _), (2, _), (7, _)] ?_; refine WC.seq ?_; refine WC.sr ?_; refine Go ?_; refine goC 3 4 (Hb.mk fun hb => ?_) (Hb.mk fun hb => ?_))
  all_goals (first | (fail_if_success refine goB 3 ?_) | (
  refine goB 3 ?_
  all_goals (refine WC.region ?_; refine Go ?_; refine WL.call (vs := [_]) rfl (fun a w => Tryz.call111 a w) rfl (kp _) rfl rfl rfl ?_; rintro _ hz ⟨rfl, _⟩; subst hz; refine Go ?_)
  skip))
  all_goals (first | (fail_if_success refine goB 4 ?_) | (
  refine goB 4 ?_
  all_goals (refine WC.skip ?_)
  skip))
  all_goals (refine Gn ?_; refine WC.seq ?_; refine WC.sr ?_)
  all_goals (first | rw [if_pos (by assumption)] at hm0 | rw [if_neg (by assumption)] at hm0
             rw [hm0])
  all_goals (refine WL.step (ok_move rfl) rfl rfl rfl ?_; refine Go ?_; refine Gs [(1, _), (7, _), (8, _)] ?_; refine WC.block ?_)
  -- loop 0: slots that turn [7, 8], that stay [1]
  all_goals (refine WC.loopG (X := Value × Int × Nat) (fun x => ([(7, x.1), (8, In x.2.1)] : Fr)) [(1, _)] (fun x h' => x.2.2 ≤ s ∧ x.2.1 = (s : Int) - 1 - x.2.2 ∧ Own h' x.1 5 1 (l ++ beK m s x.2.2).length (bys (l ++ beK m s x.2.2)) ∧ Ext No h h' ∧ ∀ q, x.1.ownBlock = some q → h.size ≤ q) (fun x => s - x.2.2) ((v2, _, 0)) ⟨rfl, rfl, rfl, trivial⟩ (by exact ⟨Nat.zero_le _, by simp, by simpa [beK] using ho2, hX2, hf2⟩) ?_)
  all_goals (rintro ⟨w, sh, k⟩ h3 ⟨hk, hsh, ho3, hx3, hf3⟩
             dsimp only at hk hsh ho3 hf3
             have hbl := beK_len m s k
             have hlen3 : (l ++ beK m s k).length = l.length + k := by rw [List.length_append, hbl])
  all_goals (refine WC.sub [(7, _), (8, _), (1, _)] ⟨rfl, rfl, rfl, trivial⟩ ?_; dsimp only)
  all_goals (refine WC.seq ?_; refine WC.sr ?_; refine Go ?_; refine goC 5 6 (Hb.mk fun hb => ?_) (Hb.mk fun hb => ?_))
  all_goals (first | (fail_if_success refine goB 5 ?_) | (
  refine goB 5 ?_
  all_goals (refine WC.skip ?_)
  skip))
  all_goals (first | (fail_if_success refine goB 6 ?_) | (
  refine goB 6 ?_
  all_goals (refine WC.exit ?_; repeat' (with_reducible first | refine thenP_x ?_ | refine blockP_miss rfl ?_ | refine blockP_hit ?_ | refine blockP_n ?_ | refine thenP_n ?_))
  all_goals (refine Br.out (i := 1000) ?_)
  skip))
  all_goals (refine Gn ?_; first | (refine Br.keep ?_) | (refine WC.seq ?_))
  all_goals (first | (refine Br.keep ?_) | (refine WC.block ?_))
  all_goals (first | (refine Br.keep ?_) | (refine WC.region ?_))
  all_goals (first
               | (refine Br.keep ?_)
               | (obtain ⟨j, rfl⟩ : ∃ j : Nat, sh = (j : Int) := ⟨sh.toNat, by omega⟩
                  have hpj := pow_le (show j ≤ 3 by omega)
                  have htd := td_in hm1 hpj.1))
  all_goals (first | (refine Br.keep ?_) | (refine WL.step (ok_move rfl) rfl rfl rfl ?_))
  all_goals (refine Go ?_)
  all_goals (first
               | (refine Br.keep ?_)
               | (refine WL.call (vs := [_]) rfl (fun a w => Tryz.call111 a w) rfl (pow_v j (by omega)) rfl rfl rfl ?_
                  rintro _ hz ⟨rfl, _⟩
                  subst hz))
  all_goals (first | (refine Br.keep ?_) | (refine WL.step (ok_quoI rfl rfl (by omega) (⟨by rw [htd.1]; omega, by rw [htd.1]; omega⟩)) rfl rfl rfl ?_))
  all_goals (first | (refine Br.keep ?_) | (refine WL.step (ok_rem rfl rfl (by decide)) rfl rfl rfl ?_))
  all_goals (first | (refine Br.keep ?_) | (refine WL.step (ok_conv Tryz.underlying3 Tryz.underlying5 rfl) rfl rfl rfl ?_))
  all_goals (first
               | (refine Br.keep ?_)
               | (refine WL.stepR (okE_buildSlice (vs := [_]) (cs := [_]) (fun | [a0] => [a0] | _ => []) Tryz.underlying42 rfl rfl (by kernel_rfl)) rfl rfl rfl ?_
                  rintro _ h4 ⟨b4, rfl, hg4, hb4, hx4⟩))
  all_goals (first
               | (refine Br.keep ?_)
               | (refine WL.stepR (ok_append (sz := 1) (bytes := 1) rfl Tryz.underlying42 (show Tryz.prog.info? 5 = some Tryz.t5 by kernel_rfl) rfl rfl rfl rfl (by decide) rfl rfl (ho3.ext hx4 (fun _ _ => nos)) (rd_blk hb4 rfl) (by simp [Value.oneCell']) (by simp only [maxLen]; omega) (by omega)) rfl rfl rfl ?_
                  rintro v5 h5 ⟨ho5, hx5, hl5⟩))
  all_goals (first
               | (refine Br.keep ?_)
               | (have hsb : ((m.tdiv (256 ^ j)).tmod 256) % 256 = (m / 256 ^ (s - 1 - k)) % 256 := by rw [htd.1, Int.tmod_eq_emod_of_nonneg htd.2.1, Int.emod_emod, show j = s - 1 - k by omega]
                  rw [By_bI hsb] at ho5
                  have hO : Own h5 v5 5 1 (l ++ beK m s (k + 1)).length (bys (l ++ beK m s (k + 1))) := by have e : l ++ beK m s (k + 1) = (l ++ beK m s k) ++ [bI m (s - 1 - k)] := (by simp [beK]); rw [e, bys, List.map_append, List.length_append]; exact ho5))
  all_goals (refine Go ?_; first | (refine Br.keep ?_) | (refine Gs [(1, _), (7, _), (8, _)] ?_))
  all_goals (first | (refine Br.keep ?_) | (refine WC.region ?_))
  all_goals (refine Go ?_; first | (refine Br.keep ?_) | (exact ⟨(_, _, k + 1), ⟨rfl, rfl, rfl, trivial⟩, (by exact ⟨by dsimp only; omega, by dsimp only; omega, hO, (hx3.trans hx4).trans' hx5 (fun q hq e => by have := hf3 q e; omega), fresh_of hl5 hf3 (by have := hx3.size; have := hx4.size; omega)⟩), (by simp; omega)⟩))
  all_goals (try (refine Br.mk (i := 1000) ?_))
  all_goals (refine Gn ?_; refine Gs [(7, _)] ?_; refine WC.sr ?_; refine Go ?_; refine Gt ?_; (obtain rfl : k = s := by omega); exact ⟨ho3, hx3, hf3⟩)
end Go.Proofs.YtggmocdbfbhklaaGreat


/-
  KEYS OF STATEMENTS (layer 12): package key's Of, and the document's.
-/
namespace Go.Proofs.YtggmocdbfbhklaaGreat
open Go Go.RK

def wrongI (n : Int) : Bool := decide (n < 0) || decide (4294967295 < n)
def fairS (t : List UInt8) (l : List Int) : Bool := decide (t.length ≤ 1048576) && decide (l.length ≤ 65535) && !l.any wrongI
/-- A statement's key. -/
def keyB (t : List UInt8) (l : List Int) : List UInt8 := be t.length 4 ++ t ++ l.flatMap fun n => be n 4
def keyS_ (t : List UInt8) (l : List Int) : List UInt8 := if fairS t l = true then keyB t l else []
theorem fairS_yes {t : List UInt8} {l : List Int} (h : fairS t l = true) : t.length ≤ 1048576 ∧ l.length ≤ 65535 ∧ ∀ n ∈ l, 0 ≤ n ∧ n ≤ 4294967295 := by
  simp only [fairS, Bool.and_eq_true, decide_eq_true_eq, Bool.not_eq_true', List.any_eq_false, wrongI, Bool.or_eq_true, not_or, Int.not_lt] at h
  exact ⟨h.1.1, h.1.2, fun n hn => ⟨(h.2 n hn).1, (h.2 n hn).2⟩⟩
theorem rt4 {n : Int} (h : 0 ≤ n ∧ n ≤ 4294967295) : Rt n 4 := by
  unfold Rt
  rw [show (256 : Int) ^ 4 = 4294967296 from rfl]
  omega
theorem be4_inj {a b : Int} (ha : 0 ≤ a ∧ a ≤ 4294967295) (hb : 0 ≤ b ∧ b ≤ 4294967295) (e : be a 4 = be b 4) : a = b := by
  have h0 : be a 4 = [bI a 3, bI a 2, bI a 1, bI a 0] := rfl
  have h1 : be b 4 = [bI b 3, bI b 2, bI b 1, bI b 0] := rfl
  rw [h0, h1] at e
  simp only [List.cons.injEq, and_true] at e
  obtain ⟨e3, e2, e1, e0⟩ := e
  have k := fun i (h : bI a i = bI b i) => (bI_val a i).symm.trans ((congrArg (fun x : UInt8 => (x.toNat : Int)) h).trans (bI_val b i))
  have k3 := k 3 e3
  have k2 := k 2 e2
  have k1 := k 1 e1
  have k0 := k 0 e0
  rw [show (256 : Int) ^ 3 = 16777216 from rfl] at k3
  rw [show (256 : Int) ^ 2 = 65536 from rfl] at k2
  rw [show (256 : Int) ^ 1 = 256 from rfl] at k1
  rw [show (256 : Int) ^ 0 = 1 from rfl] at k0
  omega
theorem flat4_inj : ∀ {l m : List Int}, (∀ n ∈ l, 0 ≤ n ∧ n ≤ 4294967295) → (∀ n ∈ m, 0 ≤ n ∧ n ≤ 4294967295) → (l.flatMap fun n => be n 4) = (m.flatMap fun n => be n 4) → l = m
  | [], [], _, _, _ => rfl
  | [], b :: m, _, _, e => by have := congrArg List.length e; simp [be_len] at this; omega
  | a :: l, [], _, _, e => by have := congrArg List.length e; simp [be_len] at this
  | a :: l, b :: m, hl, hm, e => by
    rw [List.flatMap_cons, List.flatMap_cons] at e
    obtain ⟨e1, e2⟩ := List.append_inj e (by rw [be_len, be_len])
    rw [be4_inj (hl a (by simp)) (hm b (by simp)) e1, flat4_inj (fun n hn => hl n (by simp [hn])) (fun n hn => hm n (by simp [hn])) e2]
theorem keyB_inj {t u : List UInt8} {l m : List Int} (h1 : fairS t l = true) (h2 : fairS u m = true) (e : keyB t l = keyB u m) : t = u ∧ l = m := by
  obtain ⟨a1, a2, a3⟩ := fairS_yes h1
  obtain ⟨b1, b2, b3⟩ := fairS_yes h2
  unfold keyB at e
  rw [List.append_assoc, List.append_assoc] at e
  obtain ⟨e1, e2⟩ := List.append_inj e (by rw [be_len, be_len])
  have hl : t.length = u.length := by have := be4_inj (by omega) (by omega) e1; omega
  obtain ⟨e3, e4⟩ := List.append_inj e2 hl
  exact ⟨e3, flat4_inj a3 b3 e4⟩
theorem keyB_ne (t : List UInt8) (l : List Int) : keyB t l ≠ [] := fun e => by
  have := congrArg List.length e
  simp [keyB, be_len] at this
theorem keyS_fair {t : List UInt8} {l : List Int} : keyS_ t l ≠ [] ↔ fairS t l = true := by
  unfold keyS_
  split
  · rename_i h
    exact ⟨fun _ => h, fun _ => keyB_ne t l⟩
  · rename_i h
    exact ⟨fun e => absurd rfl e, fun e => absurd e h⟩
/-- Two statements that have keys have one key just if they are one. -/
theorem keyS_inj {t u : List UInt8} {l m : List Int} (h : fairS t l = true) : keyS_ u m = keyS_ t l ↔ u = t ∧ m = l := by
  constructor
  · intro e
    have hk : keyS_ u m ≠ [] := by rw [e]; exact keyS_fair.2 h
    have h2 := keyS_fair.1 hk
    unfold keyS_ at e
    rw [if_pos h, if_pos h2] at e
    exact keyB_inj h2 h e
  · rintro ⟨rfl, rfl⟩; rfl
theorem keyB_len {t : List UInt8} {l : List Int} : (keyB t l).length = 4 + t.length + 4 * l.length := by
  unfold keyB
  rw [List.length_append, List.length_append, be_len, List.length_flatMap]
  simp only [be_len]
  rw [List.map_const', List.sum_replicate_nat]
  omega
/-- A key up to its k-th number. -/
def keyP (t : List UInt8) (l : List Int) (k : Nat) : List UInt8 := be t.length 4 ++ t ++ (l.take k).flatMap fun n => be n 4
theorem keyP_all (t : List UInt8) (l : List Int) : keyP t l l.length = keyB t l := by unfold keyP keyB; rw [List.take_length]
theorem keyP_snoc {t : List UInt8} {l : List Int} {k : Nat} {y : Int} (hy : l[k]? = some y) : keyP t l (k + 1) = keyP t l k ++ be y 4 := by
  unfold keyP
  rw [List.take_add_one, hy, List.flatMap_append]
  simp
theorem keyP_len (t : List UInt8) (l : List Int) (k : Nat) (hk : k ≤ l.length) : (keyP t l k).length = 4 + t.length + 4 * k := by
  have := @keyB_len t (l.take k)
  rw [List.length_take, Nat.min_eq_left hk] at this
  exact this
set_option maxHeartbeats 2000000 in
set_option maxRecDepth 100000 in
theorem wrong_fn {h : Heap} (n : Int) : CallsH Tryz.prog 107 ⟨[In n]⟩ h fun u h' => u = .bool (wrongI n) ∧ h' = h := by
  by_cases h1 : n < 0
  ·
    have e : wrongI n = true := by simp [wrongI, h1]
    rw [e]
    refine calls [(0, _)] Tryz.func107 rfl Tryz.ntmps107 rfl ⟨rfl, trivial⟩ ?_
    all_goals (refine WC.sr ?_; refine Go ?_; refine WC.sr ?_; refine Go ?_; refine goP 5 ?_ TT.mk; refine Gg ?_; refine Go ?_; refine Gs [(2, _)] ?_; refine Gt ?_; exact ⟨rfl, rfl⟩)
  · by_cases h2 : 4294967295 < n
    ·
      have e : wrongI n = true := by simp [wrongI, h2]
      rw [e]
      refine calls [(0, _)] Tryz.func107 rfl Tryz.ntmps107 rfl ⟨rfl, trivial⟩ ?_
      all_goals (refine WC.sr ?_; refine Go ?_; refine WC.sr ?_; refine Go ?_; refine goP 5 ?_ TT.mk; refine Gg ?_; refine Go ?_; refine Gs [(2, _)] ?_; refine Gt ?_; exact ⟨rfl, rfl⟩)
    ·
      have e : wrongI n = false := by simp [wrongI]; omega
      rw [e]
      refine calls [(0, _)] Tryz.func107 rfl Tryz.ntmps107 rfl ⟨rfl, trivial⟩ ?_
      all_goals (refine WC.sr ?_; refine Go ?_; refine WC.sr ?_; refine Go ?_; refine goP 5 ?_ TT.mk; refine Gg ?_; refine Go ?_; refine Gs [(2, _)] ?_; refine Gt ?_; exact ⟨rfl, rfl⟩)
set_option maxHeartbeats 2000000 in
set_option maxRecDepth 100000 in
theorem fair_v {h : Heap} {v : Value} (t : List UInt8) (l : List Int) (hr : Rd h v 1 l.length (ints l)) (hm : l.length ≤ maxLen) : CallsH Tryz.prog 77 ⟨[.agg ⟨[St t, v]⟩]⟩ h fun u h' => u = .bool (fairS t l) ∧ Ext No h h' := by
  obtain ⟨A, c, rfl, _⟩ := id hr
  unfold fairS
  refine calls [(0, _)] Tryz.func77 rfl Tryz.ntmps77 rfl ⟨rfl, trivial⟩ ?_
  all_goals (refine WC.sr ?_; refine WL.stepR (okE_box rfl) rfl rfl rfl ?_; rintro _ h1 ⟨b1, rfl, hg1, hb1, hx1⟩; refine Go ?_; refine WC.sr ?_; refine Go ?_; refine WC.sr ?_; refine Go ?_; refine Ld ?_; refine Go ?_; refine goP 8 (Hb.mk fun hb => ?_) (Hb.mk fun hb => ?_))
  all_goals (refine Gg ?_; first | (refine WL.pass rfl rfl rfl ?_) | (refine Ld ?_))
  all_goals (refine Gg ?_; refine Go ?_; first | (refine goP 14 ?_ TT.mk) | (refine goP 14 (Hb.mk fun hb => ?_) (Hb.mk fun hb => ?_)))
  all_goals (refine Gg ?_; first | (refine WL.pass rfl rfl rfl ?_) | (refine Ld ?_))
  all_goals (refine Gg ?_)
  all_goals (first
               | (refine WL.pass rfl rfl rfl ?_)
               | (refine WL.call (vs := [_, _]) rfl (fun a w => Tryz.call108 a w) rfl (containsF_int l wrongI (fun a w => Tryz.call107 a w) (hr.ext0 hx1) hm (fun x _ => wrong_fn x)) rfl rfl rfl ?_
                  rintro _ hz ⟨rfl, _⟩
                  subst hz))
  all_goals (refine Gg ?_; refine Go ?_; refine Gs [(2, _)] ?_; refine Gt ?_)
  all_goals (first
              | exact ⟨by rw [decide_eq_true (by omega), decide_eq_true (by omega)]; rfl, hx1⟩
              | exact ⟨by rw [decide_eq_true (by omega), decide_eq_false (by omega)]; rfl, hx1⟩
              | exact ⟨by rw [decide_eq_false (by omega)]; rfl, hx1⟩)
set_option maxHeartbeats 4000000 in
set_option maxRecDepth 100000 in
theorem of_v {h : Heap} {v : Value} (t : List UInt8) (l : List Int) (hr : Rd h v 1 l.length (ints l)) (hm : l.length ≤ maxLen) : CallsH Tryz.prog 46 ⟨[.agg ⟨[St t, v]⟩]⟩ h fun u h' => u = St (keyS_ t l) ∧ Ext No h h' := by
  obtain ⟨A, c, rfl, _⟩ := id hr
  have kf := fun h' (hx : Ext No h h') => fair_v t l (hr.ext0 hx) hm
  unfold keyS_
  rcases hf : fairS t l with _ | _
  ·
    rw [hf] at kf
    refine calls [(0, _)] Tryz.func46 rfl Tryz.ntmps46 rfl ⟨rfl, trivial⟩ ?_
    all_goals (refine WC.sr ?_; refine WL.stepR (okE_box rfl) rfl rfl rfl ?_; rintro _ h1 ⟨b1, rfl, hg1, hb1, hx1⟩; refine Go ?_; refine WC.seq ?_; refine WC.sr ?_; refine WL.step (ok_loadN (fun w => Tryz.isAgg63 w) (fun w => Tryz.sizeOf63 w) rfl rfl (by exact At.of_block hb1)) rfl rfl rfl ?_; refine WL.call (vs := [_]) rfl (fun a w => Tryz.call77 a w) rfl (kf _ hx1) rfl rfl rfl ?_; rintro _ h2 ⟨rfl, hx2⟩; refine Go ?_; refine Gs [(1, _), (8, _)] ?_; refine goC 1 2 ?_ TT.mk; refine goB 1 ?_; refine WC.sr ?_; refine Go ?_; refine Gt ?_; exact ⟨rfl, hx1.trans hx2⟩)
    -- loop 0: slots that turn [3, 20], that stay [18, 19]
  ·
    rw [hf] at kf
    obtain ⟨f1, f2, f3⟩ := fairS_yes hf
    rw [if_pos rfl]
    refine calls [(0, _)] Tryz.func46 rfl Tryz.ntmps46 rfl ⟨rfl, trivial⟩ ?_
    all_goals (refine WC.sr ?_; refine WL.stepR (okE_box rfl) rfl rfl rfl ?_; rintro _ h1 ⟨b1, rfl, hg1, hb1, hx1⟩; refine Go ?_; refine WC.seq ?_; refine WC.sr ?_; refine WL.step (ok_loadN (fun w => Tryz.isAgg63 w) (fun w => Tryz.sizeOf63 w) rfl rfl (by exact At.of_block hb1)) rfl rfl rfl ?_; refine WL.call (vs := [_]) rfl (fun a w => Tryz.call77 a w) rfl (kf _ hx1) rfl rfl rfl ?_; rintro _ h2 ⟨rfl, hx2⟩; have hX2 := hx1.trans hx2; have hb2 := hx2.obj hb1 nos; clear hb1; refine Go ?_; refine Gs [(1, _), (8, _)] ?_; refine goC 1 2 ?_ TT.mk; refine goB 2 ?_; refine WC.skip ?_; refine Gn ?_; refine WC.sr ?_; refine Go ?_; refine Ld ?_; refine Go ?_; refine WL.call (vs := [_, _, _]) rfl (fun a w => Tryz.call78 a w) rfl (put_v [] (t.length : Int) 4 (by unfold Sz; omega) (rt4 (by omega)) (Rd.nil _ _) (by simp)) rfl rfl rfl ?_; rintro v3 h3 ⟨ho3, hx3, hf3⟩; have hX3 := hX2.trans hx3; have hb3 := hx3.obj hb2 nos; (have hp4 : ([] ++ be (t.length : Int) 4).length = 4 := by simp [be_len]); refine Go ?_; refine Gs [(1, _), (3, _)] ?_; refine WC.sr ?_; refine Go ?_; refine Ld ?_; refine WL.stepR (okE_appendS rfl Tryz.underlying42 Tryz.underlying9 (show Tryz.prog.info? 5 = some Tryz.t5 by kernel_rfl) rfl rfl rfl rfl rfl ho3 (by omega)) rfl rfl rfl ?_; rintro v4 h4 ⟨ho4, hx4, hl4, _⟩; have hs2 := hX2.size; have hX4 := hX3.trans' hx4 (fun q hq e => by have := hf3 q e; omega); have hb4 := hx4.obj hb3 (fun e => by have := hf3 _ e; have := lt_of_some hb2; omega); (have ho4' : Own h4 v4 5 1 (keyP t l 0).length (bys (keyP t l 0)) := by unfold keyP; simpa [bys] using ho4); refine Go ?_; refine Gs [(1, _), (3, _)] ?_; refine WC.seq ?_; refine WC.sr ?_; refine Go ?_; refine WL.ld rfl (by first | exact cell_blk hb4 rfl | assumption | exact cell_blk (by assumption) rfl) rfl rfl rfl ?_; refine Go ?_; refine WC.block ?_)
    -- loop 0: slots that turn [3, 20], that stay [18, 19]
    all_goals (refine WC.loopG (X := Nat × Value) (fun x => ([(20, In (x.1 : Int)), (3, x.2)] : Fr)) [(18, _), (19, _)] (fun x h' => x.1 ≤ l.length ∧ Own h' x.2 5 1 (keyP t l x.1).length (bys (keyP t l x.1)) ∧ Ext No h h') (fun x => l.length - x.1) ((0, v4)) ⟨rfl, rfl, rfl, rfl, trivial⟩ (by exact ⟨Nat.zero_le _, ho4', hX4⟩) ?_)
    all_goals (rintro ⟨k, w⟩ h5 ⟨hk, ho5, hx5⟩
               dsimp only at hk ho5
               have hkl := keyP_len t l k hk)
    all_goals (refine WC.sub [(3, _), (20, _), (18, _), (19, _)] ⟨rfl, rfl, rfl, rfl, trivial⟩ ?_; dsimp only)
    all_goals (refine WC.sr ?_; refine Go ?_; refine WC.seq ?_; refine goC 3 4 (Hb.mk fun hb => ?_) (Hb.mk fun hb => ?_))
    all_goals (first | (fail_if_success refine goB 3 ?_) | (
    refine goB 3 ?_
    all_goals (refine WC.skip ?_)
    skip))
    all_goals (first | (fail_if_success refine goB 4 ?_) | (
    refine goB 4 ?_
    all_goals (refine WC.exit ?_; repeat' (with_reducible first | refine thenP_x ?_ | refine blockP_miss rfl ?_ | refine blockP_hit ?_ | refine blockP_n ?_ | refine thenP_n ?_))
    all_goals (refine Br.out (i := 1000) ?_)
    skip))
    all_goals (refine Gn ?_; first | (refine Br.keep ?_) | (refine WC.seq ?_))
    all_goals (first | (refine Br.keep ?_) | (refine WC.block ?_))
    all_goals (first | (refine Br.keep ?_) | (refine WC.sr ?_))
    all_goals (first
                 | (refine Br.keep ?_)
                 | (obtain ⟨bL, oL, hA, hbL, hat⟩ := Rd.at_ (hr.ext0 hx5) (by omega)
                    obtain ⟨y, hy⟩ : ∃ y, l[k]? = some y := ⟨_, List.getElem?_eq_getElem (by omega)⟩
                    have hcd : cell h5 ⟨bL, oL + k * 1, none⟩ = some (In y) := by rw [Nat.mul_one]; exact hat.one (j := k) (by simp [hy])))
    all_goals (first | (refine Br.keep ?_) | (refine WL.step (ok_idxAddrA Tryz.underlying24 (fun w => Tryz.sizeOf3 w) rfl rfl rfl (by omega) (by first | rfl | assumption)) rfl rfl rfl ?_))
    all_goals (first | (refine Br.keep ?_) | (refine WL.ld rfl (by first | exact hcd | assumption | exact cell_blk (by assumption) rfl) rfl rfl rfl ?_))
    all_goals (refine Go ?_; first | (refine Br.keep ?_) | (refine WC.region ?_))
    all_goals (refine Go ?_)
    all_goals (first
                 | (refine Br.keep ?_)
                 | (refine WL.call (vs := [_, _, _]) rfl (fun a w => Tryz.call78 a w) rfl (put_v (keyP t l k) y 4 (by unfold Sz; omega) (rt4 (f3 y (List.mem_of_getElem? hy))) ho5.rd (by omega)) rfl rfl rfl ?_
                    rintro v6 h6 ⟨ho6, hx6, hf6⟩
                    rw [← keyP_snoc hy] at ho6))
    all_goals (refine Go ?_; first | (refine Br.keep ?_) | (refine Gs [(3, _), (18, _), (19, _), (20, _)] ?_))
    all_goals (first | (refine Br.keep ?_) | (refine WC.region ?_))
    all_goals (refine Go ?_; first | (refine Br.keep ?_) | (exact ⟨(k + 1, _), ⟨rfl, rfl, rfl, rfl, trivial⟩, (by exact ⟨by dsimp only; omega, ho6, hx5.trans hx6⟩), (by simp; omega)⟩))
    all_goals (try (refine Br.mk (i := 1000) ?_))
    all_goals (refine Gn ?_; refine Gs [(3, _)] ?_; refine WC.sr ?_; obtain ⟨Aw, cw, rfl, _⟩ := ho5.slice; refine WL.step (ok_move rfl) rfl rfl rfl ?_; refine WL.step (ok_convBS Tryz.underlying42 Tryz.underlying5 Tryz.underlying9 rfl ho5.rd) rfl rfl rfl ?_; refine Go ?_; refine Gt ?_; (obtain rfl : k = l.length := by omega); exact ⟨by rw [keyP_all], hx5⟩)
set_option maxHeartbeats 2000000 in
set_option maxRecDepth 100000 in
/-! ### the document's -/
theorem between_v {h : Heap} {v : Value} (l : List Int) (hr : Rd h v 1 l.length (ints l)) (hm : l.length ≤ maxLen) :
    CallsH Tryz.prog 79 ⟨[v, In 0, In 4294967295]⟩ h fun u h' => u = .bool (decide (l.length ≤ 65535) && !l.any wrongI) ∧ h' = h := by
  obtain ⟨A, c, rfl, _⟩ := id hr
  refine calls [(0, _), (1, _), (2, _)] Tryz.func79 rfl Tryz.ntmps79 rfl ⟨rfl, rfl, rfl, trivial⟩ ?_
  all_goals (refine WC.sr ?_; refine Go ?_; refine WC.seq ?_; refine WC.sr ?_; refine Go ?_; refine goC 1 2 (Hb.mk fun hb => ?_) (Hb.mk fun hb => ?_))
  all_goals (first | (fail_if_success refine goB 1 ?_) | (
  refine goB 1 ?_
  all_goals (refine WC.sr ?_; refine Go ?_; refine Gs [(6, _)] ?_; refine Gt ?_)
  all_goals (first
              | exact ⟨by rw [decide_eq_false (by omega)]; rfl, rfl⟩
              | exact ⟨by rw [decide_eq_true (by omega), List.any_eq_true.2 ⟨y, List.mem_of_getElem? hy, by simp [wrongI]; omega⟩]; rfl, rfl⟩
              | exact ⟨by rw [List.take_of_length_le (by omega)] at hn; rw [decide_eq_true (by omega), List.any_eq_false.2 (fun n hn' => by simp [hn n hn'])]; rfl, rfl⟩)
  skip))
  all_goals (refine goB 2 ?_; refine WC.skip ?_; refine Gn ?_; refine Gs [(0, _), (1, _), (2, _)] ?_; refine WC.seq ?_; refine WC.sr ?_; refine Go ?_; refine WC.block ?_)
  -- loop 0: slots that turn [7], that stay [0, 1, 2]
  all_goals (refine WC.loopG (X := Nat) (fun x => ([(7, In (x : Int))] : Fr)) [(0, _), (1, _), (2, _)] (fun k h' => h' = h ∧ k ≤ l.length ∧ ∀ n ∈ l.take k, wrongI n = false) (fun k => l.length - k) (0) ⟨rfl, rfl, rfl, rfl, trivial⟩ (by exact ⟨rfl, Nat.zero_le _, by simp⟩) ?_; rintro k h9 ⟨hz, hk, hn⟩; subst h9; refine WC.sub [(7, _), (0, _), (1, _), (2, _)] ⟨rfl, rfl, rfl, rfl, trivial⟩ ?_; refine WC.seq ?_; refine WC.sr ?_; refine Go ?_; refine goC 3 4 (Hb.mk fun hb => ?_) (Hb.mk fun hb => ?_))
  all_goals (first | (fail_if_success refine goB 3 ?_) | (
  refine goB 3 ?_
  all_goals (refine WC.skip ?_)
  skip))
  all_goals (first | (fail_if_success refine goB 4 ?_) | (
  refine goB 4 ?_
  all_goals (refine WC.exit ?_; repeat' (with_reducible first | refine thenP_x ?_ | refine blockP_miss rfl ?_ | refine blockP_hit ?_ | refine blockP_n ?_ | refine thenP_n ?_))
  all_goals (refine Br.out (i := 1000) ?_)
  skip))
  all_goals (refine Gn ?_; first | (refine Br.keep ?_) | (refine Gs [(0, _), (1, _), (2, _), (7, _)] ?_))
  all_goals (first | (refine Br.keep ?_) | (refine WC.seq ?_))
  all_goals (first | (refine Br.keep ?_) | (refine WC.block ?_))
  all_goals (first | (refine Br.keep ?_) | (refine WC.seq ?_))
  all_goals (first
               | (refine Br.keep ?_)
               | (obtain ⟨bL, oL, hA, hbL, hat⟩ := Rd.at_ hr (by omega)
                  obtain ⟨y, hy⟩ : ∃ y, l[k]? = some y := ⟨_, List.getElem?_eq_getElem (by omega)⟩
                  have hcd : cell h ⟨bL, oL + k * 1, none⟩ = some (In y) := by rw [Nat.mul_one]; exact hat.one (j := k) (by simp [hy])))
  all_goals (first | (refine Br.keep ?_) | (refine WC.region ?_))
  all_goals (refine Go ?_; first | (refine Br.keep ?_) | (refine WL.step (ok_idxAddrA Tryz.underlying24 (fun w => Tryz.sizeOf3 w) rfl rfl rfl (by omega) (by first | rfl | assumption)) rfl rfl rfl ?_))
  all_goals (first | (refine Br.keep ?_) | (refine WL.ld rfl (by first | exact hcd | assumption | exact cell_blk (by assumption) rfl) rfl rfl rfl ?_))
  all_goals (refine Go ?_; first | (refine Br.keep ?_) | (refine goP 23 (Hb.mk fun hb => ?_) (Hb.mk fun hb => ?_)))
  all_goals (refine Gg ?_; first | (refine Br.keep ?_) | (first | (refine WL.pass rfl rfl rfl ?_) | (refine WL.step (ok_idxAddrA Tryz.underlying24 (fun w => Tryz.sizeOf3 w) rfl rfl rfl (by omega) (by first | rfl | assumption)) rfl rfl rfl ?_)))
  all_goals (first | (refine Br.keep ?_) | (first | (refine WL.pass rfl rfl rfl ?_) | (refine WL.ld rfl (by first | exact hcd | assumption | exact cell_blk (by assumption) rfl) rfl rfl rfl ?_)))
  all_goals (refine Gg ?_; refine Go ?_; first | (refine Br.keep ?_) | (refine Gs [(0, _), (1, _), (2, _), (7, _), (30, _)] ?_))
  all_goals (first | (refine Br.keep ?_) | (first | (refine goC 5 6 ?_ TT.mk) | (refine goC 5 6 (Hb.mk fun hb => ?_) (Hb.mk fun hb => ?_))))
  all_goals (first | (fail_if_success refine goB 5 ?_) | (
  refine goB 5 ?_
  all_goals (refine WC.sr ?_; refine Go ?_; refine Gs [(6, _)] ?_; refine Gt ?_)
  all_goals (first
              | exact ⟨by rw [decide_eq_false (by omega)]; rfl, rfl⟩
              | exact ⟨by rw [decide_eq_true (by omega), List.any_eq_true.2 ⟨y, List.mem_of_getElem? hy, by simp [wrongI]; omega⟩]; rfl, rfl⟩
              | exact ⟨by rw [List.take_of_length_le (by omega)] at hn; rw [decide_eq_true (by omega), List.any_eq_false.2 (fun n hn' => by simp [hn n hn'])]; rfl, rfl⟩)
  skip))
  all_goals (first | (fail_if_success refine goB 6 ?_) | (
  refine goB 6 ?_
  all_goals (refine WC.skip ?_)
  skip))
  all_goals (refine Gn ?_; first | (refine Br.keep ?_) | (refine WC.region ?_))
  all_goals (refine Go ?_; first | (refine Br.keep ?_) | (exact ⟨k + 1, ⟨rfl, rfl, rfl, rfl, trivial⟩, (by exact ⟨rfl, by omega, fun n hn' => by rw [List.take_add_one, hy] at hn'; simp only [Option.toList_some, List.mem_append, List.mem_singleton] at hn'; rcases hn' with hn' | rfl; exact hn n hn'; simp [wrongI]; omega⟩), (by omega)⟩))
  all_goals (try (refine Br.mk (i := 1000) ?_))
  all_goals (refine Gn ?_; refine Gs [] ?_; refine WC.sr ?_; refine Go ?_; refine Gt ?_)
  all_goals (first
              | exact ⟨by rw [decide_eq_false (by omega)]; rfl, rfl⟩
              | exact ⟨by rw [decide_eq_true (by omega), List.any_eq_true.2 ⟨y, List.mem_of_getElem? hy, by simp [wrongI]; omega⟩]; rfl, rfl⟩
              | exact ⟨by rw [List.take_of_length_le (by omega)] at hn; rw [decide_eq_true (by omega), List.any_eq_false.2 (fun n hn' => by simp [hn n hn'])]; rfl, rfl⟩)
set_option maxHeartbeats 4000000 in
set_option maxRecDepth 100000 in
theorem of12 {h : Heap} {v : Value} (t : List UInt8) (l : List Int) (hr : Rd h v 1 l.length (ints l)) (hm : l.length ≤ maxLen) : CallsH Tryz.prog 47 ⟨[.agg ⟨[St t, v]⟩]⟩ h fun u h' => u = St (keyS_ t l) ∧ Ext No h h' := by
  obtain ⟨A, c, rfl, _⟩ := id hr
  have kb := fun h' (hx : Ext No h h') => between_v l (hr.ext0 hx) hm
  unfold keyS_
  rcases hf : fairS t l with _ | _
  ·
    have hB : ¬ 1048576 < (t.length : Int) → (decide (l.length ≤ 65535) && !l.any wrongI) = false := fun h0 => by
      unfold fairS at hf
      rw [decide_eq_true (by omega : t.length ≤ 1048576), Bool.true_and] at hf
      exact hf
    generalize (decide (l.length ≤ 65535) && !l.any wrongI) = B at kb hB
    by_cases hlt : 1048576 < (t.length : Int)
    ·
      refine calls [(0, _)] Tryz.func47 rfl Tryz.ntmps47 rfl ⟨rfl, trivial⟩ ?_
      all_goals (refine WC.sr ?_; refine WL.stepR (okE_box rfl) rfl rfl rfl ?_; rintro _ h1 ⟨b1, rfl, hg1, hb1, hx1⟩; refine Go ?_; refine WC.seq ?_; refine WC.sr ?_; refine Go ?_; refine Ld ?_; refine Go ?_; refine goP 9 ?_ TT.mk; refine Gg ?_; refine WL.pass rfl rfl rfl ?_; refine WL.pass rfl rfl rfl ?_; refine Gg ?_; refine Go ?_; refine Gs [(1, _), (14, _)] ?_; refine goC 1 2 ?_ TT.mk; refine goB 1 ?_; refine WC.sr ?_; refine Go ?_; refine Gt ?_; exact ⟨rfl, hx1⟩)
      -- loop 0: slots that turn [3, 4], that stay [1]
    ·
      obtain rfl := hB hlt
      refine calls [(0, _)] Tryz.func47 rfl Tryz.ntmps47 rfl ⟨rfl, trivial⟩ ?_
      all_goals (refine WC.sr ?_; refine WL.stepR (okE_box rfl) rfl rfl rfl ?_; rintro _ h1 ⟨b1, rfl, hg1, hb1, hx1⟩; refine Go ?_; refine WC.seq ?_; refine WC.sr ?_; refine Go ?_; refine Ld ?_; refine Go ?_; refine goP 9 ?_ TT.mk; refine Gg ?_; refine Ld ?_; refine WL.call (vs := [_, _, _]) rfl (fun a w => Tryz.call79 a w) rfl (kb _ hx1) rfl rfl rfl ?_; rintro _ hz ⟨rfl, _⟩; subst hz; refine Gg ?_; refine Go ?_; refine Gs [(1, _), (14, _)] ?_; refine goC 1 2 ?_ TT.mk; refine goB 1 ?_; refine WC.sr ?_; refine Go ?_; refine Gt ?_; exact ⟨rfl, hx1⟩)
      -- loop 0: slots that turn [3, 4], that stay [1]
  ·
    obtain ⟨f1, f2, f3⟩ := fairS_yes hf
    have hB : (decide (l.length ≤ 65535) && !l.any wrongI) = true := by
      unfold fairS at hf
      rw [decide_eq_true (by omega : t.length ≤ 1048576), Bool.true_and] at hf
      exact hf
    rw [hB] at kb
    rw [if_pos rfl]
    refine calls [(0, _)] Tryz.func47 rfl Tryz.ntmps47 rfl ⟨rfl, trivial⟩ ?_
    all_goals (refine WC.sr ?_; refine WL.stepR (okE_box rfl) rfl rfl rfl ?_; rintro _ h1 ⟨b1, rfl, hg1, hb1, hx1⟩; refine Go ?_; refine WC.seq ?_; refine WC.sr ?_; refine Go ?_; refine Ld ?_; refine Go ?_; refine goP 9 ?_ TT.mk; refine Gg ?_; refine Ld ?_; refine WL.call (vs := [_, _, _]) rfl (fun a w => Tryz.call79 a w) rfl (kb _ hx1) rfl rfl rfl ?_; rintro _ hz ⟨rfl, _⟩; subst hz; refine Gg ?_; refine Go ?_; refine Gs [(1, _), (14, _)] ?_; refine goC 1 2 ?_ TT.mk; refine goB 2 ?_; refine WC.skip ?_; refine Gn ?_; refine WC.seq ?_; refine WC.drawH (fun h' => Ext No h1 h') 8 8 rfl fol ?_; refine WH.tk 0 rfl (fun hq hC => ok_fieldAddr rfl Tryz.underlying63 rfl (fun w => Tryz.sizeOf9 w)) rfl rfl rfl ?_; refine WH.tk 1 rfl (fun hq hC => ok_load (fun w => Tryz.isAgg9 w) rfl (by first | exact hC.cell (by first | assumption | assumption | exact cell_blk (by assumption) rfl) nos)) rfl rfl rfl ?_; refine WH.tk 2 rfl (fun hq hC => ok_lenS rfl Tryz.underlying9 rfl) rfl rfl rfl ?_; refine WH.tk 4 rfl (fun hq hC => ok_fieldAddr rfl Tryz.underlying63 rfl (fun w => Tryz.sizeOf9 w)) rfl rfl rfl ?_; refine WH.tk 5 rfl (fun hq hC => ok_load (fun w => Tryz.isAgg9 w) rfl (by first | exact hC.cell (by first | assumption | assumption | exact cell_blk (by assumption) rfl) nos)) rfl rfl rfl ?_; refine WH.one 3 (by kernel_rfl) ?_; refine Comes1.call (vs := [_, _, _]) rfl rfl (fun a w => Tryz.call80 a w) rfl (put01 [] (t.length : Int) 4 (by unfold Sz; omega) (rt4 (by omega)) (Rd.nil _ _) (by simp)) rfl rfl rfl ?_ (fun _ => by kernel_rfl); rintro v3 h3 ⟨ho3, hx3, hf3⟩; refine ⟨fun _ => hx3, ?_⟩; (have hp4 : ([] ++ be (t.length : Int) 4).length = 4 := by simp [be_len]); refine WH.one 6 (by kernel_rfl) ?_; refine Comes1.run rfl (okE_appendS rfl Tryz.underlying42 Tryz.underlying9 (show Tryz.prog.info? 5 = some Tryz.t5 by kernel_rfl) rfl rfl rfl rfl rfl ho3 (by omega)) rfl rfl rfl ?_ (fun _ => by kernel_rfl); rintro v4 h4 ⟨ho4, hx4, hl4, _⟩; refine ⟨fun _ => hx3.trans' hx4 (fun q hq e => by have := hf3 q e; omega), ?_⟩; have hX4' := hx3.trans' hx4 (fun q hq e => by have := hf3 q e; omega); have hX4 := hx1.trans hX4'; have hb4 := hX4'.obj hb1 nos; (have ho4' : Own h4 v4 5 1 (keyP t l 0).length (bys (keyP t l 0)) := by unfold keyP; simpa [bys] using ho4); refine WH.tk 7 rfl (fun hq hC => ok_assign rfl) rfl rfl rfl ?_; refine WH.done (by kernel_rfl) ?_; refine Gn ?_; refine Gs [(1, _), (3, _)] ?_; refine WC.seq ?_; refine WC.sr ?_; refine Go ?_; refine WC.block ?_)
    -- loop 0: slots that turn [3, 4], that stay [1]
    all_goals (refine WC.loopG (X := Nat × Value) (fun x => ([(3, x.2), (4, In (x.1 : Int))] : Fr)) [(1, _)] (fun x h' => x.1 ≤ l.length ∧ Own h' x.2 5 1 (keyP t l x.1).length (bys (keyP t l x.1)) ∧ Ext No h4 h') (fun x => l.length - x.1) ((0, v4)) ⟨rfl, rfl, rfl, trivial⟩ (by exact ⟨Nat.zero_le _, ho4', .refl _ _⟩) ?_)
    all_goals (rintro ⟨k, w⟩ h5 ⟨hk, ho5, hx5⟩
               dsimp only at hk ho5
               have hkl := keyP_len t l k hk
               have hb5 := hx5.obj hb4 nos)
    all_goals (refine WC.sub [(3, _), (4, _), (1, _)] ⟨rfl, rfl, rfl, trivial⟩ ?_; dsimp only)
    all_goals (refine WC.seq ?_; refine WC.sr ?_; refine Go ?_; refine Ld ?_; refine Go ?_; refine Gs [(1, _), (3, _), (4, _), (26, _)] ?_; refine goC 3 4 (Hb.mk fun hb => ?_) (Hb.mk fun hb => ?_))
    all_goals (first | (fail_if_success refine goB 3 ?_) | (
    refine goB 3 ?_
    all_goals (refine WC.skip ?_)
    skip))
    all_goals (first | (fail_if_success refine goB 4 ?_) | (
    refine goB 4 ?_
    all_goals (refine WC.exit ?_; repeat' (with_reducible first | refine thenP_x ?_ | refine blockP_miss rfl ?_ | refine blockP_hit ?_ | refine blockP_n ?_ | refine thenP_n ?_))
    all_goals (refine Br.out (i := 1000) ?_)
    skip))
    all_goals (refine Gn ?_; first | (refine Br.keep ?_) | (refine WC.seq ?_))
    all_goals (first | (refine Br.keep ?_) | (refine WC.block ?_))
    all_goals (first | (refine Br.keep ?_) | (refine WC.region ?_))
    all_goals (first
                 | (refine Br.keep ?_)
                 | (obtain ⟨bL, oL, hA, hbL, hat⟩ := Rd.at_ (hr.ext0 (hX4.trans hx5)) (by omega)
                    obtain ⟨y, hy⟩ : ∃ y, l[k]? = some y := ⟨_, List.getElem?_eq_getElem (by omega)⟩
                    have hcd : cell h5 ⟨bL, oL + k * 1, none⟩ = some (In y) := by rw [Nat.mul_one]; exact hat.one (j := k) (by simp [hy])))
    all_goals (first | (refine Br.keep ?_) | (refine WL.step (ok_move rfl) rfl rfl rfl ?_))
    all_goals (refine Go ?_; first | (refine Br.keep ?_) | (refine Ld ?_))
    all_goals (refine Go ?_; first | (refine Br.keep ?_) | (refine WL.step (ok_idxAddrA Tryz.underlying24 (fun w => Tryz.sizeOf3 w) rfl rfl rfl (by omega) (by first | rfl | assumption)) rfl rfl rfl ?_))
    all_goals (first | (refine Br.keep ?_) | (refine WL.ld rfl (by first | exact hcd | assumption | exact cell_blk (by assumption) rfl) rfl rfl rfl ?_))
    all_goals (first
                 | (refine Br.keep ?_)
                 | (refine WL.call (vs := [_, _, _]) rfl (fun a w => Tryz.call80 a w) rfl (put01 (keyP t l k) y 4 (by unfold Sz; omega) (rt4 (f3 y (List.mem_of_getElem? hy))) ho5.rd (by omega)) rfl rfl rfl ?_
                    rintro v6 h6 ⟨ho6, hx6, hf6⟩
                    rw [← keyP_snoc hy] at ho6))
    all_goals (refine Go ?_; first | (refine Br.keep ?_) | (refine Gs [(1, _), (3, _), (4, _)] ?_))
    all_goals (first | (refine Br.keep ?_) | (refine WC.region ?_))
    all_goals (refine Go ?_; first | (refine Br.keep ?_) | (exact ⟨(k + 1, _), ⟨rfl, rfl, rfl, trivial⟩, (by exact ⟨by dsimp only; omega, ho6, hx5.trans hx6⟩), (by simp; omega)⟩))
    all_goals (try (refine Br.mk (i := 1000) ?_))
    all_goals (refine Gn ?_; refine WC.sr ?_; obtain ⟨Aw, cw, rfl, _⟩ := ho5.slice; refine WL.step (ok_move rfl) rfl rfl rfl ?_; refine WL.step (ok_convBS Tryz.underlying42 Tryz.underlying5 Tryz.underlying9 rfl ho5.rd) rfl rfl rfl ?_; refine Go ?_; refine Gs [(2, _)] ?_; refine Gt ?_; (obtain rfl : k = l.length := by omega); exact ⟨by rw [keyP_all], hX4.trans hx5⟩)
set_option maxHeartbeats 2000000 in
set_option maxRecDepth 100000 in
theorem ints_eq {h : Heap} {v u : Value} (l m : List Int) (hr : Rd h v 1 l.length (ints l)) (hs : Rd h u 1 m.length (ints m)) (hl : l.length ≤ maxLen) (hm : m.length ≤ maxLen) :
    CallsH Tryz.prog 73 ⟨[v, u]⟩ h fun u h' => u = .bool (decide (l = m)) ∧ h' = h := by
  unfold maxLen at hl hm
  obtain ⟨A, c, rfl, _⟩ := id hr
  obtain ⟨B, d, rfl, _⟩ := id hs
  refine calls [(0, _), (1, _)] Tryz.func73 rfl Tryz.ntmps73 rfl ⟨rfl, rfl, trivial⟩ ?_
  all_goals (refine WC.sr ?_; refine Go ?_; refine WC.seq ?_; refine WC.sr ?_; refine Go ?_; refine Gs [(0, _), (1, _), (10, _)] ?_; refine goC 1 2 (Hb.mk fun hb => ?_) (Hb.mk fun hb => ?_))
  all_goals (first | (fail_if_success refine goB 1 ?_) | (
  refine goB 1 ?_
  all_goals (refine WC.sr ?_; refine Go ?_; refine Gt ?_; first | exact ⟨by rw [decide_eq_false (fun e => by subst e; omega)], rfl⟩ | exact ⟨by rw [decide_eq_false (fun e => by subst e; rw [hy] at hz; injection hz with hz; omega)], rfl⟩ | exact ⟨by rw [decide_eq_true (by rw [List.take_of_length_le (by omega), List.take_of_length_le (by omega)] at hn; exact hn)], rfl⟩)
  skip))
  all_goals (refine goB 2 ?_; refine WC.skip ?_; refine Gn ?_; refine WC.seq ?_; refine WC.sr ?_; refine Go ?_; refine WC.block ?_)
  -- loop 0: slots that turn [5], that stay [0, 1]
  all_goals (refine WC.loopG (X := Nat) (fun x => ([(5, In (x : Int))] : Fr)) [(0, _), (1, _)] (fun k h' => h' = h ∧ k ≤ l.length ∧ l.take k = m.take k) (fun k => l.length - k) (0) ⟨rfl, rfl, rfl, trivial⟩ (by exact ⟨rfl, Nat.zero_le _, by simp⟩) ?_; rintro k _ ⟨rfl, hk, hn⟩; refine WC.sub [(5, _), (0, _), (1, _)] ⟨rfl, rfl, rfl, trivial⟩ ?_; refine WC.seq ?_; refine WC.sr ?_; refine Go ?_; refine goC 3 4 (Hb.mk fun hb => ?_) (Hb.mk fun hb => ?_))
  all_goals (first | (fail_if_success refine goB 3 ?_) | (
  refine goB 3 ?_
  all_goals (refine WC.skip ?_)
  skip))
  all_goals (first | (fail_if_success refine goB 4 ?_) | (
  refine goB 4 ?_
  all_goals (refine WC.exit ?_; repeat' (with_reducible first | refine thenP_x ?_ | refine blockP_miss rfl ?_ | refine blockP_hit ?_ | refine blockP_n ?_ | refine thenP_n ?_))
  all_goals (refine Br.out (i := 1000) ?_)
  skip))
  all_goals (refine Gn ?_; first | (refine Br.keep ?_) | (refine Gs [(0, _), (1, _), (5, _)] ?_))
  all_goals (first | (refine Br.keep ?_) | (refine WC.seq ?_))
  all_goals (first | (refine Br.keep ?_) | (refine WC.block ?_))
  all_goals (first | (refine Br.keep ?_) | (refine WC.seq ?_))
  all_goals (first
               | (refine Br.keep ?_)
               | (obtain ⟨b, o, hA, hbL, hat⟩ := Rd.at_ hr (by omega)
                  obtain ⟨b2, o2, hB, hb2, hat2⟩ := Rd.at_ hs (by omega)
                  obtain ⟨y, hy⟩ : ∃ y, l[k]? = some y := ⟨_, List.getElem?_eq_getElem (by omega)⟩
                  obtain ⟨z, hz⟩ : ∃ z, m[k]? = some z := ⟨_, List.getElem?_eq_getElem (by omega)⟩
                  have hc := hat.get (p := o + k * 1) k (get_int hy) (by omega)
                  have hc2 := hat2.get (p := o2 + k * 1) k (get_int hz) (by omega)))
  all_goals (first | (refine Br.keep ?_) | (refine WC.drawE fol (by kernel_rfl) ?_))
  all_goals (first | (refine Br.keep ?_) | (refine WQ.stepE (ok_move rfl) rfl rfl rfl ?_))
  all_goals (first | (refine Br.keep ?_) | (refine WQ.stepE (ok_move rfl) rfl rfl rfl ?_))
  all_goals (first | (refine Br.keep ?_) | (refine WQ.stepE (ok_idxAddrA Tryz.underlying24 (fun w => Tryz.sizeOf3 w) rfl rfl rfl (by omega) (by first | rfl | assumption)) rfl rfl rfl ?_))
  all_goals (first | (refine Br.keep ?_) | (refine WQ.stepE (ok_load (fun w => Tryz.isAgg3 w) rfl (by first | assumption | exact cell_blk (by assumption) rfl)) rfl rfl rfl ?_))
  all_goals (first | (refine Br.keep ?_) | (refine WQ.stepE (ok_move rfl) rfl rfl rfl ?_))
  all_goals (first | (refine Br.keep ?_) | (refine WQ.stepE (ok_move rfl) rfl rfl rfl ?_))
  all_goals (first | (refine Br.keep ?_) | (refine WQ.stepE (ok_idxAddrA Tryz.underlying24 (fun w => Tryz.sizeOf3 w) rfl rfl rfl (by omega) (by first | rfl | assumption)) rfl rfl rfl ?_))
  all_goals (first | (refine Br.keep ?_) | (refine WQ.stepE (ok_load (fun w => Tryz.isAgg3 w) rfl (by first | assumption | exact cell_blk (by assumption) rfl)) rfl rfl rfl ?_))
  all_goals (first | (refine Br.keep ?_) | (refine WQ.stepE (ok_neq rfl rfl) rfl rfl rfl ?_))
  all_goals (first | (refine Br.keep ?_) | (refine WQ.nil ?_))
  all_goals (refine Gn ?_; first | (refine Br.keep ?_) | (refine Gs [(0, _), (1, _), (5, _), (25, _)] ?_))
  all_goals (first | (refine Br.keep ?_) | (refine goC 5 6 (Hb.mk fun hb => ?_) (Hb.mk fun hb => ?_)))
  all_goals (first | (fail_if_success refine goB 5 ?_) | (
  refine goB 5 ?_
  all_goals (refine WC.sr ?_; refine Go ?_; refine Gs [(4, _)] ?_; refine Gt ?_; first | exact ⟨by rw [decide_eq_false (fun e => by subst e; omega)], rfl⟩ | exact ⟨by rw [decide_eq_false (fun e => by subst e; rw [hy] at hz; injection hz with hz; omega)], rfl⟩ | exact ⟨by rw [decide_eq_true (by rw [List.take_of_length_le (by omega), List.take_of_length_le (by omega)] at hn; exact hn)], rfl⟩)
  skip))
  all_goals (first | (fail_if_success refine goB 6 ?_) | (
  refine goB 6 ?_
  all_goals (refine WC.skip ?_)
  skip))
  all_goals (refine Gn ?_; first | (refine Br.keep ?_) | (refine WC.region ?_))
  all_goals (refine Go ?_; first | (refine Br.keep ?_) | (exact ⟨k + 1, ⟨rfl, rfl, rfl, trivial⟩, (by exact ⟨rfl, by omega, by rw [List.take_add_one, List.take_add_one, hn, hy, hz, show y = z by omega]⟩), (by omega)⟩))
  all_goals (try (refine Br.mk (i := 1000) ?_))
  all_goals (refine Gn ?_; refine Gs [] ?_; refine WC.sr ?_; refine Go ?_; refine Gt ?_; first | exact ⟨by rw [decide_eq_false (fun e => by subst e; omega)], rfl⟩ | exact ⟨by rw [decide_eq_false (fun e => by subst e; rw [hy] at hz; injection hz with hz; omega)], rfl⟩ | exact ⟨by rw [decide_eq_true (by rw [List.take_of_length_le (by omega), List.take_of_length_le (by omega)] at hn; exact hn)], rfl⟩)
set_option maxHeartbeats 2000000 in
set_option maxRecDepth 100000 in
theorem same12 {h : Heap} {v u : Value} (t s : List UInt8) (l m : List Int) (hr : Rd h v 1 l.length (ints l)) (hs : Rd h u 1 m.length (ints m)) (hl : l.length ≤ maxLen) (hm : m.length ≤ maxLen) :
    CallsH Tryz.prog 81 ⟨[.agg ⟨[St t, v]⟩, .agg ⟨[St s, u]⟩]⟩ h fun u h' => u = .bool (decide (t = s ∧ l = m)) ∧ Ext No h h' := by
  obtain ⟨A, c, rfl, _⟩ := id hr
  obtain ⟨B, d, rfl, _⟩ := id hs
  have ki := fun h' (hx : Ext No h h') => ints_eq l m (hr.ext0 hx) (hs.ext0 hx) hl hm
  refine calls [(0, _), (1, _)] Tryz.func81 rfl Tryz.ntmps81 rfl ⟨rfl, rfl, trivial⟩ ?_
  all_goals (refine WC.sr ?_; refine WL.stepR (okE_box rfl) rfl rfl rfl ?_; rintro _ h1 ⟨b1, rfl, hg1, hb1, hx1⟩; refine WL.stepR (okE_box rfl) rfl rfl rfl ?_; rintro _ h2 ⟨b2, rfl, hg2, hb2, hx2⟩; have hb12 := hx2.obj hb1 nos; clear hb1; have hX2 := hx1.trans hx2; refine Go ?_; refine WC.sr ?_; refine Go ?_; refine Ld ?_; refine Go ?_; refine Ld ?_; refine Go ?_; refine goP 10 (Hb.mk fun hb => ?_) (Hb.mk fun hb => ?_))
  all_goals (refine Gg ?_; first | (refine WL.pass rfl rfl rfl ?_) | (refine Ld ?_))
  all_goals (refine Gg ?_; first | (refine WL.pass rfl rfl rfl ?_) | (refine Ld ?_))
  all_goals (first
               | (refine WL.pass rfl rfl rfl ?_)
               | (refine WL.call (vs := [_, _]) rfl (fun a w => Tryz.call73 a w) rfl (ki _ hX2) rfl rfl rfl ?_
                  rintro _ hz ⟨rfl, _⟩
                  subst hz))
  all_goals (refine Go ?_; refine Gs [(4, _)] ?_; refine Gt ?_)
  all_goals (first
              | (subst s; exact ⟨by simp, hX2⟩)
              | exact ⟨by rw [decide_eq_false (fun e => absurd e.1 (by assumption))], hX2⟩)
end Go.Proofs.YtggmocdbfbhklaaGreat


/-
  MAPS AND LISTS OF PAIRS, in plain Lean, at whatever key: what is set, let go and found is alike in both.
-/
namespace Go.Proofs.YtggmocdbfbhklaaGreat
open Go Go.RK

section
variable {κ α : Type} [DecidableEq κ]
def getK (L : List (κ × α)) (n : κ) : Option α := (L.find? fun p => decide (p.1 = n)).map (·.2)
def delK (L : List (κ × α)) (n : κ) : List (κ × α) := L.filter fun p => decide (p.1 ≠ n)
/-! ### maps -/
def encK (f : α → Value) (E : List (κ × α)) : List (κ × Value) := E.map fun p => (p.1, f p.2)
/-- What the map has behind a set. -/
def putK (E : List (κ × α)) (n : κ) (v : α) : List (κ × α) := if (getK E n).isSome = true then E.map (fun p => if p.1 = n then (n, v) else p) else E ++ [(n, v)]
end
end Go.Proofs.YtggmocdbfbhklaaGreat


/-
  REGISTRY (layer 14): what the code's registry holds; look-ups.
-/
namespace Go.Proofs.YtggmocdbfbhklaaGreat
open Go Go.RK

/-- A statement that is kept: its id, how many refer to it, its text and types; its record's block, and its row of types. -/
structure Rn where
  id : Int
  rf : Int
  t : List UInt8
  o : List Int
  p : Nat
  v : Value
def ptE (p : Nat) : Value := .pointer (some ⟨p, 0, none⟩)
structure Rg (B : Nat) (c : Int) (h : Heap) (b m1 m2 : Nat) (last : Int) (L : List Rn) : Prop where
  blk : h[b]? = some (.cells ⟨[.map (some m1), .map (some m2), In last]⟩ 105 (0, 0))
  mp1 : ∃ E, Mp (.int .i64) In h m1 E ∧ E.Perm (L.map fun e => (e.id, ptE e.p))
  mp2 : ∃ E, Mp .string St h m2 E ∧ E.Perm (L.map fun e => (keyB e.t e.o, In e.id))
  recs : ∀ e ∈ L, h[e.p]? = some (.cells ⟨[St e.t, e.v, In e.rf]⟩ 99 (0, 0))
  oid : ∀ e ∈ L, Own h e.v 3 1 e.o.length (ints e.o)
  fair : ∀ e ∈ L, fairS e.t e.o = true
  rf1 : ∀ e ∈ L, 1 ≤ e.rf ∧ e.rf ≤ c
  rise : L.Pairwise fun a b => a.id < b.id
  top : ∀ e ∈ L, 1 ≤ e.id ∧ e.id ≤ last
  keys : L.Pairwise fun a b => ¬ (a.t = b.t ∧ a.o = b.o)
  ptrs : L.Pairwise fun a b => a.p ≠ b.p
  lo : B ≤ b ∧ B ≤ m1 ∧ B ≤ m2 ∧ ∀ e ∈ L, B ≤ e.p ∧ ∀ q, e.v.ownBlock = some q → B ≤ q
  ne : m1 ≠ m2
  bd : 0 ≤ last ∧ last ≤ c ∧ (L.length : Int) ≤ c ∧ c ≤ 1000000
section
variable {B : Nat} {c : Int} {h h' : Heap} {b m1 m2 : Nat} {last : Int} {L : List Rn}
theorem alook_in {κ : Type} [DecidableEq κ] {F : List (κ × Value)} (hn : (F.map (·.1)).Nodup) {k : κ} {v : Value} (h : (k, v) ∈ F) : alook F k = some v := by
  induction F with
  | nil => cases h
  | cons a F ih =>
    simp only [List.map_cons, List.nodup_cons, List.mem_map, not_exists, not_and] at hn
    unfold alook at ih ⊢
    rw [List.find?_cons]
    rcases List.mem_cons.1 h with rfl | h
    · simp
    · have : ¬ a.1 = k := fun e => hn.1 (k, v) h e.symm
      simp only [this, decide_false]
      exact ih hn.2 h
theorem alook_out {κ : Type} [DecidableEq κ] {F : List (κ × Value)} {k : κ} (h : ∀ p ∈ F, p.1 ≠ k) : alook F k = none := by
  unfold alook
  rw [Option.map_eq_none_iff, List.find?_eq_none]
  exact fun p hp => by simpa using h p hp
theorem Rg.nd1 (r : Rg B c h b m1 m2 last L) : ((L.map fun e => (e.id, ptE e.p)).map (·.1)).Nodup := by
  rw [List.map_map]
  exact List.pairwise_map.2 (r.rise.imp fun {a b} hab e => by simp only [Function.comp] at e; omega)
theorem Rg.nd2 (r : Rg B c h b m1 m2 last L) : ((L.map fun e => (keyB e.t e.o, In e.id)).map (·.1)).Nodup := by
  rw [List.map_map]
  refine List.pairwise_map.2 ?_
  have := List.Pairwise.and_mem.1 r.keys
  exact this.imp fun {a b} hab e => hab.2.2 (keyB_inj (r.fair a hab.1) (r.fair b hab.2.1) e)
theorem Rg.at1 (r : Rg B c h b m1 m2 last L) : ∃ E, Mp (.int .i64) In h m1 E ∧ E.Perm (L.map fun e => (e.id, ptE e.p)) ∧ (∀ e ∈ L, alook E e.id = some (ptE e.p)) ∧ (∀ id, (∀ e ∈ L, e.id ≠ id) → alook E id = none) := by
  obtain ⟨E, hm, hp⟩ := r.mp1
  have hn : (E.map (·.1)).Nodup := (hp.map _).nodup_iff.2 r.nd1
  refine ⟨E, hm, hp, fun e he => alook_in hn (hp.mem_iff.2 (List.mem_map.2 ⟨e, he, rfl⟩)), fun id hid => alook_out fun p hpE e => ?_⟩
  obtain ⟨x, hx, rfl⟩ := List.mem_map.1 (hp.mem_iff.1 hpE)
  exact hid x hx e
theorem Rg.at2 (r : Rg B c h b m1 m2 last L) : ∃ E, Mp .string St h m2 E ∧ E.Perm (L.map fun e => (keyB e.t e.o, In e.id)) ∧ (∀ e ∈ L, alook E (keyB e.t e.o) = some (In e.id)) ∧ (∀ t o, (∀ e ∈ L, ¬ (e.t = t ∧ e.o = o)) → alook E (keyS_ t o) = none) := by
  obtain ⟨E, hm, hp⟩ := r.mp2
  have hn : (E.map (·.1)).Nodup := (hp.map _).nodup_iff.2 r.nd2
  refine ⟨E, hm, hp, fun e he => alook_in hn (hp.mem_iff.2 (List.mem_map.2 ⟨e, he, rfl⟩)), fun t o ho => alook_out fun p hpE e => ?_⟩
  obtain ⟨x, hx, rfl⟩ := List.mem_map.1 (hp.mem_iff.1 hpE)
  have hk : keyS_ x.t x.o = keyB x.t x.o := if_pos (r.fair x hx)
  have := (keyS_inj (r.fair x hx)).1 ((show keyS_ t o = keyS_ x.t x.o from e.symm.trans hk.symm))
  exact ho x hx ⟨this.1.symm, this.2.symm⟩
theorem Rg.lt (r : Rg B c h b m1 m2 last L) : b < h.size ∧ m1 < h.size ∧ m2 < h.size ∧ (∀ e ∈ L, e.p < h.size) ∧ ∀ e ∈ L, ∀ q, e.v.ownBlock = some q → q < h.size := by
  obtain ⟨E, hm, _⟩ := r.mp1
  obtain ⟨E2, hm2, _⟩ := r.mp2
  exact ⟨lt_of_some r.blk, hm.lt, hm2.lt, fun e he => lt_of_some (r.recs e he), fun e he q hq => (r.oid e he).lt hq⟩
theorem Rg.ext {S : Nat → Prop} (r : Rg B c h b m1 m2 last L) (a : Ext S h h') (h0 : ¬ S b) (h1 : ¬ S m1) (h2 : ¬ S m2) (h3 : ∀ e ∈ L, ¬ S e.p ∧ ∀ q, e.v.ownBlock = some q → ¬ S q) : Rg B c h' b m1 m2 last L := by
  obtain ⟨E, hm, hp⟩ := r.mp1
  obtain ⟨E2, hm2, hp2⟩ := r.mp2
  exact ⟨a.obj r.blk h0, ⟨E, hm.ext a h1, hp⟩, ⟨E2, hm2.ext a h2, hp2⟩, fun e he => a.obj (r.recs e he) (h3 e he).1, fun e he => (r.oid e he).ext a (h3 e he).2, r.fair, r.rf1, r.rise, r.top, r.keys, r.ptrs, r.lo, r.ne, r.bd⟩
theorem Rg.ext0 (r : Rg B c h b m1 m2 last L) (a : Ext No h h') : Rg B c h' b m1 m2 last L := r.ext a nos nos nos fun _ _ => ⟨nos, fun _ _ => nos⟩
/-- No block of it is another one's. -/
theorem Rg.sep (r : Rg B c h b m1 m2 last L) : b ≠ m1 ∧ b ≠ m2 ∧ (L ≠ [] → m1 ≠ m2) ∧ ∀ e ∈ L, e.p ≠ b ∧ e.p ≠ m1 ∧ e.p ≠ m2 ∧ (∀ q, e.v.ownBlock = some q → q ≠ b ∧ q ≠ m1 ∧ q ≠ m2 ∧ ∀ x ∈ L, q ≠ x.p) := by
  obtain ⟨E, ⟨_, _, hm, _⟩, _⟩ := id r.mp1
  obtain ⟨E2, ⟨_, _, hm2, _⟩, _⟩ := id r.mp2
  have kind : ∀ {x y : Nat} {cs : Array Value} {T : TypeId} {z} {es ck}, h[x]? = some (.cells cs T z) → h[y]? = some (.map es ck) → x ≠ y := fun h1 h2 e => by rw [e, h2] at h1; cases h1
  have kind2 : ∀ {x y : Nat} {cs cs' : Array Value} {T T' : TypeId} {z z'}, T ≠ T' → h[x]? = some (.cells cs T z) → h[y]? = some (.cells cs' T' z') → x ≠ y := fun ht h1 h2 e => by
    rw [e, h2] at h1
    simp only [Option.some.injEq, Obj.cells.injEq] at h1
    exact ht h1.2.1.symm
  refine ⟨kind r.blk hm, kind r.blk hm2, fun hne e => ?_, fun e he => ⟨kind2 (by decide) (r.recs e he) r.blk, kind (r.recs e he) hm, kind (r.recs e he) hm2, fun q hq => ?_⟩⟩
  · obtain ⟨x, hx⟩ := List.exists_mem_of_ne_nil L hne
    obtain ⟨E, hm, _, ha, _⟩ := r.at1
    obtain ⟨E2, hm2, _, hb, _⟩ := r.at2
    subst e
    obtain ⟨arr, ck, e1, _, e2⟩ := hm
    obtain ⟨arr2, ck2, e3, _, e4⟩ := hm2
    rw [e1] at e3
    simp only [Option.some.injEq, Obj.map.injEq] at e3
    obtain ⟨rfl, rfl⟩ := e3
    rw [e2] at e4
    have hx1 := ha x hx
    unfold alook at hx1
    obtain ⟨p, hp, _⟩ := Option.map_eq_some_iff.1 hx1
    have hpm := List.mem_of_find?_eq_some hp
    have : (In p.1, p.2) ∈ E.map fun p => (In p.1, p.2) := List.mem_map.2 ⟨p, hpm, rfl⟩
    rw [e4] at this
    obtain ⟨q, _, hq⟩ := List.mem_map.1 this
    simp only [Prod.mk.injEq] at hq
    cases hq.1
  · obtain ⟨_, ⟨e1, _⟩ | ⟨g, cap, cur, e1, hg, _⟩⟩ := r.oid e he
    · rw [e1] at hq; cases hq
    · rw [e1] at hq
      have e2 : g = q := by simpa [Value.ownBlock] using hq
      subst e2
      exact ⟨kind2 (by decide) hg r.blk, kind hg hm, kind hg hm2, fun x hx => kind2 (by decide) hg (r.recs x hx)⟩
set_option maxHeartbeats 2000000 in
set_option maxRecDepth 100000 in
theorem rg_ready (r : Rg B c h b m1 m2 last L) : CallsH Tryz.prog 45 ⟨[ptE b]⟩ h fun u h' => u = .bool true ∧ h' = h := by
  have hb := r.blk
  unfold ptE
  refine calls [(0, _)] Tryz.func45 rfl Tryz.ntmps45 rfl ⟨rfl, trivial⟩ ?_
  all_goals (refine WC.sr ?_; refine Go ?_; refine WC.sr ?_; refine Go ?_; refine WL.step (ok_neqPn Tryz.underlying28 rfl rfl) rfl rfl rfl ?_; refine Go ?_; refine goP 5 ?_ TT.mk; refine Gg ?_; refine WL.step (ok_nilCheck rfl) rfl rfl rfl ?_; refine Gg ?_; refine Ld ?_; refine WL.step (ok_neqMn Tryz.underlying102 rfl rfl) rfl rfl rfl ?_; refine Go ?_; refine Gs [(2, _)] ?_; refine Gt ?_; exact ⟨rfl, rfl⟩)
set_option maxHeartbeats 2000000 in
set_option maxRecDepth 100000 in
theorem rg_len (r : Rg B c h b m1 m2 last L) : CallsH Tryz.prog 17 ⟨[ptE b]⟩ h fun u h' => u = In (L.length : Int) ∧ h' = h := by
  have hb := r.blk
  have k := rg_ready r
  obtain ⟨E, hm, hp⟩ := r.mp1
  have hl : E.length = L.length := by rw [hp.length_eq, List.length_map]
  unfold ptE at *
  rw [← hl]
  refine calls [(0, _)] Tryz.func17 rfl Tryz.ntmps17 rfl ⟨rfl, trivial⟩ ?_
  all_goals (refine WC.sr ?_; refine Go ?_; refine WC.seq ?_; refine WC.sr ?_; refine Go ?_; refine WL.call (vs := [_]) rfl (fun a w => Tryz.call45 a w) rfl (k) rfl rfl rfl ?_; rintro _ hz ⟨rfl, _⟩; subst hz; refine Go ?_; refine goC 1 2 ?_ TT.mk; refine goB 2 ?_; refine WC.skip ?_; refine Gn ?_; refine Gs [(0, _)] ?_; refine WC.sr ?_; refine Go ?_; refine WL.step (ok_nilCheck rfl) rfl rfl rfl ?_; refine Go ?_; refine Ld ?_; refine WL.step (ok_lenM rfl Tryz.underlying102 rfl (by assumption)) rfl rfl rfl ?_; refine Go ?_; refine Gs [(2, _)] ?_; refine Gt ?_; exact ⟨rfl, rfl⟩)
set_option maxHeartbeats 2000000 in
set_option maxRecDepth 100000 in
theorem rg_of (r : Rg B c h b m1 m2 last L) {e : Rn} (he : e ∈ L) : CallsH Tryz.prog 43 ⟨[ptE b, In e.id]⟩ h fun u h' => u = .tuple ⟨[ptE e.p, .bool true]⟩ ∧ h' = h := by
  have hb := r.blk
  have k := rg_ready r
  obtain ⟨E, hm, hp, ha, _⟩ := r.at1
  have hv := ha e he
  unfold ptE at *
  refine calls [(0, _), (1, _)] Tryz.func43 rfl Tryz.ntmps43 rfl ⟨rfl, rfl, trivial⟩ ?_
  all_goals (refine WC.sr ?_; refine Go ?_; refine WC.seq ?_; refine WC.sr ?_; refine Go ?_; refine WL.call (vs := [_]) rfl (fun a w => Tryz.call45 a w) rfl (k) rfl rfl rfl ?_; rintro _ hz ⟨rfl, _⟩; subst hz; refine Go ?_; refine Gs [(0, _), (1, _), (10, _)] ?_; refine goC 1 2 ?_ TT.mk; refine goB 2 ?_; refine WC.skip ?_; refine Gn ?_; refine WC.sr ?_; refine Go ?_; refine WL.step (ok_nilCheck rfl) rfl rfl rfl ?_; refine Go ?_; refine Ld ?_; refine Go ?_; refine WL.step ((ok_lookup keyI Tryz.underlying102 Tryz.underlying3 rfl rfl (by assumption) (by assumption)).1) rfl rfl rfl ?_; refine Go ?_; refine Gs [(6, _), (7, _)] ?_; refine WC.sr ?_; refine Go ?_; refine Gs [(4, _), (5, _)] ?_; refine Gt ?_; exact ⟨rfl, rfl⟩)
set_option maxHeartbeats 2000000 in
set_option maxRecDepth 100000 in
theorem rg_of_no (r : Rg B c h b m1 m2 last L) {id : Int} (hid : ∀ e ∈ L, e.id ≠ id) : CallsH Tryz.prog 43 ⟨[ptE b, In id]⟩ h fun u h' => u = .tuple ⟨[.pointer none, .bool false]⟩ ∧ h' = h := by
  have hb := r.blk
  have k := rg_ready r
  obtain ⟨E, hm, hp, _, ha⟩ := r.at1
  have hv := ha id hid
  unfold ptE at *
  refine calls [(0, _), (1, _)] Tryz.func43 rfl Tryz.ntmps43 rfl ⟨rfl, rfl, trivial⟩ ?_
  all_goals (refine WC.sr ?_; refine Go ?_; refine WC.seq ?_; refine WC.sr ?_; refine Go ?_; refine WL.call (vs := [_]) rfl (fun a w => Tryz.call45 a w) rfl (k) rfl rfl rfl ?_; rintro _ hz ⟨rfl, _⟩; subst hz; refine Go ?_; refine Gs [(0, _), (1, _), (10, _)] ?_; refine goC 1 2 ?_ TT.mk; refine goB 2 ?_; refine WC.skip ?_; refine Gn ?_; refine WC.sr ?_; refine Go ?_; refine WL.step (ok_nilCheck rfl) rfl rfl rfl ?_; refine Go ?_; refine Ld ?_; refine Go ?_; refine WL.step ((ok_lookup_no keyI Tryz.underlying102 Tryz.underlying3 (fun w => Tryz.zeroValue95 w) rfl rfl (by assumption) (by assumption)).1) rfl rfl rfl ?_; refine Go ?_; refine Gs [(6, _), (7, _)] ?_; refine WC.sr ?_; refine Go ?_; refine Gs [(4, _), (5, _)] ?_; refine Gt ?_; exact ⟨rfl, rfl⟩)
set_option maxHeartbeats 2000000 in
set_option maxRecDepth 100000 in
theorem rg_refs (r : Rg B c h b m1 m2 last L) {e : Rn} (he : e ∈ L) : CallsH Tryz.prog 15 ⟨[ptE b, In e.id]⟩ h fun u h' => u = In e.rf ∧ h' = h := by
  have k := rg_of r he
  have hr := r.recs e he
  unfold ptE at *
  refine calls [(0, _), (1, _)] Tryz.func15 rfl Tryz.ntmps15 rfl ⟨rfl, rfl, trivial⟩ ?_
  all_goals (refine WC.sr ?_; refine Go ?_; refine WC.sr ?_; refine Go ?_; refine WL.call (vs := [_, _]) rfl (fun a w => Tryz.call43 a w) rfl (k) rfl rfl rfl ?_; rintro _ hz ⟨rfl, _⟩; subst hz; refine Go ?_; refine Gs [(5, _), (6, _)] ?_; refine WC.seq ?_; refine WC.sr ?_; refine Go ?_; refine goC 1 2 ?_ TT.mk; refine goB 2 ?_; refine WC.skip ?_; refine Gn ?_; refine WC.sr ?_; refine Go ?_; refine WL.step (ok_nilCheck rfl) rfl rfl rfl ?_; refine Go ?_; refine Ld ?_; refine Go ?_; refine Gs [(4, _)] ?_; refine Gt ?_; exact ⟨rfl, rfl⟩)
set_option maxHeartbeats 2000000 in
set_option maxRecDepth 100000 in
theorem rg_refs_no (r : Rg B c h b m1 m2 last L) {id : Int} (hid : ∀ e ∈ L, e.id ≠ id) : CallsH Tryz.prog 15 ⟨[ptE b, In id]⟩ h fun u h' => u = In 0 ∧ h' = h := by
  have k := rg_of_no r hid
  unfold ptE at *
  refine calls [(0, _), (1, _)] Tryz.func15 rfl Tryz.ntmps15 rfl ⟨rfl, rfl, trivial⟩ ?_
  all_goals (refine WC.sr ?_; refine Go ?_; refine WC.sr ?_; refine Go ?_; refine WL.call (vs := [_, _]) rfl (fun a w => Tryz.call43 a w) rfl (k) rfl rfl rfl ?_; rintro _ hz ⟨rfl, _⟩; subst hz; refine Go ?_; refine Gs [(5, _), (6, _)] ?_; refine WC.seq ?_; refine WC.sr ?_; refine Go ?_; refine goC 1 2 ?_ TT.mk; refine goB 1 ?_; refine WC.sr ?_; refine Go ?_; refine Gs [(4, _)] ?_; refine Gt ?_; exact ⟨rfl, rfl⟩)
set_option maxHeartbeats 2000000 in
set_option maxRecDepth 100000 in
theorem rg_get (r : Rg B c h b m1 m2 last L) {e : Rn} (he : e ∈ L) : CallsH Tryz.prog 92 ⟨[ptE b, In e.id]⟩ h fun u h' => ∃ v', u = .tuple ⟨[.agg ⟨[St e.t, v']⟩, .bool true]⟩ ∧ Own h' v' 3 1 e.o.length (ints e.o) ∧ Ext No h h' ∧ ∀ q, v'.ownBlock = some q → h.size ≤ q := by
  have k := fun h' (hx : Ext No h h') => rg_of (r.ext0 hx) he
  have hr := r.recs e he
  have ho := (r.oid e he).rd
  have hol := (fairS_yes (r.fair e he)).2.1
  obtain ⟨A, cc, ev, _⟩ := id ho
  rw [ev] at hr ho
  have kc := fun h' (hx : Ext No h h') => clone_int e.o (ho.ext0 hx) (by omega)
  unfold ptE at *
  refine calls [(0, _), (1, _)] Tryz.func92 rfl Tryz.ntmps92 rfl ⟨rfl, rfl, trivial⟩ ?_
  all_goals (refine WC.sr ?_; refine WL.stepR (okE_alloc (fun w => Tryz.zeroValue63 w)) rfl rfl rfl ?_; rintro _ h1 ⟨b1, rfl, hg1, hb1, hx1⟩; refine Go ?_; refine WC.sr ?_; refine Go ?_; refine WL.call (vs := [_, _]) rfl (fun a w => Tryz.call43 a w) rfl (k _ hx1) rfl rfl rfl ?_; rintro _ hz ⟨rfl, _⟩; subst hz; refine Go ?_; refine Gs [(4, _), (6, _), (7, _)] ?_; refine WC.seq ?_; refine WC.sr ?_; refine Go ?_; refine goC 1 2 ?_ TT.mk; refine goB 2 ?_; refine WC.skip ?_; refine Gn ?_; refine WC.seq ?_; refine WC.drawH (fun h' => Ext No h1 h') 12 14 rfl fol ?_; refine WH.tk 0 rfl (fun hq hC => ok_move rfl) rfl rfl rfl ?_; refine WH.tk 1 rfl (fun hq hC => ok_nilCheck rfl) rfl rfl rfl ?_; refine WH.tk 2 rfl (fun hq hC => ok_fieldAddr rfl Tryz.underlying99 rfl (fun w => Tryz.sizeOf63 w)) rfl rfl rfl ?_; refine WH.tk 3 rfl (fun hq hC => ok_fieldAddr rfl Tryz.underlying63 rfl (fun w => Tryz.sizeOf9 w)) rfl rfl rfl ?_; refine WH.tk 4 rfl (fun hq hC => ok_load (fun w => Tryz.isAgg9 w) rfl (by first | exact hC.cell (by first | exact cell_blk (hx1.obj hr nos) rfl | assumption | exact cell_blk (by assumption) rfl) nos)) rfl rfl rfl ?_; refine WH.tk 5 rfl (fun hq hC => ok_move rfl) rfl rfl rfl ?_; refine WH.tk 6 rfl (fun hq hC => ok_nilCheck rfl) rfl rfl rfl ?_; refine WH.tk 7 rfl (fun hq hC => ok_fieldAddr rfl Tryz.underlying99 rfl (fun w => Tryz.sizeOf63 w)) rfl rfl rfl ?_; refine WH.tk 8 rfl (fun hq hC => ok_fieldAddr rfl Tryz.underlying63 rfl (fun w => Tryz.sizeOf24 w)) rfl rfl rfl ?_; refine WH.tk 9 rfl (fun hq hC => ok_load (fun w => Tryz.isAgg24 w) rfl (by first | exact hC.cell (by first | exact cell_blk (hx1.obj hr nos) rfl | assumption | exact cell_blk (by assumption) rfl) nos)) rfl rfl rfl ?_; refine WH.one 10 (by kernel_rfl) ?_; refine Comes1.call (vs := [_]) rfl rfl (fun a w => Tryz.call27 a w) rfl (kc _ hx1) rfl rfl rfl ?_ (fun _ => by kernel_rfl); rintro v2 h2 ⟨ho2, hx2, hf2⟩; refine ⟨fun _ => hx2, ?_⟩; have hb12 := hx2.obj hb1 nos; obtain ⟨A2, c2, rfl, _⟩ := ho2.slice; refine WH.tk 11 rfl (fun hq hC => ok_buildF (vs := [_, _]) (cs := [_, _]) (fun | [a0, a1] => [a0, a1] | _ => []) rfl rfl (by kernel_rfl)) rfl rfl rfl ?_; refine WH.one 12 (by kernel_rfl) ?_; refine Comes1.run0 rfl (okE_storeW (fun w => Tryz.sizeOf63 w) rfl rfl rfl hb12 rfl (by simp [Value.oneCell'])) rfl rfl ?_ (fun _ => by kernel_rfl); rintro _ h3 ⟨hb3, hx3⟩; refine ⟨fun e => (by cases e), ?_⟩; refine WH.one 13 (by kernel_rfl) ?_; refine Comes1.run rfl (OkP.r (ok_assign rfl)) rfl rfl rfl ?_ (fun _ => by kernel_rfl); rintro _ hz ⟨rfl, _⟩; subst hz; refine ⟨fun e => (by cases e), ?_⟩; refine WH.done (by kernel_rfl) ?_; refine Gn ?_; refine Gs [(4, _), (5, _)] ?_; refine WC.ret ?_; repeat' (with_reducible first | refine thenP_r ?_ | refine blockP_r ?_))
  all_goals (refine retP_2 _ _ ⟨⟨_, rfl, ld_blk (fun w => Tryz.isAgg63 w) (fun w => Tryz.sizeOf63 w) hb3 rfl⟩, rfl, trivial⟩ ?_; exact ⟨_, rfl, ho2.ext hx3 (fun q hq e => by have := hf2 q hq; have := lt_of_some hb1; omega), (hx1.trans hx2).trans' hx3 (fun q hq e => by omega), fun q hq => by have := hf2 q hq; have := hx1.size; omega⟩)
set_option maxHeartbeats 2000000 in
set_option maxRecDepth 100000 in
theorem rg_get_no (r : Rg B c h b m1 m2 last L) {id : Int} (hid : ∀ e ∈ L, e.id ≠ id) : CallsH Tryz.prog 92 ⟨[ptE b, In id]⟩ h fun u h' => u = .tuple ⟨[.agg ⟨[St [], .slice none 0 0]⟩, .bool false]⟩ ∧ Ext No h h' := by
  have k := fun h' (hx : Ext No h h') => rg_of_no (r.ext0 hx) hid
  unfold ptE at *
  refine calls [(0, _), (1, _)] Tryz.func92 rfl Tryz.ntmps92 rfl ⟨rfl, rfl, trivial⟩ ?_
  all_goals (refine WC.sr ?_; refine WL.stepR (okE_alloc (fun w => Tryz.zeroValue63 w)) rfl rfl rfl ?_; rintro _ h1 ⟨b1, rfl, hg1, hb1, hx1⟩; refine Go ?_; refine WC.sr ?_; refine Go ?_; refine WL.call (vs := [_, _]) rfl (fun a w => Tryz.call43 a w) rfl (k _ hx1) rfl rfl rfl ?_; rintro _ hz ⟨rfl, _⟩; subst hz; refine Go ?_; refine Gs [(4, _), (6, _), (7, _)] ?_; refine WC.seq ?_; refine WC.sr ?_; refine Go ?_; refine goC 1 2 ?_ TT.mk; refine goB 1 ?_; refine WC.sr ?_; refine WL.step (ok_buildF (vs := []) (cs := [_, _]) (fun | [] => [(St []), (.slice none 0 0)] | _ => []) rfl rfl (by kernel_rfl)) rfl rfl rfl ?_; refine WL.stepR0 (okE_storeW (fun w => Tryz.sizeOf63 w) rfl rfl rfl hb1 rfl (by simp [Value.oneCell'])) rfl rfl ?_; rintro _ h3 ⟨hb3, hx3⟩; refine Go ?_; refine Gs [(4, _), (5, _)] ?_; refine WC.ret ?_; repeat' (with_reducible first | refine thenP_r ?_ | refine blockP_r ?_))
  all_goals (refine retP_2 _ _ ⟨⟨_, rfl, ld_blk (fun w => Tryz.isAgg63 w) (fun w => Tryz.sizeOf63 w) hb3 rfl⟩, rfl, trivial⟩ ?_; exact ⟨rfl, hx1.trans' hx3 (fun q hq e => by omega)⟩)
end
end Go.Proofs.YtggmocdbfbhklaaGreat


/-
  REGISTRY (layer 14): New, Ref, Put, Drop.
-/
namespace Go.Proofs.YtggmocdbfbhklaaGreat
open Go Go.RK

section
variable {B : Nat} {c : Int} {h h' : Heap} {b m1 m2 : Nat} {last : Int} {L L1 L2 : List Rn} {e : Rn}
set_option maxHeartbeats 2000000 in
set_option maxRecDepth 100000 in
theorem rg_new (B : Nat) {h : Heap} (hB : B ≤ h.size) : CallsH Tryz.prog 18 ⟨[]⟩ h fun u h' => ∃ b m1 m2, u = ptE b ∧ Rg B 0 h' b m1 m2 0 [] ∧ Ext No h h' := by
  unfold ptE
  refine calls [] Tryz.func18 rfl Tryz.ntmps18 rfl trivial ?_
  all_goals (refine WC.sr ?_; refine Go ?_; refine WC.sr ?_; refine WL.stepR okE_makeMap rfl rfl rfl ?_; rintro _ h1 ⟨b1, rfl, hg1, hb1, hx1⟩; refine WL.stepR okE_makeMap rfl rfl rfl ?_; rintro _ h2 ⟨b2, rfl, hg2, hb2, hx2⟩; refine WL.step (ok_buildF (vs := [_, _]) (cs := [_, _, _]) (fun | [a0, a1] => [a0, a1, (.int .i64 0)] | _ => []) rfl rfl (by kernel_rfl)) rfl rfl rfl ?_; refine WL.stepR (okE_box rfl) rfl rfl rfl ?_; rintro _ h3 ⟨b3, rfl, hg3, hb3, hx3⟩; refine Go ?_; refine Gs [(0, _)] ?_; refine Gt ?_)
  all_goals (refine ⟨b3, b1, b2, rfl, ⟨hb3, ⟨[], ⟨_, _, (hx2.trans hx3).obj hb1 nos, MapKept.stamped_empty 0, rfl⟩, .refl _⟩, ⟨[], ⟨_, _, hx3.obj hb2 nos, MapKept.stamped_empty 0, rfl⟩, .refl _⟩, ?_, ?_, ?_, ?_, .nil, ?_, .nil, .nil, ?_, ?_, ?_⟩, (hx1.trans hx2).trans hx3⟩
             any_goals (intro e he; cases he)
             · have := hx1.size; have := hx2.size; exact ⟨by omega, by omega, by omega, fun e he => by cases he⟩
             · have := lt_of_some hb1; omega
             · simp)
theorem mid_cases {x e' : Rn} (r : Rg B c h b m1 m2 last (L1 ++ e :: L2)) (hx : x ∈ L1 ++ e' :: L2) : x = e' ∨ (x ∈ L1 ++ e :: L2 ∧ x.p ≠ e.p) := by
  have hp := r.ptrs
  simp only [List.pairwise_append, List.pairwise_cons, List.mem_cons, forall_eq_or_imp] at hp
  rcases List.mem_append.1 hx with hx | hx
  · exact .inr ⟨by simp [hx], (hp.2.2 x hx).1⟩
  · rcases List.mem_cons.1 hx with hx | hx
    · exact .inl hx
    · exact .inr ⟨by simp [hx], fun e2 => hp.2.1.1 x hx e2.symm⟩
theorem Rg.up (r : Rg B c h b m1 m2 last L) {c' : Int} (h1 : c ≤ c') (h2 : c' ≤ 1000000) : Rg B c' h b m1 m2 last L := by
  have := r.bd
  exact ⟨r.blk, r.mp1, r.mp2, r.recs, r.oid, r.fair, fun e he => by have := r.rf1 e he; omega, r.rise, r.top, r.keys, r.ptrs, r.lo, r.ne, by omega⟩
/-- Its count is another one. -/
theorem Rg.bump (r : Rg B c h b m1 m2 last (L1 ++ e :: L2)) {n : Int} (hn : 1 ≤ n ∧ n ≤ c + 1) (a : Ext (fun q => q = e.p) h h') (hp : h'[e.p]? = some (.cells ⟨[St e.t, e.v, In n]⟩ 99 (0, 0))) (hc : c + 1 ≤ 1000000) : Rg B (c + 1) h' b m1 m2 last (L1 ++ { e with rf := n } :: L2) := by
  have he : e ∈ L1 ++ e :: L2 := by simp
  obtain ⟨s1, s2, _, s4⟩ := r.sep
  obtain ⟨t1, t2, t3, t4⟩ := s4 e he
  obtain ⟨E, hm, hq⟩ := r.mp1
  obtain ⟨E2, hm2, hq2⟩ := r.mp2
  have := r.bd
  have hbk := r.lo
  refine ⟨a.obj r.blk (fun q => t1 q.symm), ⟨E, hm.ext a (fun q => t2 q.symm), by simpa using hq⟩, ⟨E2, hm2.ext a (fun q => t3 q.symm), by simpa using hq2⟩, fun x hx => ?_, fun x hx => ?_, fun x hx => ?_, fun x hx => ?_, by simpa [List.pairwise_append, List.pairwise_cons] using r.rise, fun x hx => ?_, by simpa [List.pairwise_append, List.pairwise_cons] using r.keys, by simpa [List.pairwise_append, List.pairwise_cons] using r.ptrs, ⟨hbk.1, hbk.2.1, hbk.2.2.1, fun x hx => ?_⟩, r.ne, ?_⟩
  · rcases mid_cases r hx with rfl | ⟨hx, hne⟩
    · exact hp
    · exact a.obj (r.recs x hx) hne
  · rcases mid_cases r hx with rfl | ⟨hx, hne⟩
    · exact (r.oid e he).ext a (fun q hq => (t4 q hq).2.2.2 e he)
    · exact (r.oid x hx).ext a (fun q hq => ((s4 x hx).2.2.2 q hq).2.2.2 e he)
  · rcases mid_cases r hx with rfl | ⟨hx, hne⟩
    · exact r.fair e he
    · exact r.fair x hx
  · rcases mid_cases r hx with rfl | ⟨hx, hne⟩
    · exact hn
    · have := r.rf1 x hx; omega
  · rcases mid_cases r hx with rfl | ⟨hx, hne⟩
    · exact r.top e he
    · exact r.top x hx
  · rcases mid_cases r hx with rfl | ⟨hx, hne⟩
    · exact hbk.2.2.2 e he
    · exact hbk.2.2.2 x hx
  · simp at this ⊢; omega
set_option maxHeartbeats 2000000 in
set_option maxRecDepth 100000 in
theorem rg_ref (r : Rg B c h b m1 m2 last (L1 ++ e :: L2)) (hc : c + 1 ≤ 1000000) : CallsH Tryz.prog 87 ⟨[ptE b, In e.id]⟩ h fun u h' => u = .bool true ∧ Rg B (c + 1) h' b m1 m2 last (L1 ++ { e with rf := e.rf + 1 } :: L2) ∧ Ext (fun q => q = e.p) h h' := by
  have he : e ∈ L1 ++ e :: L2 := by simp
  have k := rg_of r he
  have hr := r.recs e he
  have hrf := r.rf1 e he
  unfold ptE at *
  refine calls [(0, _), (1, _)] Tryz.func87 rfl Tryz.ntmps87 rfl ⟨rfl, rfl, trivial⟩ ?_
  all_goals (refine WC.sr ?_; refine Go ?_; refine WC.sr ?_; refine Go ?_; refine WL.call (vs := [_, _]) rfl (fun a w => Tryz.call43 a w) rfl (k) rfl rfl rfl ?_; rintro _ hz ⟨rfl, _⟩; subst hz; refine Go ?_; refine Gs [(5, _), (6, _)] ?_; refine WC.seq ?_; refine WC.sr ?_; refine Go ?_; refine goC 1 2 ?_ TT.mk; refine goB 1 ?_; refine WC.region ?_; refine Go ?_; refine WL.step (ok_nilCheck rfl) rfl rfl rfl ?_; refine Go ?_; refine Ld ?_; refine Go ?_; refine WL.step (ok_nilCheck rfl) rfl rfl rfl ?_; refine Go ?_; refine WL.stepR0 (okE_store (fun w => Tryz.sizeOf3 w) rfl rfl (by assumption) (Nat.le_of_ble_eq_true rfl) rfl rfl) rfl rfl ?_; rintro _ h1 ⟨hb1, hx1⟩; refine Gn ?_; refine Gn ?_; refine WC.sr ?_; refine Go ?_; refine Gs [(4, _)] ?_; refine Gt ?_; exact ⟨rfl, r.bump (by omega) hx1 hb1 hc, hx1⟩)
set_option maxHeartbeats 2000000 in
set_option maxRecDepth 100000 in
theorem rg_ref_no (r : Rg B c h b m1 m2 last L) {id : Int} (hid : ∀ e ∈ L, e.id ≠ id) : CallsH Tryz.prog 87 ⟨[ptE b, In id]⟩ h fun u h' => u = .bool false ∧ h' = h := by
  have k := rg_of_no r hid
  unfold ptE at *
  refine calls [(0, _), (1, _)] Tryz.func87 rfl Tryz.ntmps87 rfl ⟨rfl, rfl, trivial⟩ ?_
  all_goals (refine WC.sr ?_; refine Go ?_; refine WC.sr ?_; refine Go ?_; refine WL.call (vs := [_, _]) rfl (fun a w => Tryz.call43 a w) rfl (k) rfl rfl rfl ?_; rintro _ hz ⟨rfl, _⟩; subst hz; refine Go ?_; refine Gs [(5, _), (6, _)] ?_; refine WC.seq ?_; refine WC.sr ?_; refine Go ?_; refine goC 1 2 ?_ TT.mk; refine goB 2 ?_; refine WC.skip ?_; refine Gn ?_; refine WC.sr ?_; refine Go ?_; refine Gs [(4, _)] ?_; refine Gt ?_; exact ⟨rfl, rfl⟩)
/-- The last one that refers to it is gone. -/
theorem Rg.out (r : Rg B c h b m1 m2 last (L1 ++ e :: L2)) (a : Ext (fun q => q = e.p ∨ q = m1 ∨ q = m2) h h') {E : List (Int × Value)} {E2 : List (List UInt8 × Value)} (hp : E.Perm ((L1 ++ e :: L2).map fun e => (e.id, ptE e.p))) (hp2 : E2.Perm ((L1 ++ e :: L2).map fun e => (keyB e.t e.o, In e.id))) (hm : Mp (.int .i64) In h' m1 (adel E e.id)) (hm2 : Mp .string St h' m2 (adel E2 (keyB e.t e.o))) : Rg B c h' b m1 m2 last (L1 ++ L2) := by
  have he : e ∈ L1 ++ e :: L2 := by simp
  have sub : ∀ {x}, x ∈ L1 ++ L2 → x ∈ L1 ++ e :: L2 := fun {x} hx => by rcases List.mem_append.1 hx with hx | hx <;> simp [hx]
  obtain ⟨s1, s2, _, s4⟩ := r.sep
  have hsl : (L1 ++ L2).Sublist (L1 ++ e :: L2) := (List.Sublist.refl L1).append (List.sublist_cons_self e L2)
  have ri := r.rise
  have ky := r.keys
  have pt := r.ptrs
  simp only [List.pairwise_append, List.pairwise_cons, List.mem_cons, forall_eq_or_imp] at ri ky pt
  have nid : ∀ x ∈ L1 ++ L2, x.id ≠ e.id := fun x hx => by
    rcases List.mem_append.1 hx with hx | hx
    · have := (ri.2.2 x hx).1; omega
    · have := ri.2.1.1 x hx; omega
  have nky : ∀ x ∈ L1 ++ L2, keyB x.t x.o ≠ keyB e.t e.o := fun x hx q => by
    have q2 := keyB_inj (r.fair x (sub hx)) (r.fair e he) q
    rcases List.mem_append.1 hx with hx | hx
    · exact (ky.2.2 x hx).1 q2
    · exact ky.2.1.1 x hx ⟨q2.1.symm, q2.2.symm⟩
  have npt : ∀ x ∈ L1 ++ L2, x.p ≠ e.p := fun x hx => by
    rcases List.mem_append.1 hx with hx | hx
    · exact (pt.2.2 x hx).1
    · exact fun q => pt.2.1.1 x hx q.symm
  have := r.bd
  have hbk := r.lo
  refine ⟨a.obj r.blk (fun q => by rcases q with q | q | q; exact (s4 e he).1 q.symm; exact s1 q; exact s2 q), ⟨_, hm, ?_⟩, ⟨_, hm2, ?_⟩, fun x hx => a.obj (r.recs x (sub hx)) (fun q => by rcases q with q | q | q; exact npt x hx q; exact (s4 x (sub hx)).2.1 q; exact (s4 x (sub hx)).2.2.1 q), fun x hx => (r.oid x (sub hx)).ext a (fun q hq z => by have := (s4 x (sub hx)).2.2.2 q hq; rcases z with z | z | z; exact this.2.2.2 e he z; exact this.2.1 z; exact this.2.2.1 z), fun x hx => r.fair x (sub hx), fun x hx => r.rf1 x (sub hx), List.Pairwise.sublist hsl r.rise, fun x hx => r.top x (sub hx), List.Pairwise.sublist hsl r.keys, List.Pairwise.sublist hsl r.ptrs, ⟨hbk.1, hbk.2.1, hbk.2.2.1, fun x hx => hbk.2.2.2 x (sub hx)⟩, r.ne, ?_⟩
  · refine (hp.filter _).trans (.of_eq ?_)
    rw [List.map_append, List.map_cons, List.filter_append, List.filter_cons, if_neg (by simp), ← List.filter_append, ← List.map_append, List.filter_eq_self]
    intro y hy
    obtain ⟨x, hx, rfl⟩ := List.mem_map.1 hy
    exact decide_eq_true (nid x hx)
  · refine (hp2.filter _).trans (.of_eq ?_)
    rw [List.map_append, List.map_cons, List.filter_append, List.filter_cons, if_neg (by simp), ← List.filter_append, ← List.map_append, List.filter_eq_self]
    intro y hy
    obtain ⟨x, hx, rfl⟩ := List.mem_map.1 hy
    exact decide_eq_true (nky x hx)
  · simp at this ⊢; omega
end
end Go.Proofs.YtggmocdbfbhklaaGreat


/-
  REGISTRY (layer 14): Put.
-/
namespace Go.Proofs.YtggmocdbfbhklaaGreat
open Go Go.RK

section
variable {B : Nat} {c : Int} {h h' : Heap} {b m1 m2 : Nat} {last : Int} {L : List Rn}
theorem Rg.add {t : List UInt8} {o : List Int} {p : Nat} {v : Value} (r : Rg B c h b m1 m2 last L) (a : Ext (fun q => q = b ∨ q = m1 ∨ q = m2) h h')
    (hb : h'[b]? = some (.cells ⟨[.map (some m1), .map (some m2), In (last + 1)]⟩ 105 (0, 0)))
    {E : List (Int × Value)} {E2 : List (List UInt8 × Value)} (hp : E.Perm (L.map fun e => (e.id, ptE e.p))) (hp2 : E2.Perm (L.map fun e => (keyB e.t e.o, In e.id)))
    (he1 : alook E (last + 1) = none) (he2 : alook E2 (keyB t o) = none)
    (hm : Mp (.int .i64) In h' m1 (aput E (last + 1) (ptE p))) (hm2 : Mp .string St h' m2 (aput E2 (keyB t o) (In (last + 1))))
    (hr : h'[p]? = some (.cells ⟨[St t, v, In 1]⟩ 99 (0, 0))) (ho : Own h' v 3 1 o.length (ints o)) (hf : fairS t o = true) (hq : h.size ≤ p) (hv : ∀ q, v.ownBlock = some q → h.size ≤ q)
    (hno : ∀ e ∈ L, ¬ (e.t = t ∧ e.o = o)) (hc : c + 1 ≤ 1000000) : Rg B (c + 1) h' b m1 m2 (last + 1) (L ++ [⟨last + 1, 1, t, o, p, v⟩]) := by
  obtain ⟨s1, s2, _, s4⟩ := r.sep
  obtain ⟨l1, l2, l3, l4, l5⟩ := r.lt
  have bd := r.bd
  have lo := r.lo
  have cases_ : ∀ {x}, x ∈ L ++ [(⟨last + 1, 1, t, o, p, v⟩ : Rn)] → x ∈ L ∨ x = ⟨last + 1, 1, t, o, p, v⟩ := fun {x} hx => by simpa using hx
  have kr : ∀ {K : Rn → Rn → Prop}, L.Pairwise K → (∀ x ∈ L, K x ⟨last + 1, 1, t, o, p, v⟩) → (L ++ [(⟨last + 1, 1, t, o, p, v⟩ : Rn)]).Pairwise K := fun {K} h1 h2 => by
    rw [List.pairwise_append]
    exact ⟨h1, List.pairwise_singleton _ _, fun x hx y hy => by rw [List.mem_singleton.1 hy]; exact h2 x hx⟩
  refine ⟨hb, ⟨_, hm, ?_⟩, ⟨_, hm2, ?_⟩, fun x hx => ?_, fun x hx => ?_, fun x hx => ?_, fun x hx => ?_, kr r.rise (fun x hx => ?_), fun x hx => ?_, kr r.keys (fun x hx => hno x hx), kr r.ptrs (fun x hx => ?_), ⟨lo.1, lo.2.1, lo.2.2.1, fun x hx => ?_⟩, r.ne, ?_⟩
  · unfold aput
    rw [he1, List.map_append]
    exact hp.append_right _
  · unfold aput
    rw [he2, List.map_append]
    exact hp2.append_right _
  · rcases cases_ hx with hx | rfl
    · exact a.obj (r.recs x hx) (fun q => by have := s4 x hx; rcases q with q | q | q; exact this.1 q; exact this.2.1 q; exact this.2.2.1 q)
    · exact hr
  · rcases cases_ hx with hx | rfl
    · exact (r.oid x hx).ext a (fun q hq z => by have := (s4 x hx).2.2.2 q hq; rcases z with z | z | z; exact this.1 z; exact this.2.1 z; exact this.2.2.1 z)
    · exact ho
  · rcases cases_ hx with hx | rfl
    · exact r.fair x hx
    · exact hf
  · rcases cases_ hx with hx | rfl
    · have := r.rf1 x hx; omega
    · simp; omega
  · have := r.top x hx; simp; omega
  · rcases cases_ hx with hx | rfl
    · have := r.top x hx; omega
    · simp; omega
  · have := l4 x hx; simp; omega
  · rcases cases_ hx with hx | rfl
    · exact lo.2.2.2 x hx
    · exact ⟨by simp; omega, fun q hq => by have := hv q hq; omega⟩
  · simp; omega
set_option maxHeartbeats 2000000 in
set_option maxRecDepth 100000 in
theorem rg_put_zero (r : Rg B c h b m1 m2 last L) {t : List UInt8} {o : List Int} (hf : fairS t o = false) {v : Value} (hv : Rd h v 1 o.length (ints o)) (hol : o.length ≤ maxLen) :
    CallsH Tryz.prog 21 ⟨[ptE b, .agg ⟨[St t, v]⟩]⟩ h fun u h' => u = In 0 ∧ Ext No h h' := by
  have kr := fun h' (hx : Ext No h h') => rg_ready (r.ext0 hx)
  have ko := fun h' (hx : Ext No h h') => of_v t o (hv.ext0 hx) hol
  obtain ⟨A, cc, rfl, hzz⟩ := id hv
  clear hzz
  rw [show keyS_ t o = [] by unfold keyS_; rw [hf]; rfl] at ko
  unfold ptE at *
  refine calls [(0, _), (1, _)] Tryz.func21 rfl Tryz.ntmps21 rfl ⟨rfl, rfl, trivial⟩ ?_
  all_goals (refine WC.sr ?_; refine WL.stepR (okE_box rfl) rfl rfl rfl ?_; rintro _ h1 ⟨b1, rfl, hg1, hb1, hx1⟩; refine Go ?_; refine WC.sr ?_; refine WL.step (ok_loadN (fun w => Tryz.isAgg63 w) (fun w => Tryz.sizeOf63 w) rfl rfl (by exact At.of_block hb1)) rfl rfl rfl ?_; refine WL.call (vs := [_]) rfl (fun a w => Tryz.call46 a w) rfl (ko _ hx1) rfl rfl rfl ?_; rintro _ h2 ⟨rfl, hx2⟩; refine Go ?_; refine Gs [(0, _), (3, _), (5, _)] ?_; refine WC.seq ?_; refine WC.sr ?_; refine Go ?_; refine WL.call (vs := [_]) rfl (fun a w => Tryz.call45 a w) rfl (kr _ (hx1.trans hx2)) rfl rfl rfl ?_; rintro _ hz ⟨rfl, _⟩; subst hz; refine Go ?_; refine goP 14 ?_ TT.mk; refine Gg ?_; refine Go ?_; refine Gs [(0, _), (3, _), (5, _), (17, _)] ?_; refine goC 1 2 ?_ TT.mk; refine goB 1 ?_; refine WC.sr ?_; refine Go ?_; refine Gs [(4, _)] ?_; refine Gt ?_; exact ⟨rfl, hx1.trans hx2⟩)
set_option maxHeartbeats 2000000 in
set_option maxRecDepth 100000 in
theorem rg_put_old {L1 L2 : List Rn} {e : Rn} (r : Rg B c h b m1 m2 last (L1 ++ e :: L2)) {v : Value} (hv : Rd h v 1 e.o.length (ints e.o)) (hc : c + 1 ≤ 1000000) :
    CallsH Tryz.prog 21 ⟨[ptE b, .agg ⟨[St e.t, v]⟩]⟩ h fun u h' => u = In e.id ∧ Rg B (c + 1) h' b m1 m2 last (L1 ++ { e with rf := e.rf + 1 } :: L2) ∧ Ext (fun q => q = e.p) h h' := by
  have he : e ∈ L1 ++ e :: L2 := by simp
  have hfs := r.fair e he
  have hol : e.o.length ≤ maxLen := by have := (fairS_yes hfs).2.1; unfold maxLen; omega
  have kr := fun h' (hx : Ext No h h') => rg_ready (r.ext0 hx)
  have ko := fun h' (hx : Ext No h h') => of_v e.t e.o (hv.ext0 hx) hol
  have hr := r.recs e he
  have hrf := r.rf1 e he
  have hB0 := r.blk
  obtain ⟨A, cc, rfl, hzz⟩ := id hv
  clear hzz
  obtain ⟨E2, hm2, hp2, ha2, _⟩ := r.at2
  have hl2 := ha2 e he
  obtain ⟨E, hm, hp, ha, _⟩ := r.at1
  have hl := ha e he
  have hsz := r.lt.2.2.2.1 e he
  rw [show keyS_ e.t e.o = keyB e.t e.o from if_pos hfs] at ko
  unfold ptE at *
  refine calls [(0, _), (1, _)] Tryz.func21 rfl Tryz.ntmps21 rfl ⟨rfl, rfl, trivial⟩ ?_
  all_goals (refine WC.sr ?_; refine WL.stepR (okE_box rfl) rfl rfl rfl ?_; rintro _ h1 ⟨b1, rfl, hg1, hb1, hx1⟩; refine Go ?_; refine WC.sr ?_; refine WL.step (ok_loadN (fun w => Tryz.isAgg63 w) (fun w => Tryz.sizeOf63 w) rfl rfl (by exact At.of_block hb1)) rfl rfl rfl ?_; refine WL.call (vs := [_]) rfl (fun a w => Tryz.call46 a w) rfl (ko _ hx1) rfl rfl rfl ?_; rintro _ h2 ⟨rfl, hx2⟩; have hX2 := hx1.trans hx2; refine Go ?_; refine Gs [(0, _), (3, _), (5, _)] ?_; refine WC.seq ?_; refine WC.sr ?_; refine Go ?_; refine WL.call (vs := [_]) rfl (fun a w => Tryz.call45 a w) rfl (kr _ hX2) rfl rfl rfl ?_; rintro _ hz ⟨rfl, _⟩; subst hz; refine Go ?_; refine goP 14 ?_ TT.mk; refine Gg ?_; refine Go ?_; refine Gs [(0, _), (3, _), (5, _), (17, _)] ?_; refine goC 1 2 ?_ TT.mk; refine goB 2 ?_; refine WC.skip ?_; refine Gn ?_; refine WC.seq ?_; refine WC.sr ?_; refine Go ?_; refine WL.step (ok_nilCheck rfl) rfl rfl rfl ?_; refine Go ?_; refine WL.ld rfl (by first | exact cell_blk (hX2.obj hB0 nos) rfl | assumption | exact cell_blk (by assumption) rfl) rfl rfl rfl ?_; refine Go ?_; refine WL.step ((ok_lookup keyS Tryz.underlying103 Tryz.underlying9 rfl rfl (hm2.ext hX2 nos) hl2).1) rfl rfl rfl ?_; refine Go ?_; refine Gs [(0, _), (3, _), (5, _), (6, _), (7, _)] ?_; refine WC.sr ?_; refine Go ?_; refine goC 3 4 ?_ TT.mk; refine goB 3 ?_; refine WC.sr ?_; refine Go ?_; refine WL.step (ok_nilCheck rfl) rfl rfl rfl ?_; refine Go ?_; refine WL.ld rfl (by first | exact cell_blk (hX2.obj hB0 nos) rfl | assumption | exact cell_blk (by assumption) rfl) rfl rfl rfl ?_; refine Go ?_; refine WL.step ((ok_lookup keyI Tryz.underlying102 Tryz.underlying3 rfl rfl (hm.ext hX2 nos) hl).2) rfl rfl rfl ?_; refine WL.step (ok_nilCheck rfl) rfl rfl rfl ?_; refine Go ?_; refine WL.ld rfl (by first | exact cell_blk (hX2.obj hr nos) rfl | assumption | exact cell_blk (by assumption) rfl) rfl rfl rfl ?_; refine Go ?_; refine WL.step (ok_nilCheck rfl) rfl rfl rfl ?_; refine Go ?_; refine WL.stepR0 (okE_store (fun w => Tryz.sizeOf3 w) rfl rfl (hX2.obj hr nos) (Nat.le_of_ble_eq_true rfl) rfl rfl) rfl rfl ?_; rintro _ h3 ⟨hb3, hx3⟩; refine Gn ?_; refine Gs [(6, _)] ?_; refine WC.sr ?_; refine Go ?_; refine Gt ?_; first | exact absurd hb (keyB_ne _ _) | exact ⟨rfl, (r.ext0 hX2).bump (by omega) hx3 hb3 hc, (hX2.mono fun _ _ z => z.elim).trans hx3⟩)
set_option maxHeartbeats 4000000 in
set_option maxRecDepth 100000 in
theorem rg_put_newS (r : Rg B c h b m1 m2 last L) {t : List UInt8} {o : List Int} (hfs : fairS t o = true) (hno : ∀ e ∈ L, ¬ (e.t = t ∧ e.o = o)) {v : Value} (hvS : ∀ h', Ext (fun q => q = b ∨ q = m1 ∨ q = m2) h h' → Rd h' v 1 o.length (ints o)) (hc : c + 1 ≤ 1000000) :
    CallsH Tryz.prog 21 ⟨[ptE b, .agg ⟨[St t, v]⟩]⟩ h fun u h' => u = In (last + 1) ∧ (∃ p v', Rg B (c + 1) h' b m1 m2 (last + 1) (L ++ [⟨last + 1, 1, t, o, p, v'⟩])) ∧ Ext (fun q => q = b ∨ q = m1 ∨ q = m2) h h' := by
  have hlen := (fairS_yes hfs).2.1
  have hol : o.length ≤ maxLen := by unfold maxLen; omega
  have hv := hvS h (.refl _ _)
  have lo := r.lo
  have kr := fun h' (hx : Ext No h h') => rg_ready (r.ext0 hx)
  have ko := fun h' (hx : Ext No h h') => of_v t o (hv.ext0 hx) hol
  have hB0 := r.blk
  have bd := r.bd
  obtain ⟨l1, l2, l3, l4, l5⟩ := r.lt
  obtain ⟨s1, s2, _, s4⟩ := r.sep
  have s3 := r.ne
  obtain ⟨A, cc, rfl, hzz⟩ := id hv
  clear hzz
  obtain ⟨E2, hm2, hp2, _, ha2⟩ := r.at2
  have hl2 := ha2 t o hno
  obtain ⟨E, hm, hp, _, ha⟩ := r.at1
  have hl := ha (last + 1) (fun e he => by have := r.top e he; omega)
  rw [show keyS_ t o = keyB t o from if_pos hfs] at ko hl2
  unfold ptE at *
  refine calls [(0, _), (1, _)] Tryz.func21 rfl Tryz.ntmps21 rfl ⟨rfl, rfl, trivial⟩ ?_
  all_goals (refine WC.sr ?_; refine WL.stepR (okE_box rfl) rfl rfl rfl ?_; rintro _ h1 ⟨b1, rfl, hg1, hb1, hx1⟩; refine Go ?_; refine WC.sr ?_; refine WL.step (ok_loadN (fun w => Tryz.isAgg63 w) (fun w => Tryz.sizeOf63 w) rfl rfl (by exact At.of_block hb1)) rfl rfl rfl ?_; refine WL.call (vs := [_]) rfl (fun a w => Tryz.call46 a w) rfl (ko _ hx1) rfl rfl rfl ?_; rintro _ h2 ⟨rfl, hx2⟩; have hX2 := hx1.trans hx2; have hb12 := hx2.obj hb1 nos; have hsz2 := hX2.size; refine Go ?_; refine Gs [(0, _), (3, _), (5, _)] ?_; refine WC.seq ?_; refine WC.sr ?_; refine Go ?_; refine WL.call (vs := [_]) rfl (fun a w => Tryz.call45 a w) rfl (kr _ hX2) rfl rfl rfl ?_; rintro _ hz ⟨rfl, _⟩; subst hz; refine Go ?_; refine goP 14 ?_ TT.mk; refine Gg ?_; refine Go ?_; refine Gs [(0, _), (3, _), (5, _), (17, _)] ?_; refine goC 1 2 ?_ TT.mk; refine goB 2 ?_; refine WC.skip ?_; refine Gn ?_; refine WC.seq ?_; refine WC.sr ?_; refine Go ?_; refine WL.step (ok_nilCheck rfl) rfl rfl rfl ?_; refine Go ?_; refine WL.ld rfl (by first | exact cell_blk (hX2.obj hB0 nos) rfl | assumption | exact cell_blk (by assumption) rfl) rfl rfl rfl ?_; refine Go ?_; refine WL.step ((ok_lookup_no keyS Tryz.underlying103 Tryz.underlying9 (fun w => Tryz.zeroValue3 w) rfl rfl (hm2.ext hX2 nos) hl2).1) rfl rfl rfl ?_; refine Go ?_; refine Gs [(0, _), (3, _), (5, _), (6, _), (7, _)] ?_; refine WC.sr ?_; refine Go ?_; refine goC 3 4 ?_ TT.mk; refine goB 4 ?_; refine WC.skip ?_; refine Gn ?_; refine WC.sr ?_; refine Go ?_; refine WL.step (ok_nilCheck rfl) rfl rfl rfl ?_; refine Go ?_; refine WL.ld rfl (by first | exact cell_blk (hX2.obj hB0 nos) rfl | assumption | exact cell_blk (by assumption) rfl) rfl rfl rfl ?_; refine Go ?_; refine WL.step (ok_nilCheck rfl) rfl rfl rfl ?_; refine Go ?_; refine WL.stepR0 (okE_store (fun w => Tryz.sizeOf3 w) rfl rfl (hX2.obj hB0 nos) (Nat.le_of_ble_eq_true rfl) rfl rfl) rfl rfl ?_; rintro _ h3 ⟨hb3, hx3⟩; have hb13 := hx3.obj hb12 (fun e => by omega); have hX3 : Ext (fun q => q = b ∨ q = m1 ∨ q = m2) h h3 := (hX2.mono fun _ _ z => z.elim).trans (hx3.mono fun _ _ z => .inl z); have hsz3 := hX3.size; have hrd3 := hvS h3 hX3; refine Gn ?_; refine Gs [(0, _), (3, _), (5, _)] ?_; refine WC.seq ?_; refine WC.drawH (fun h' => Ext No h3 h') 7 8 rfl fol ?_; refine WH.tk 0 rfl (fun hq hC => ok_fieldAddr rfl Tryz.underlying63 rfl (fun w => Tryz.sizeOf9 w)) rfl rfl rfl ?_; refine WH.tk 1 rfl (fun hq hC => ok_load (fun w => Tryz.isAgg9 w) rfl (by first | exact hC.cell (by first | exact cell_blk hb13 rfl | assumption | exact cell_blk (by assumption) rfl) nos)) rfl rfl rfl ?_; refine WH.tk 2 rfl (fun hq hC => ok_fieldAddr rfl Tryz.underlying63 rfl (fun w => Tryz.sizeOf24 w)) rfl rfl rfl ?_; refine WH.tk 3 rfl (fun hq hC => ok_load (fun w => Tryz.isAgg24 w) rfl (by first | exact hC.cell (by first | exact cell_blk hb13 rfl | assumption | exact cell_blk (by assumption) rfl) nos)) rfl rfl rfl ?_; refine WH.two 4 6 (by kernel_rfl) (Br.out (i := 5003) ?_) (Br.out (i := 5004) ?_))
  all_goals (first | (fail_if_success refine goB 5003 ?_) | (
  refine goB 5003 ?_
  all_goals (refine Comes1.call (vs := [_]) rfl rfl (fun a w => Tryz.call27 a w) rfl (clone_int o (by first | exact hrd3 | exact hrd3.ext0 hx6) (by omega)) rfl rfl rfl ?_ (fun _ => by kernel_rfl); rintro v4 h4 ⟨ho4, hx4, hf4⟩; obtain ⟨A4, c4, rfl, _⟩ := ho4.slice; refine ⟨fun _ => by first | exact hx4 | exact hx6.trans hx4, ?_⟩; have hX4 : Ext No h3 h4 := by first | exact hx4 | exact hx6.trans hx4)
  all_goals (refine WH.tk 5 rfl (fun hq hC => ok_buildF (vs := [_, _]) (cs := [_, _]) (fun | [a0, a1] => [a0, a1] | _ => []) rfl rfl (by kernel_rfl)) rfl rfl rfl ?_; refine WH.one 6 (by kernel_rfl) ?_; refine Comes1.run rfl (okE_alloc (fun w => Tryz.zeroValue63 w)) rfl rfl rfl ?_ (fun _ => by kernel_rfl); rintro _ h6 ⟨b6, rfl, hg6, hb6, hx6⟩; refine ⟨fun _ => by first | exact hx6 | exact hx4.trans hx6, ?_⟩; have hX6 : Ext No h3 h6 := by first | exact hx6 | exact hx4.trans hx6)
  all_goals (refine WH.one 7 (by kernel_rfl) ?_)
  all_goals (first
              | (have hX := hx4.trans hx6; have hB6 := hb6; have hO := ho4.ext hx6 (fun _ _ => nos); have hg : h3.size ≤ b6 := Nat.le_trans hx4.size hg6; have hne : ∀ q, (Value.slice A4 o.length c4).ownBlock = some q → q ≠ b6 := (fun q hq => by have := ho4.lt hq; omega); have hf := hf4)
              | (have hX := hx6.trans hx4; have hB6 := hx4.obj hb6 nos; have hO := ho4; have hg : h3.size ≤ b6 := hg6; have hne : ∀ q, (Value.slice A4 o.length c4).ownBlock = some q → q ≠ b6 := (fun q hq => by have := hf4 q hq; have := lt_of_some hb6; omega); have hf : ∀ q, (Value.slice A4 o.length c4).ownBlock = some q → h3.size ≤ q := (fun q hq => Nat.le_trans hx6.size (hf4 q hq))))
  all_goals (refine Comes1.run0 rfl (okE_storeW (fun w => Tryz.sizeOf63 w) rfl rfl rfl hB6 rfl (by simp [Value.oneCell'])) rfl rfl ?_ (fun _ => by kernel_rfl); rintro _ h7 ⟨hb7, hx7⟩; refine ⟨fun e => (by cases e), ?_⟩; have hX7 : Ext No h3 h7 := hX.trans' hx7 (fun q hq e => by omega); have hO7 := hO.ext hx7 hne; have hbb7 := hX7.obj hb3 nos; have hm7 := (((hm.ext hX2 nos).ext hx3 (fun e => s1 e.symm)).ext hX7 nos); have hm27 := (((hm2.ext hX2 nos).ext hx3 (fun e => s2 e.symm)).ext hX7 nos); have hsz7 := hX7.size; (have n6 : ¬ (b6 = m1 ∨ b6 = m2) := by omega); (have nb : ¬ (b = m1 ∨ b = m2) := by omega); refine WH.done (by kernel_rfl) ?_)
  skip))
  all_goals (first | (fail_if_success refine goB 5004 ?_) | (
  refine goB 5004 ?_
  all_goals (refine Comes1.run rfl (okE_alloc (fun w => Tryz.zeroValue63 w)) rfl rfl rfl ?_ (fun _ => by kernel_rfl); rintro _ h6 ⟨b6, rfl, hg6, hb6, hx6⟩; refine ⟨fun _ => by first | exact hx6 | exact hx4.trans hx6, ?_⟩; have hX6 : Ext No h3 h6 := by first | exact hx6 | exact hx4.trans hx6)
  all_goals (refine WH.one 4 (by kernel_rfl) ?_; refine Comes1.call (vs := [_]) rfl rfl (fun a w => Tryz.call27 a w) rfl (clone_int o (by first | exact hrd3 | exact hrd3.ext0 hx6) (by omega)) rfl rfl rfl ?_ (fun _ => by kernel_rfl); rintro v4 h4 ⟨ho4, hx4, hf4⟩; obtain ⟨A4, c4, rfl, _⟩ := ho4.slice; refine ⟨fun _ => by first | exact hx4 | exact hx6.trans hx4, ?_⟩; have hX4 : Ext No h3 h4 := by first | exact hx4 | exact hx6.trans hx4)
  all_goals (refine WH.tk 5 rfl (fun hq hC => ok_buildF (vs := [_, _]) (cs := [_, _]) (fun | [a0, a1] => [a0, a1] | _ => []) rfl rfl (by kernel_rfl)) rfl rfl rfl ?_; refine WH.one 7 (by kernel_rfl) ?_)
  all_goals (first
              | (have hX := hx4.trans hx6; have hB6 := hb6; have hO := ho4.ext hx6 (fun _ _ => nos); have hg : h3.size ≤ b6 := Nat.le_trans hx4.size hg6; have hne : ∀ q, (Value.slice A4 o.length c4).ownBlock = some q → q ≠ b6 := (fun q hq => by have := ho4.lt hq; omega); have hf := hf4)
              | (have hX := hx6.trans hx4; have hB6 := hx4.obj hb6 nos; have hO := ho4; have hg : h3.size ≤ b6 := hg6; have hne : ∀ q, (Value.slice A4 o.length c4).ownBlock = some q → q ≠ b6 := (fun q hq => by have := hf4 q hq; have := lt_of_some hb6; omega); have hf : ∀ q, (Value.slice A4 o.length c4).ownBlock = some q → h3.size ≤ q := (fun q hq => Nat.le_trans hx6.size (hf4 q hq))))
  all_goals (refine Comes1.run0 rfl (okE_storeW (fun w => Tryz.sizeOf63 w) rfl rfl rfl hB6 rfl (by simp [Value.oneCell'])) rfl rfl ?_ (fun _ => by kernel_rfl); rintro _ h7 ⟨hb7, hx7⟩; refine ⟨fun e => (by cases e), ?_⟩; have hX7 : Ext No h3 h7 := hX.trans' hx7 (fun q hq e => by omega); have hO7 := hO.ext hx7 hne; have hbb7 := hX7.obj hb3 nos; have hm7 := (((hm.ext hX2 nos).ext hx3 (fun e => s1 e.symm)).ext hX7 nos); have hm27 := (((hm2.ext hX2 nos).ext hx3 (fun e => s2 e.symm)).ext hX7 nos); have hsz7 := hX7.size; (have n6 : ¬ (b6 = m1 ∨ b6 = m2) := by omega); (have nb : ¬ (b = m1 ∨ b = m2) := by omega); refine WH.done (by kernel_rfl) ?_)
  skip))
  all_goals (refine Gn ?_; refine Gs [(0, _), (5, _), (8, _)] ?_; refine WC.seq ?_; refine WC.drawH (fun h' => Ext (fun q => q = m1 ∨ q = m2) h7 h') 26 26 rfl fol ?_; refine WH.tk 0 rfl (fun hq hC => ok_move rfl) rfl rfl rfl ?_; refine WH.tk 1 rfl (fun hq hC => ok_nilCheck rfl) rfl rfl rfl ?_; refine WH.tk 2 rfl (fun hq hC => ok_fieldAddr rfl Tryz.underlying105 rfl (fun w => Tryz.sizeOf102 w)) rfl rfl rfl ?_; refine WH.tk 3 rfl (fun hq hC => ok_load (fun w => Tryz.isAgg102 w) rfl (by first | exact hC.cell (by first | exact cell_blk hbb7 rfl | assumption | exact cell_blk (by assumption) rfl) nb)) rfl rfl rfl ?_; refine WH.tk 4 rfl (fun hq hC => ok_move rfl) rfl rfl rfl ?_; refine WH.tk 5 rfl (fun hq hC => ok_nilCheck rfl) rfl rfl rfl ?_; refine WH.tk 6 rfl (fun hq hC => ok_fieldAddr rfl Tryz.underlying105 rfl (fun w => Tryz.sizeOf3 w)) rfl rfl rfl ?_; refine WH.tk 7 rfl (fun hq hC => ok_load (fun w => Tryz.isAgg3 w) rfl (by first | exact hC.cell (by first | exact cell_blk hbb7 rfl | assumption | exact cell_blk (by assumption) rfl) nb)) rfl rfl rfl ?_; refine WH.tk 8 rfl (fun hq hC => ok_move rfl) rfl rfl rfl ?_; refine WH.tk 9 rfl (fun hq hC => ok_nilCheck rfl) rfl rfl rfl ?_; refine WH.tk 10 rfl (fun hq hC => ok_fieldAddr rfl Tryz.underlying105 rfl (fun w => Tryz.sizeOf103 w)) rfl rfl rfl ?_; refine WH.tk 11 rfl (fun hq hC => ok_load (fun w => Tryz.isAgg103 w) rfl (by first | exact hC.cell (by first | exact cell_blk hbb7 rfl | assumption | exact cell_blk (by assumption) rfl) nb)) rfl rfl rfl ?_; refine WH.tk 12 rfl (fun hq hC => ok_move rfl) rfl rfl rfl ?_; refine WH.tk 13 rfl (fun hq hC => ok_loadN (fun w => Tryz.isAgg63 w) (fun w => Tryz.sizeOf63 w) rfl rfl (by exact At.of_block (hC.obj hb7 n6))) rfl rfl rfl ?_; refine WH.tk 14 rfl (fun hq hC => ok_buildF (vs := [_, _]) (cs := [_, _, _]) (fun | [.agg ⟨[a0, a1]⟩, a2] => [a0, a1, a2] | _ => []) rfl rfl (by kernel_rfl)) rfl rfl rfl ?_; refine WH.tk 16 rfl (fun hq hC => ok_move rfl) rfl rfl rfl ?_; refine WH.tk 17 rfl (fun hq hC => ok_nilCheck rfl) rfl rfl rfl ?_; refine WH.tk 18 rfl (fun hq hC => ok_fieldAddr rfl Tryz.underlying105 rfl (fun w => Tryz.sizeOf3 w)) rfl rfl rfl ?_; refine WH.tk 19 rfl (fun hq hC => ok_load (fun w => Tryz.isAgg3 w) rfl (by first | exact hC.cell (by first | exact cell_blk hbb7 rfl | assumption | exact cell_blk (by assumption) rfl) nb)) rfl rfl rfl ?_; refine WH.two 15 20 (by kernel_rfl) (Br.out (i := 5006) ?_) (Br.out (i := 5007) ?_))
  all_goals (first | (fail_if_success refine goB 5006 ?_) | (
  refine goB 5006 ?_
  all_goals (refine Comes1.run rfl (okE_box rfl) rfl rfl rfl ?_ (fun _ => by kernel_rfl)
             rintro _ h15 ⟨p15, rfl, hgp, hbp, hx15⟩
             have hD15 : Ext (fun q => q = m1) h7 h15 := by first | exact hx15.mono (fun _ _ e => e.elim) | exact hD20.trans (hx15.mono fun _ _ e => e.elim)
             have hC15 : Ext (fun q => q = m1 ∨ q = m2) h7 h15 := hD15.mono fun _ _ e => .inl e)
  all_goals (refine ⟨fun _ => by first | assumption | trivial, ?_⟩; refine WH.one 20 (by kernel_rfl) ?_)
  all_goals (refine Comes1.run rfl (okE_mapEntry keyI Tryz.underlying102 Tryz.underlying3 (fun w => Tryz.zeroValue95 w) rfl rfl (by first | exact hm7 | exact hm7.ext hx15 nos) hl) rfl rfl rfl ?_ (fun _ => by kernel_rfl)
             rintro _ h20 ⟨st20, rfl, he20, hx20⟩
             have hD20 : Ext (fun q => q = m1) h7 h20 := by first | exact hx20 | exact hD15.trans hx20
             have hC20 : Ext (fun q => q = m1 ∨ q = m2) h7 h20 := hD20.mono fun _ _ e => .inl e)
  all_goals (refine ⟨fun _ => by first | assumption | trivial, ?_⟩; refine WH.tk 21 rfl (fun hq hC => ok_extract rfl rfl) rfl rfl rfl ?_; refine WH.one 22 (by kernel_rfl) ?_)
  all_goals (refine Comes1.run0 rfl (okE_entryStore rfl rfl rfl (by first | exact he20 | exact he20.ext hx15 nos)) rfl rfl ?_ (fun _ => by kernel_rfl)
             rintro _ h22 ⟨hm22, hx22⟩
             have hD22 : Ext (fun q => q = m1) h7 h22 := by first | exact hD20.trans hx22 | exact hD15.trans hx22
             have hC22 : Ext (fun q => q = m1 ∨ q = m2) h7 h22 := hD22.mono fun _ _ e => .inl e)
  all_goals (refine ⟨fun _ => by first | assumption | trivial, ?_⟩; refine WH.one 23 (by kernel_rfl) ?_; refine Comes1.run rfl (okE_mapEntry keyS Tryz.underlying103 Tryz.underlying9 (fun w => Tryz.zeroValue3 w) rfl rfl (hm27.ext hD22 (fun e => s3 e.symm)) hl2) rfl rfl rfl ?_ (fun _ => by kernel_rfl); rintro _ h23 ⟨st23, rfl, he23, hx23⟩; have hC23 : Ext (fun q => q = m1 ∨ q = m2) h7 h23 := hC22.trans (hx23.mono fun _ _ e => .inr e); refine ⟨fun _ => by first | assumption | trivial, ?_⟩; refine WH.tk 24 rfl (fun hq hC => ok_extract rfl rfl) rfl rfl rfl ?_; refine WH.one 25 (by kernel_rfl) ?_; refine Comes1.run0 rfl (okE_entryStore rfl rfl rfl he23) rfl rfl ?_ (fun _ => by kernel_rfl); rintro _ h25 ⟨hm25, hx25⟩; have hC25 : Ext (fun q => q = m1 ∨ q = m2) h7 h25 := hC23.trans (hx25.mono fun _ _ e => .inr e); refine ⟨fun _ => by first | assumption | trivial, ?_⟩)
  all_goals (have hb25 := hC25.obj hbb7 nb
             have hlp : h7.size ≤ p15 := by first | exact hgp | exact Nat.le_trans hx20.size hgp
             have hr25 : h25[p15]? = some (.cells ⟨[St t, .slice A4 o.length c4, In 1]⟩ 99 (0, 0)) := by first | exact (((hx22.obj (hx20.obj hbp (fun e => by omega)) (fun e => by omega)) |> fun z => hx25.obj (hx23.obj z (fun e => by omega)) (fun e => by omega))) | exact ((hx22.obj hbp (fun e => by omega)) |> fun z => hx25.obj (hx23.obj z (fun e => by omega)) (fun e => by omega)))
  all_goals (refine WH.done (by kernel_rfl) ?_)
  skip))
  all_goals (first | (fail_if_success refine goB 5007 ?_) | (
  refine goB 5007 ?_
  all_goals (refine Comes1.run rfl (okE_mapEntry keyI Tryz.underlying102 Tryz.underlying3 (fun w => Tryz.zeroValue95 w) rfl rfl (by first | exact hm7 | exact hm7.ext hx15 nos) hl) rfl rfl rfl ?_ (fun _ => by kernel_rfl)
             rintro _ h20 ⟨st20, rfl, he20, hx20⟩
             have hD20 : Ext (fun q => q = m1) h7 h20 := by first | exact hx20 | exact hD15.trans hx20
             have hC20 : Ext (fun q => q = m1 ∨ q = m2) h7 h20 := hD20.mono fun _ _ e => .inl e)
  all_goals (refine ⟨fun _ => by first | assumption | trivial, ?_⟩; refine WH.tk 21 rfl (fun hq hC => ok_extract rfl rfl) rfl rfl rfl ?_; refine WH.one 15 (by kernel_rfl) ?_)
  all_goals (refine Comes1.run rfl (okE_box rfl) rfl rfl rfl ?_ (fun _ => by kernel_rfl)
             rintro _ h15 ⟨p15, rfl, hgp, hbp, hx15⟩
             have hD15 : Ext (fun q => q = m1) h7 h15 := by first | exact hx15.mono (fun _ _ e => e.elim) | exact hD20.trans (hx15.mono fun _ _ e => e.elim)
             have hC15 : Ext (fun q => q = m1 ∨ q = m2) h7 h15 := hD15.mono fun _ _ e => .inl e)
  all_goals (refine ⟨fun _ => by first | assumption | trivial, ?_⟩; refine WH.one 22 (by kernel_rfl) ?_)
  all_goals (refine Comes1.run0 rfl (okE_entryStore rfl rfl rfl (by first | exact he20 | exact he20.ext hx15 nos)) rfl rfl ?_ (fun _ => by kernel_rfl)
             rintro _ h22 ⟨hm22, hx22⟩
             have hD22 : Ext (fun q => q = m1) h7 h22 := by first | exact hD20.trans hx22 | exact hD15.trans hx22
             have hC22 : Ext (fun q => q = m1 ∨ q = m2) h7 h22 := hD22.mono fun _ _ e => .inl e)
  all_goals (refine ⟨fun _ => by first | assumption | trivial, ?_⟩; refine WH.one 23 (by kernel_rfl) ?_; refine Comes1.run rfl (okE_mapEntry keyS Tryz.underlying103 Tryz.underlying9 (fun w => Tryz.zeroValue3 w) rfl rfl (hm27.ext hD22 (fun e => s3 e.symm)) hl2) rfl rfl rfl ?_ (fun _ => by kernel_rfl); rintro _ h23 ⟨st23, rfl, he23, hx23⟩; have hC23 : Ext (fun q => q = m1 ∨ q = m2) h7 h23 := hC22.trans (hx23.mono fun _ _ e => .inr e); refine ⟨fun _ => by first | assumption | trivial, ?_⟩; refine WH.tk 24 rfl (fun hq hC => ok_extract rfl rfl) rfl rfl rfl ?_; refine WH.one 25 (by kernel_rfl) ?_; refine Comes1.run0 rfl (okE_entryStore rfl rfl rfl he23) rfl rfl ?_ (fun _ => by kernel_rfl); rintro _ h25 ⟨hm25, hx25⟩; have hC25 : Ext (fun q => q = m1 ∨ q = m2) h7 h25 := hC23.trans (hx25.mono fun _ _ e => .inr e); refine ⟨fun _ => by first | assumption | trivial, ?_⟩)
  all_goals (have hb25 := hC25.obj hbb7 nb
             have hlp : h7.size ≤ p15 := by first | exact hgp | exact Nat.le_trans hx20.size hgp
             have hr25 : h25[p15]? = some (.cells ⟨[St t, .slice A4 o.length c4, In 1]⟩ 99 (0, 0)) := by first | exact (((hx22.obj (hx20.obj hbp (fun e => by omega)) (fun e => by omega)) |> fun z => hx25.obj (hx23.obj z (fun e => by omega)) (fun e => by omega))) | exact ((hx22.obj hbp (fun e => by omega)) |> fun z => hx25.obj (hx23.obj z (fun e => by omega)) (fun e => by omega)))
  all_goals (refine WH.done (by kernel_rfl) ?_)
  skip))
  all_goals (refine Gn ?_; refine Gs [(0, _)] ?_; refine WC.sr ?_; refine Go ?_; refine WL.step (ok_nilCheck rfl) rfl rfl rfl ?_; refine Go ?_; refine WL.ld rfl (by first | exact cell_blk hb25 rfl | assumption | exact cell_blk (by assumption) rfl) rfl rfl rfl ?_; refine Go ?_; refine Gs [(4, _)] ?_; refine Gt ?_)
  all_goals (first
              | exact absurd hb (keyB_ne _ _)
              | exact ⟨rfl, ⟨p15, _, r.add ((hX3.trans (hX7.mono fun _ _ z => z.elim)).trans (hC25.mono fun _ _ z => .inr z)) hb25 hp hp2 hl hl2 (hm22.ext ((hx23.trans hx25)) s3) hm25 hr25 (hO7.ext hC25 (fun q hq z => by have := hf q hq; omega)) hfs (by omega) (fun q hq => by have := hf q hq; omega) hno hc⟩, (hX3.trans (hX7.mono fun _ _ z => z.elim)).trans (hC25.mono fun _ _ z => .inr z)⟩)
end
end Go.Proofs.YtggmocdbfbhklaaGreat


/-
  RANGES OVER FUNCTIONS: the call of yield, the iterator's contract, the statement, and the function that holds it. No program is named here.
-/
namespace Go.RK
open Go

/-! ### the iterator's side: a call of yield -/
def YieldH (P : Program) (l : Nat) (args : List Value) (h : Heap) (R : Value → Heap → Prop) : Prop :=
  ∀ w : World, w.heap = h → ∃ fn tmps assign body, (Instr.yield l ⟨args⟩).run P w = .ok (.round l fn tmps assign body) w ∧
    RoundIn (wd Option.none) 0 P l fn tmps assign body w fun e w' => Same w w' ∧ ∃ v, e = .returned v ∧ R v w'.heap
theorem YieldH.mono {P : Program} {l : Nat} {args : List Value} {h : Heap} {R R' : Value → Heap → Prop} (hy : YieldH P l args h R) (hr : ∀ v h', R v h' → R' v h') : YieldH P l args h R' := fun w hw => by
  obtain ⟨fn, tmps, assign, body, h1, h2⟩ := hy w hw
  exact ⟨fn, tmps, assign, body, h1, h2.mono fun e w' ⟨hs, v, he, hv⟩ => ⟨hs, v, he, hr _ _ hv⟩⟩
/-- What is left of a plain region in which yield is called. -/
def WY (P : Program) (n : Env) (l0 l : List Oper) (Q : Post) (f : Fr) (h : Heap) : Prop := ∀ a w, Rep n a f → w.heap = h → wpListIn (wd n.ro) 0 P l0.toArray (toAct n Q w) l a w
section
variable {P : Program} {n : Env} {Q : Post} {f : Fr} {h : Heap} {l0 rest : List Oper}
theorem WC.regionY {id : Nat} {l : List Oper} (hl : WY P n l l Q f h) : WC P n (.region id l.toArray false) Q f h :=
  fun a w ha hw => wpIn_region_lit (hl a w ha hw)
theorem WY.nil {l0 : List Oper} (hq : Q .normal f h) : WY P n l0 [] Q f h := fun _ w ha hw => wpListIn_nil ⟨rfl, .refl w, f, ha, hw ▸ hq⟩
theorem uponIn_imp {F : Fence} {o : Oper} {a : Act} {K K' : Act → World → Prop} {Q Q' : Exit → Act → World → Prop} (hK : ∀ a w, K a w → K' a w) (hQ : ∀ e a w, Q e a w → Q' e a w) {r : Result Next} (h : o.uponIn F 0 P a K Q r) : o.uponIn F 0 P a K' Q' r := by
  cases r with
  | ok x w2 =>
    cases x <;> simp only [Oper.uponIn] at h ⊢ <;> first | exact hK _ _ h | exact h | skip
    · refine ⟨h.1, h.2.mono fun e w3 he => ?_⟩
      cases e with
      | returned v => exact hK _ _ he
      | panicked c => exact hQ _ _ _ he
      | outgrown => obtain ⟨a0, w0, q⟩ := he; exact ⟨a0, w0, hQ _ _ _ q⟩
    · refine ⟨h.1, h.2.mono fun e w3 he => ?_⟩
      cases e with
      | returned v => exact hK _ _ he
      | panicked c => exact hQ _ _ _ he
      | outgrown => obtain ⟨a0, w0, q⟩ := he; exact ⟨a0, w0, hQ _ _ _ q⟩
    · exact ⟨h.1, h.2.mono fun v w3 he => hK _ _ he⟩
  | halt x w2 => cases x <;> simp only [Oper.uponIn] at h ⊢ <;> first | exact hQ _ _ _ h | exact h
theorem listIn_imp {F : Fence} {ops : Array Oper} {Q Q' : Exit → Act → World → Prop} (hQ : ∀ e a w, Q e a w → Q' e a w) : ∀ (l : List Oper) (a : Act) (w : World), wpListIn F 0 P ops Q l a w → wpListIn F 0 P ops Q' l a w
  | [], a, w, h => hQ _ _ _ h
  | o :: l, a, w, h => by
    unfold wpListIn at h ⊢
    split
    · rename_i hw
      rw [if_pos hw] at h
      exact ⟨h.1, uponIn_imp (fun a w k => listIn_imp hQ l a w k) hQ h.2⟩
    · rename_i hw
      rw [if_neg hw] at h
      exact ⟨h.1, listIn_imp hQ l _ _ h.2⟩
theorem WY.run {o : Oper} {R : Value → Heap → Prop} (hok : OkR P f o h R) (hg : goes f l0 o = true)
    (hk : ∀ v h' a w, R v h' → Rep n a f → w.heap = h' → wpListIn (wd n.ro) 0 P l0.toArray (toAct n Q w) rest (a.put o.dst v) w) (hro : n.ro = Option.none := by rfl) : WY P n l0 (o :: rest) Q f h := by
  intro a w ha hw
  unfold wpListIn
  rw [if_pos (goes_wanted ha hg)]
  refine ⟨fun _ _ => trivial, ?_⟩
  show o.uponIn (wd n.ro) 0 P a _ _ ((o.semAt n.ro a.eval).run P w)
  rw [semAt_of (.inl hro)]
  obtain ⟨v, w', hs, hR, hrun⟩ := hok a.eval w ha.agrees hw
  have hk' := listIn_imp (fun _ _ _ q => toAct.trans hs q) _ _ _ (hk v w'.heap a w' hR ha rfl)
  rcases hrun with hrun | ⟨hrun, rfl⟩ <;> rw [hrun] <;> exact hk'
theorem WY.step {o : Oper} {v : Value} {t : Nat} (hok : OkP P f o h v) (hg : goes f l0 o = true) (hd : o.dst = some t) (ht : Nat.blt t n.n = true) (hk : WY P n l0 rest Q ((t, v) :: f) h) (hro : n.ro = Option.none := by rfl) : WY P n l0 (o :: rest) Q f h :=
  .run hok.r hg (by rintro v h' a w ⟨rfl, rfl⟩ ha hw; rw [hd]; exact hk _ w (ha.put ht _) hw) hro
theorem WY.stepR {o : Oper} {R : Value → Heap → Prop} {t : Nat} (hok : OkR P f o h R) (hg : goes f l0 o = true) (hd : o.dst = some t) (ht : Nat.blt t n.n = true) (hk : ∀ v h', R v h' → WY P n l0 rest Q ((t, v) :: f) h') (hro : n.ro = Option.none := by rfl) : WY P n l0 (o :: rest) Q f h :=
  .run hok hg (by rintro v h' a w hR ha hw; rw [hd]; exact hk v h' hR _ w (ha.put ht _) hw) hro
theorem WY.stepR0 {o : Oper} {R : Value → Heap → Prop} (hok : OkR P f o h R) (hg : goes f l0 o = true) (hd : o.dst = Option.none) (hk : ∀ v h', R v h' → WY P n l0 rest Q f h') (hro : n.ro = Option.none := by rfl) : WY P n l0 (o :: rest) Q f h :=
  .run hok hg (by rintro v h' a w hR ha hw; rw [hd]; exact hk v h' hR _ w ha hw) hro
theorem WY.pass {o : Oper} {t : Nat} (hg : stops f l0 o = true) (hd : o.dst = some t) (ht : Nat.blt t n.n = true) (hk : WY P n l0 rest Q ((t, undef) :: f) h) : WY P n l0 (o :: rest) Q f h := by
  intro a w ha hw
  unfold wpListIn
  rw [if_neg (by rw [stops_wanted ha hg]; exact Bool.false_ne_true), hd]
  exact ⟨fun _ _ => trivial, hk _ w (ha.put ht _) hw⟩
theorem WY.part {l : List Oper} (t : Nat) {b : Bool} (hb : f.get t = some (.bool b)) (h1 : b = true → WY P n l0 l Q ((t, .bool true) :: f) h) (h2 : b = false → WY P n l0 l Q ((t, .bool false) :: f) h) : WY P n l0 l Q f h := by
  cases b
  · exact fun a w ha hw => h2 rfl a w (ha.sub_set hb) hw
  · exact fun a w ha hw => h1 rfl a w (ha.sub_set hb) hw
theorem evals {xs : List Operand} {vs : List Value} {a : Act} (ha : Rep n a f) (hx : xs.map f.ev = vs.map some) : Array.map a.eval ⟨xs⟩ = ⟨vs⟩ := by
  have : xs.map a.eval = vs := by
    induction xs generalizing vs with
    | nil => cases vs <;> simp_all
    | cons x xs ih =>
      cases vs with
      | nil => simp at hx
      | cons v vs =>
        simp only [List.map_cons, List.cons.injEq] at hx ⊢
        exact ⟨ha.agrees _ _ hx.1, ih hx.2⟩
  rw [← this]; simp
theorem WY.call {o : Oper} {t : Nat} {k : FuncId} {xs : List Operand} {vs : List Value} {ts : Array TypeId} {R : Value → Heap → Prop} (ho : o.op = .call { callee := .value (.func k), args := ⟨xs⟩, argTypes := ts })
    (hc : ∀ (args : Array Value) (w : World), (callFunc k args).run P w = .ok (.enter k args) w)
    (hx : xs.map f.ev = vs.map some) (hR : CallsH P k ⟨vs⟩ h R) (hg : goes f l0 o = true) (hd : o.dst = some t) (ht : Nat.blt t n.n = true) (hk : ∀ v h', R v h' → WY P n l0 rest Q ((t, v) :: f) h') (hro : n.ro = Option.none := by rfl) : WY P n l0 (o :: rest) Q f h := by
  intro a w ha hw
  unfold wpListIn
  rw [if_pos (goes_wanted ha hg)]
  refine ⟨fun _ _ => trivial, ?_⟩
  show o.uponIn (wd n.ro) 0 P a _ _ ((o.semAt n.ro a.eval).run P w)
  rw [semAt_of (.inl hro)]
  have hrun : (execOp a.eval o).run P w = .ok (.enter k ⟨vs⟩) w := by
    simp [execOp, ho, resolve, Deferred.ofValue, invoke, Act.eval, evals ha hx, hc]
  rw [hrun]
  refine ⟨fun e => (by cases e), (calls_wide (hR w hw)).mono fun e w' ⟨hs, v, he, hv⟩ => ?_⟩
  subst he
  rw [hd]
  exact listIn_imp (fun _ _ _ q => toAct.trans hs q) _ _ _ (hk v _ hv _ w' (ha.put ht _) rfl)
/-- A call of yield. -/
theorem WY.yield {o : Oper} {t s l : Nat} {xs : List Operand} {vs : List Value} {ts : Array TypeId} {R : Value → Heap → Prop} (ho : o.op = .call { callee := .value (.tmp s), args := ⟨xs⟩, argTypes := ts })
    (hf : f.get s = some (.func (.yield l) #[] #[]))
    (hx : xs.map f.ev = vs.map some) (hR : YieldH P l vs h R) (hg : goes f l0 o = true) (hd : o.dst = some t) (ht : Nat.blt t n.n = true) (hk : ∀ v h', R v h' → WY P n l0 rest Q ((t, v) :: f) h') (hro : n.ro = Option.none := by rfl) : WY P n l0 (o :: rest) Q f h := by
  intro a w ha hw
  unfold wpListIn
  rw [if_pos (goes_wanted ha hg)]
  refine ⟨fun _ _ => trivial, ?_⟩
  show o.uponIn (wd n.ro) 0 P a _ _ ((o.semAt n.ro a.eval).run P w)
  rw [semAt_of (.inl hro)]
  have hf' : a.eval (.tmp s) = .func (.yield l) #[] #[] := ha.agrees (.tmp s) _ hf
  obtain ⟨fn, tmps, assign, body, hy, hround⟩ := hR w hw
  have hrun : (execOp a.eval o).run P w = .ok (.round l fn tmps assign body) w := by
    simp [execOp, ho, resolve, hf', Deferred.ofValue, evals ha hx, invoke, hy]
  rw [hrun]
  refine ⟨fun e => (by cases e), ?_⟩
  rw [hro]
  refine hround.mono fun e w' ⟨hs, v, he, hv⟩ => ?_
  subst he
  rw [hd]
  have := listIn_imp (fun _ _ _ q => toAct.trans hs q) _ _ _ (hk v _ hv _ w' (ha.put ht _) rfl)
  rw [hro] at this
  exact this
end

/-- THE CONTRACT OF AN ITERATOR: function k at the captured values lb hands on the elements of L, one behind the other, as long as it is told to go on. The loop's body keeps J (of how many have come, and a state x of its own); it turns what it owns, and nothing of what the iterator reads (rd). -/
def SeqH (P : Program) (k : FuncId) (lb : List Value) {α : Type} (enc : α → List Value) (L : List α) (rd : Nat → Prop) (h : Heap) : Prop :=
  ∀ (X : Type) (J : Nat → X → Heap → Prop) (Jx : X → Heap → Prop) (own : X → Nat → Prop) (l : Nat) (x0 : X), J 0 x0 h → l < h.size → ¬ rd l →
    (∀ k x h', J k x h' → ∀ b, own x b → b < h'.size ∧ ¬ rd b) →
    (∀ k x h1 h2 (S : Nat → Prop), J k x h1 → Ext S h1 h2 → (∀ b, S b → b < h1.size → h.size ≤ b ∧ ¬ own x b) → J k x h2) →
    (∀ k x h1 a, J k x h1 → L[k]? = some a → YieldH P l (enc a) h1 fun v h2 => ∃ x', Ext (fun b => own x b ∨ b = l) h1 h2 ∧ (∀ b, own x' b → own x b ∨ h1.size ≤ b) ∧ ((v = .bool true ∧ J (k + 1) x' h2) ∨ (v = .bool false ∧ Jx x' h2))) →
    CallsH P k ⟨.func (.yield l) #[] #[] :: lb⟩ h fun _ h' => ∃ x, J L.length x h' ∨ Jx x h'

/-! ### the function that holds such a loop -/
def dmark (D : Nat) : Deferred := { target := .collected D, args := #[] }
def open_ (h : Heap) (D : Nat) : Prop := h[D]? = some (.deferred (some []))
def toD (m : Nat) (Q : List Nat → Post) (w0 : World) : Exit → Act → World → Prop := fun e a w => calm e = true ∧ Same w0 w ∧ ∃ Ds f, Rep ⟨m, Ds.map dmark, Option.none⟩ a f ∧ Q Ds e f w.heap
def WD (P : Program) (m : Nat) (Ds : List Nat) (c : Code) (Q : List Nat → Post) (f : Fr) (h : Heap) : Prop := ∀ a w, Rep ⟨m, Ds.map dmark, Option.none⟩ a f → w.heap = h → c.wpIn (wd Option.none) 0 P (toD m Q w) a w
@[reducible] def thenD (K : List Nat → Fr → Heap → Prop) (Q : List Nat → Post) : List Nat → Post := fun Ds => thenP (K Ds) (Q Ds)
@[reducible] def blockD (id : Nat) (Q : List Nat → Post) : List Nat → Post := fun Ds => blockP id (Q Ds)
theorem toD.trans {m : Nat} {Q : List Nat → Post} {w0 w1 : World} (hs : Same w0 w1) {e : Exit} {a : Act} {w : World} (h : toD m Q w1 e a w) : toD m Q w0 e a w := ⟨h.1, hs.trans h.2.1, h.2.2⟩
section
variable {P : Program} {m : Nat} {Ds : List Nat} {Q : List Nat → Post} {f : Fr} {h : Heap}
theorem WD.of {c : Code} (hc : WC P ⟨m, Ds.map dmark, Option.none⟩ c (Q Ds) f h) : WD P m Ds c Q f h := fun a w ha hw =>
  wpIn_mono (hc a w ha hw) fun _ _ _ ⟨hl, hs, g, hg, q⟩ => ⟨hl, hs, Ds, g, hg, q⟩
theorem WD.sub {c : Code} (g : Fr) (hs : SubL g f) (hc : WD P m Ds c Q g h) : WD P m Ds c Q f h := fun a w ha hw => hc a w (ha.sub hs) hw
theorem WD.seq {x y : Code} (hx : WD P m Ds x (thenD (fun Ds' => WD P m Ds' y Q) Q) f h) : WD P m Ds (.seq x y) Q f h := by
  intro a w ha hw
  refine wpIn_seq (wpIn_mono (hx a w ha hw) ?_)
  rintro e a' w' ⟨hl, hs, Ds', g, hg, q⟩
  cases e
  case normal => exact wpIn_mono (q a' w' hg rfl) fun _ _ _ hq => hq.trans hs
  all_goals exact ⟨hl, hs, Ds', g, hg, q⟩
theorem WD.block {id : Nat} {c : Code} (hc : WD P m Ds c (blockD id Q) f h) : WD P m Ds (.block id c) Q f h := by
  intro a w ha hw
  refine wpIn_block (wpIn_mono (hc a w ha hw) ?_)
  rintro e a' w' ⟨hl, hs, Ds', g, hg, q⟩
  cases e with
  | exit i =>
    simp only [Exit.inBlock, blockP] at q ⊢
    by_cases hi : i = id
    · rw [if_pos hi] at q ⊢; exact ⟨rfl, hs, Ds', g, hg, q⟩
    · rw [if_neg hi] at q ⊢; exact ⟨rfl, hs, Ds', g, hg, q⟩
  | normal => exact ⟨hl, hs, Ds', g, hg, q⟩
  | goto l => exact ⟨hl, hs, Ds', g, hg, q⟩
  | ret => exact ⟨hl, hs, Ds', g, hg, q⟩
  | panic ch => cases hl
  | outgrown => cases hl
/-- A range over a function that no walk has to leave. -/
def zipF : List Nat → List Value → Fr → Fr
  | p :: ps, v :: vs, f => zipF ps vs ((p, v) :: f)
  | _, _, f => f
def noP : Post := fun _ _ _ => False
/-- What a round leaves, by the way in which it is left. -/
def rndP {X : Type} (J : X → Heap → Prop) (Jx : Exit → X → Heap → Prop) (own : X → Nat → Prop) (x : X) (h : Heap) : Post := fun e _ h' =>
  ∃ x', Ext (own x) h h' ∧ (∀ b, own x' b → own x b ∨ h.size ≤ b) ∧ (match e with
    | .normal => J x' h'
    | .ret => Jx .ret x' h'
    | .exit i => Jx (.exit i) x' h'
    | _ => False)
theorem blt_of {d n : Nat} (hd : d < n) : Nat.blt d n = true := by
  have h1 : d + 1 ≤ n := hd
  simpa [Nat.blt, Nat.ble_eq] using h1
theorem zip_rep {n : Env} : ∀ (ps : List Nat) (vs : List Value) (a : Act) (f : Fr), Rep n a f → (∀ p ∈ ps, p < n.n) →
    Rep n { a with tmps := (ps.zip vs).foldl (fun tmps (t, v) => tmps.setIfInBounds t v) a.tmps } (zipF ps vs f)
  | [], _, a, f, ha, _ => by simpa [zipF] using ha
  | p :: ps, [], a, f, ha, _ => by simpa [zipF] using ha
  | p :: ps, v :: vs, a, f, ha, hp => by
    have h1 : Rep n (a.put (some p) v) ((p, v) :: f) := ha.put (blt_of (hp p (by simp))) v
    exact zip_rep ps vs _ _ h1 fun q hq => hp q (by simp [hq])
def jumpOf : Exit → Code
  | .ret => .ret
  | .exit i => .exit i
  | _ => .skip
/-- The heap at a loop's start: the block for what is deferred, and the loop's record. -/
def loop0 (h : Heap) (fn : FuncId) (tmps : Array Value) (ps : Array Tmp) (assign body : Code) : Heap :=
  (h.push (.deferred (some []))).push (.loop { state := .ready, pending := Option.none, fn, tmps, params := ps, assign, body, defers := h.size })
theorem WD.rangeA {g : Operand} {ps : List Tmp} {assign body : Code} {k : FuncId} {lb : List Value} {α : Type} {enc : α → List Value} {L : List α}
    (hg : f.ev g = some (.func (.func k) #[] ⟨lb⟩)) (hcf : ∀ (args : Array Value) (w : World), (callFunc k args).run P w = .ok (.enter k args) w)
    {rd : Nat → Prop} (hseq : ∀ h', Ext No h h' → SeqH P k lb enc L rd h') (hrd : ∀ b, rd b → b < h.size) (hlen : ∀ a, (enc a).length = ps.length) (hps : ps.all (fun p => Nat.blt p m) = true)
    {X : Type} (J : Nat → X → Heap → Prop) (Jx : Exit → X → Heap → Prop) (own : X → Nat → Prop) (x0 : X) (h0 : ∀ h', Ext No h h' → J 0 x0 h')
    (hown : ∀ k x h', J k x h' → ∀ b, own x b → b < h'.size ∧ ¬ rd b) (hown0 : ∀ b, own x0 b → b < h.size)
    (hst : ∀ k x h1 h2 (S : Nat → Prop), J k x h1 → Ext S h1 h2 → (∀ b, S b → b < h1.size → h.size ≤ b ∧ ¬ own x b) → J k x h2)
    (hstx : ∀ e x h1 h2 (S : Nat → Prop), Jx e x h1 → Ext S h1 h2 → (∀ b, S b → b < h1.size → h.size ≤ b ∧ ¬ own x b) → Jx e x h2)
    (hbody : ∀ l k x h1 a, L[k]? = some a → J k x h1 → l < h1.size → WC P ⟨m, [], some l⟩ assign (thenP (fun f' h' => Ext No h1 h' ∧ ∀ h2, Ext (fun b => b = l) h' h2 → J k x h2 → WC P ⟨m, [], some l⟩ body (rndP (J (k + 1)) Jx own x h2) f' h2) noP) (zipF ps (enc a) f) h1)
    (hdone : ∀ D x h', J L.length x h' → open_ h' D → h.size ≤ D → ¬ own x D → Q (D :: Ds) .normal f h')
    (hret : ∀ D x h', Jx .ret x h' → open_ h' D → h.size ≤ D → ¬ own x D → Q (D :: Ds) .ret f h')
    (hexit : ∀ D i x h', Jx (.exit i) x h' → open_ h' D → h.size ≤ D → ¬ own x D → Q (D :: Ds) (.exit i) f h') : WD P m Ds (.rangeFunc g ⟨ps⟩ assign body) Q f h := by
  intro a w ha hw
  subst hw
  refine wpIn_rangeFunc fun fn _ => ?_
  have hlt : ∀ p ∈ ps, p < m := fun p hp => blt_lt (List.all_eq_true.1 hps p hp)
  have hev : a.eval g = .func (.func k) #[] ⟨lb⟩ := ha.agrees _ _ hg
  -- the record
  let rec0 : Loop := { state := .ready, pending := Option.none, fn, tmps := a.tmps, params := ⟨ps⟩, assign, body, defers := w.heap.size }
  let w1 : World := (w.alloc (.deferred (some []))).alloc (.loop rec0)
  have hw1 : w1.heap = (w.heap.push (.deferred (some []))).push (.loop rec0) := rfl
  have hx1 : Ext No w.heap w1.heap := (Ext.push No _ _).trans (Ext.push No _ _)
  have hsz1 : w1.heap.size = w.heap.size + 2 := by rw [hw1]; simp
  have hsame1 : Same w w1 := ⟨rfl, rfl, rfl, Nat.le_refl _⟩
  have hl1 : w1.heap[w.heap.size + 1]? = some (.loop rec0) := by
    rw [hw1]; have := push_new (w.heap.push (.deferred (some []))) (.loop rec0); simpa using this
  have hD1 : open_ w1.heap w.heap.size := by
    have := push_new w.heap (.deferred (some []))
    exact (Ext.push No _ _).obj this id
  refine ⟨w.heap.size + 1, [dmark w.heap.size], w1, ⟨.fn (.func k) ⟨lb⟩, #[.func (.yield (w.heap.size + 1)) #[] #[]]⟩, w1, k, ⟨.func (.yield (w.heap.size + 1)) #[] #[] :: lb⟩, w1, run_enterLoop_outer _ _ _ _ _, ?_, fun _ _ => trivial, ?_, fun e => (by cases e), ?_⟩
  · show (Deferred.ofValue (a.eval g) (Array.map a.eval #[.const (.func (.yield (w.heap.size + 1)) #[] #[])])).run P w1 = _
    rw [hev]
    simp [Deferred.ofValue, Act.eval]
  · show (callFunc k (#[Value.func (.yield (w.heap.size + 1)) #[] #[]] ++ (⟨lb⟩ : Array Value))).run P w1 = _
    rw [show (#[Value.func (.yield (w.heap.size + 1)) #[] #[]] ++ (⟨lb⟩ : Array Value)) = ⟨.func (.yield (w.heap.size + 1)) #[] #[] :: lb⟩ by simp]
    exact hcf _ _
  -- what the rounds keep
  generalize hl : w.heap.size + 1 = l at *
  generalize hD : w.heap.size = D at *
  have hDle : D ≤ D := Nat.le_refl _
  have hlle : D ≤ l := by omega
  let J' : Nat → X → Heap → Prop := fun k x h' => J k x h' ∧ h'[l]? = some (.loop rec0) ∧ open_ h' D ∧ ¬ own x l ∧ ¬ own x D
  let Jx' : X → Heap → Prop := fun x h' => ∃ e, (e = .ret ∨ ∃ i, e = .exit i) ∧ Jx e x h' ∧ h'[l]? = some (.loop { rec0 with state := .done, pending := some (jumpOf e) }) ∧ open_ h' D ∧ ¬ own x l ∧ ¬ own x D
  have hc := hseq w1.heap hx1 X J' Jx' own l x0
    ⟨h0 _ hx1, hl1, hD1, fun e => by have := hown0 _ e; omega, fun e => by have := hown0 _ e; omega⟩ (by omega) (fun e => by have := hrd _ e; omega)
    (fun k x h' hJ => hown k x h' hJ.1)
    (fun k x h1 h2 S ⟨hJ, q1, q2, q3, q4⟩ hx hS => ⟨hst k x h1 h2 S hJ hx (fun b hb hlt => ⟨by have := (hS b hb hlt).1; omega, (hS b hb hlt).2⟩), hx.obj q1 (fun e => by have := (hS _ e (lt_of_some q1)).1; omega), hx.obj q2 (fun e => by have := (hS _ e (lt_of_some q2)).1; omega), q3, q4⟩)
    ?_
  · refine (calls_wide (hc w1 rfl)).mono ?_
    rintro e w3 ⟨hs3, v, rfl, x, hx⟩
    show ∃ jump w₄, _
    rcases hx with ⟨hJ, q1, q2, q3, q4⟩ | ⟨e, he, hJ, q1, q2, q3, q4⟩
    · refine ⟨_, _, run_endLoop q1 (by simp [rec0]), ?_⟩
      have hx4 : Ext (fun b => b = l) w3.heap (w3.putObj l (.loop { rec0 with state := .exhausted })).heap := .set _ _ _ rfl
      refine ⟨rfl, hsame1.trans (hs3.trans ⟨rfl, rfl, rfl, Nat.le_refl _⟩), D :: Ds, f, ⟨ha.size, by simp [ha.defers], ha.at_⟩, ?_⟩
      exact hdone D x _ (hst _ x _ _ _ hJ hx4 (fun b hb _ => by subst hb; exact ⟨hlle, q3⟩)) (hx4.obj q2 (by omega)) hDle q4
    · refine ⟨_, _, run_endLoop q1 (by simp [rec0]), ?_⟩
      have hx4 : Ext (fun b => b = l) w3.heap (w3.putObj l (.loop { rec0 with state := .exhausted, pending := some (jumpOf e) })).heap := .set _ _ _ rfl
      have hJ4 := hstx e x _ _ _ hJ hx4 (fun b hb _ => by subst hb; exact ⟨hlle, q3⟩)
      have hD4 : open_ (w3.putObj l (.loop { rec0 with state := .exhausted, pending := some (jumpOf e) })).heap D := hx4.obj q2 (by omega)
      have hs4 : Same w (w3.putObj l (.loop { rec0 with state := .exhausted, pending := some (jumpOf e) })) := hsame1.trans (hs3.trans ⟨rfl, rfl, rfl, Nat.le_refl _⟩)
      rcases he with rfl | ⟨i, rfl⟩
      · exact wpIn_ret ⟨rfl, hs4, D :: Ds, f, ⟨ha.size, by simp [ha.defers], ha.at_⟩, hret D x _ hJ4 hD4 hDle q4⟩
      · exact wpIn_exit ⟨rfl, hs4, D :: Ds, f, ⟨ha.size, by simp [ha.defers], ha.at_⟩, hexit D i x _ hJ4 hD4 hDle q4⟩
  · rintro k x h1 y ⟨hJ, q1, q2, q3, q4⟩ hy wA hwA
    subst hwA
    refine ⟨fn, _, assign, body, run_yield q1 (by simp [rec0, hlen]), ?_⟩
    refine roundIn_of_wpIn trivial ?_
    have hrep : Rep ⟨m, [], some l⟩ { tmps := ((⟨ps⟩ : Array Tmp).zip ⟨enc y⟩).foldl (fun tmps (t, v) => tmps.setIfInBounds t v) a.tmps, defers := [] } (zipF ps (enc y) f) := by
      have := zip_rep (n := ⟨m, [], some l⟩) ps (enc y) { a with defers := [] } f ⟨ha.size, rfl, ha.at_⟩ hlt
      simpa using this
    refine wpIn_mono (hbody l k x wA.heap y hy hJ (lt_of_some q1) _ _ hrep rfl) ?_
    rintro e a1 w2 ⟨hcalm, hs2, f', hf', hq⟩
    cases e with
    | normal =>
      obtain ⟨hx0, hq⟩ := hq
      have q1' := hx0.obj q1 nos
      have q2' : open_ w2.heap D := hx0.obj q2 nos
      refine ⟨_, run_beginRound q1' rfl, ?_⟩
      have hxb : Ext (fun b => b = l) w2.heap (w2.putObj l (.loop { rec0 with state := .busy })).heap := .set _ _ _ rfl
      have hJ2 : J k x (w2.putObj l (.loop { rec0 with state := .busy })).heap := hst k x _ _ _ (hst k x _ _ No hJ hx0 (fun _ e => e.elim)) hxb (fun b hb _ => by subst hb; exact ⟨hlle, q3⟩)
      have hlb : (w2.putObj l (.loop { rec0 with state := .busy })).heap[l]? = some (.loop { rec0 with state := .busy }) := set_new q1'
      have hDb : open_ (w2.putObj l (.loop { rec0 with state := .busy })).heap D := hxb.obj q2' (by omega)
      have hxA : Ext (fun b => own x b ∨ b = l) wA.heap (w2.putObj l (.loop { rec0 with state := .busy })).heap := (hx0.mono fun _ _ e => e.elim).trans (hxb.mono fun b _ e => .inr e)
      refine wpIn_mono (hq _ hxb hJ2 a1 (w2.putObj l (.loop { rec0 with state := .busy })) hf' rfl) ?_
      rintro e a3 w3 ⟨hcalm3, hs3, f3, hf3, x', hx3, ho3, hq3⟩
      have hl3 : w3.heap[l]? = some (.loop { rec0 with state := .busy }) := hx3.obj hlb q3
      have hD3 : open_ w3.heap D := hx3.obj hDb q4
      have hltl := lt_of_some hlb
      have hltD := lt_of_some hDb
      have hno : ∀ c, (c = l ∨ c = D) → ¬ own x' c := fun c hc e => by
        rcases ho3 c e with e1 | e1
        · rcases hc with rfl | rfl
          · exact q3 e1
          · exact q4 e1
        · rcases hc with rfl | rfl <;> omega
      have hsame : ∀ o, Same wA (w3.putObj l o) := fun o => hs2.trans ((⟨rfl, rfl, rfl, Nat.le_refl _⟩ : Same w2 (w2.putObj l (.loop { rec0 with state := .busy }))).trans (hs3.trans ⟨rfl, rfl, rfl, Nat.le_refl _⟩))
      have hfin : ∀ o, Ext (fun b => own x b ∨ b = l) wA.heap (w3.putObj l o).heap := fun o =>
        (hxA.trans (hx3.mono fun b _ e => .inl e)).trans ((Ext.set w3.heap l o rfl : Ext (fun b => b = l) _ _).mono fun b _ e => .inr e)
      have hset : ∀ o, Ext (fun b => b = l) w3.heap (w3.putObj l o).heap := fun o => .set _ _ _ rfl
      have hszA : wA.heap.size ≤ (w2.putObj l (.loop { rec0 with state := .busy })).heap.size := hxA.size
      have hown3 : ∀ b, own x' b → own x b ∨ wA.heap.size ≤ b := fun b hb => (ho3 b hb).imp id (fun h => Nat.le_trans hszA h)
      cases e with
      | normal =>
        refine ⟨_, _, run_endRound Option.none hl3, hsame _, _, rfl, x', hfin _, hown3, .inl ⟨rfl, ?_, ?_, (hset _).obj hD3 (by omega), hno _ (.inl rfl), hno _ (.inr rfl)⟩⟩
        · exact hst _ x' _ _ _ hq3 (hset _) (fun b hb _ => by subst hb; exact ⟨hlle, hno _ (.inl rfl)⟩)
        · exact set_new hl3
      | ret =>
        refine ⟨_, _, run_endRound (some .ret) hl3, hsame _, _, rfl, x', hfin _, hown3, .inr ⟨rfl, .ret, .inl rfl, ?_, ?_, (hset _).obj hD3 (by omega), hno _ (.inl rfl), hno _ (.inr rfl)⟩⟩
        · exact hstx _ x' _ _ _ hq3 (hset _) (fun b hb _ => by subst hb; exact ⟨hlle, hno _ (.inl rfl)⟩)
        · exact set_new hl3
      | exit i =>
        refine ⟨_, _, run_endRound (some (.exit i)) hl3, hsame _, _, rfl, x', hfin _, hown3, .inr ⟨rfl, .exit i, .inr ⟨i, rfl⟩, ?_, ?_, (hset _).obj hD3 (by omega), hno _ (.inl rfl), hno _ (.inr rfl)⟩⟩
        · exact hstx _ x' _ _ _ hq3 (hset _) (fun b hb _ => by subst hb; exact ⟨hlle, hno _ (.inl rfl)⟩)
        · exact set_new hl3
      | goto t => exact hq3.elim
      | panic c => exact hq3.elim
      | outgrown => exact hq3.elim
    | ret => exact hq.elim
    | exit i => exact hq.elim
    | goto t => exact hq.elim
    | panic c => cases hcalm
    | outgrown => cases hcalm

theorem WD.range {g : Operand} {ps : List Tmp} {assign body : Code} {k : FuncId} {lb : List Value} {α : Type} {enc : α → List Value} {L : List α}
    (hg : f.ev g = some (.func (.func k) #[] ⟨lb⟩)) (hcf : ∀ (args : Array Value) (w : World), (callFunc k args).run P w = .ok (.enter k args) w)
    {rd : Nat → Prop} (hseq : ∀ h', Ext No h h' → SeqH P k lb enc L rd h') (hrd : ∀ b, rd b → b < h.size) (hlen : ∀ a, (enc a).length = ps.length) (hps : ps.all (fun p => Nat.blt p m) = true)
    {X : Type} (J : Nat → X → Heap → Prop) (Jx : Exit → X → Heap → Prop) (own : X → Nat → Prop) (x0 : X) (h0 : ∀ h', Ext No h h' → J 0 x0 h')
    (hown : ∀ k x h', J k x h' → ∀ b, own x b → b < h'.size ∧ ¬ rd b) (hown0 : ∀ b, own x0 b → b < h.size)
    (hst : ∀ k x h1 h2 (S : Nat → Prop), J k x h1 → Ext S h1 h2 → (∀ b, S b → b < h1.size → h.size ≤ b ∧ ¬ own x b) → J k x h2)
    (hstx : ∀ e x h1 h2 (S : Nat → Prop), Jx e x h1 → Ext S h1 h2 → (∀ b, S b → b < h1.size → h.size ≤ b ∧ ¬ own x b) → Jx e x h2)
    (hbody : ∀ l k x h1 a, L[k]? = some a → J k x h1 → WC P ⟨m, [], some l⟩ assign (thenP (fun f' h' => h' = h1 ∧ ∀ h2, J k x h2 → WC P ⟨m, [], some l⟩ body (rndP (J (k + 1)) Jx own x h2) f' h2) noP) (zipF ps (enc a) f) h1)
    (hdone : ∀ D x h', J L.length x h' → open_ h' D → h.size ≤ D → ¬ own x D → Q (D :: Ds) .normal f h')
    (hret : ∀ D x h', Jx .ret x h' → open_ h' D → h.size ≤ D → ¬ own x D → Q (D :: Ds) .ret f h')
    (hexit : ∀ D i x h', Jx (.exit i) x h' → open_ h' D → h.size ≤ D → ¬ own x D → Q (D :: Ds) (.exit i) f h') : WD P m Ds (.rangeFunc g ⟨ps⟩ assign body) Q f h :=
  .rangeA hg hcf hseq hrd hlen hps J Jx own x0 h0 hown hown0 hst hstx (fun l k x h1 a hL hJ _ => (hbody l k x h1 a hL hJ).mono fun e f' h' q => by
    cases e with
    | normal => exact ⟨by rw [q.1]; exact .refl _ _, fun h2 _ => q.2 h2⟩
    | ret => exact q
    | exit i => exact q
    | goto t => exact q
    | panic c => exact q
    | outgrown => exact q) hdone hret hexit
/-! ### the function as a whole -/
def shutAll : List Nat → Heap → Heap
  | [], h => h
  | D :: Ds, h => shutAll Ds (h.setIfInBounds D (.deferred Option.none))
def retD (P : Program) (fn : Func) (R : Value → Heap → Prop) : List Nat → Post := fun Ds e f h =>
  (e = .ret ∨ e = .normal) ∧ (∀ D ∈ Ds, open_ h D) ∧ Ds.Nodup ∧ ∃ vs, ResL P (shutAll Ds h) f fn.results.toList vs ∧ R (tup vs) (shutAll Ds h)
theorem leaves_marks {fn : Func} {tmps : Array Value} {R : Ending → World → Prop} : ∀ (Ds : List Nat) (w : World), (∀ D ∈ Ds, open_ w.heap D) → Ds.Nodup →
    (∀ w', Same w w' → w'.heap = shutAll Ds w.heap → LeavesIn (wd Option.none) 0 P fn tmps R [] .returning w') → LeavesInM (wd Option.none) 0 P fn tmps R (Ds.map dmark) .returning w
  | [], w, _, _, h => h w (.refl w) rfl
  | D :: Ds, w, ho, hn, h => by
    obtain ⟨hn1, hn2⟩ := List.nodup_cons.1 hn
    refine ⟨(fun e => by cases e), .inl ⟨D, _, rfl, run_takeDeferred (ho D (by simp)), ?_⟩⟩
    refine leaves_marks Ds _ (fun D' hD' => ?_) hn2 (fun w' hs hw' => h w' ((⟨rfl, rfl, rfl, Nat.le_refl _⟩ : Same w (w.putObj D (.deferred Option.none))).trans hs) hw')
    exact set_old (fun e => hn1 (e ▸ hD')) (ho D' (by simp [hD']))
theorem callsD {k : FuncId} {fn : Func} {c : Code} {args : List Value} {R : Value → Heap → Prop} (f0 : Fr) (hf : P.funcs[k]? = some fn) (hb : fn.body = some c) (hn : fn.ntmps = m) (hsz : Nat.ble args.length m = true) (ha : ArgL f0 args)
    (hc : WD P m [] c (retD P fn R) f0 h) : CallsH P k ⟨args⟩ h R := by
  intro w hw
  refine callsIn_wide (n := 0) |>.1 (callsIn_of_wp_marks hf hb trivial ?_)
  have hle : args.length ≤ m := by simpa [Nat.ble_eq] using hsz
  refine wpIn_mono (hc _ w (rep_enter hn hle ha) hw) ?_
  rintro e a w' ⟨hl, hs, Ds, g, hg, he, ho, hnd, vs, hr, hR⟩
  have key : LeavesInM (wd Option.none) 0 P fn a.tmps (fun e w'' => Same w w'' ∧ ∃ v, e = .returned v ∧ R v w''.heap) a.defers .returning w' := by
    rw [hg.defers]
    refine leaves_marks Ds w' ho hnd fun w2 hs2 hw2 => ⟨tup vs, ?_, hs.trans hs2, _, rfl, hw2 ▸ hR⟩
    exact run_results (P := P) (n := ⟨m, Ds.map dmark, Option.none⟩) (h := shutAll Ds w'.heap) hg hw2 hr
  rcases he with rfl | rfl <;> exact key
/-- What lies in cells is not touched where the marks are taken up. -/
theorem shut1 {D : Nat} (_ : open_ h D) : Ext (fun b => b = D) h (shutAll [D] h) := .set _ _ _ rfl
theorem retD_0 {fn : Func} {R : Value → Heap → Prop} {f : Fr} (hq : retP P fn R .ret f h) : retD P fn R [] .ret f h := ⟨.inl rfl, fun _ h => (by cases h), List.nodup_nil, hq⟩
theorem retD_1 {fn : Func} {R : Value → Heap → Prop} {f : Fr} {D : Nat} (ho : open_ h D) (hq : retP P fn R .ret f (shutAll [D] h)) : retD P fn R [D] .ret f h :=
  ⟨.inl rfl, fun _ hd => by obtain rfl := List.mem_singleton.1 hd; exact ho, (by simp), hq⟩
end
end Go.RK

/-
  REGISTRY (layer 14): a registry that no call made; the law's awake; statements as they come in.
-/
namespace Go.Proofs.YtggmocdbfbhklaaGreat
open Go Go.RK

/-- A statement as it lies: its text, the value of its types, its types. -/
abbrev Stm := List UInt8 × Value × List Int
def stC (s : Stm) : List Value := [St s.1, s.2.1]
theorem stC_len (s : Stm) : (stC s).length = 2 := rfl
def stOk (h : Heap) (s : Stm) : Prop := Rd h s.2.1 1 s.2.2.length (ints s.2.2) ∧ s.2.2.length * 8 ≤ reachBytes
theorem opens_ints14 (w : World) : Opens Tryz.prog w 24 (fun p : Value × List Int => [p.1]) (fun p => Rd w.heap p.1 1 p.2.length (ints p.2) ∧ p.2.length * 8 ≤ reachBytes) :=
  (opens_slice (sz := 1) (F := fun n : Int => [In n]) Tryz.underlying24 (by kernel_rfl) (by decide) (fun _ => rfl) (opens_int Tryz.underlying3)).map id (fun _ => rfl) fun p q => ⟨by have := q.1; rw [flat_one] at this; exact this, by have := q.2.2.2.2; rwa [show Tryz.prog.bytesOf 3 = 8 by kernel_rfl] at this⟩
theorem opens_stm (w : World) : Opens Tryz.prog w 63 stC (fun s => stOk w.heap s) := by
  have h1 := opensF_cons (P := Tryz.prog) (w := w) (o := 1) (f := ⟨ "OIDs", 24, 1, false, "", "", 16⟩) rfl (opens_ints14 w) (by kernel_rfl) (fun _ => rfl) opensF_nil
  have h2 := opensF_cons (P := Tryz.prog) (w := w) (o := 0) (f := ⟨ "Text", 9, 0, false, "", "", 0⟩) rfl (opens_string Tryz.underlying9) (by kernel_rfl) (fun _ => rfl) h1
  exact (opens_struct Tryz.underlying63 (by kernel_rfl) h2).map (fun p => ((p.1, p.2.1.1, p.2.1.2) : Stm)) (fun _ => rfl) (fun p q => q.2.1)
theorem stOk.le {h : Heap} {s : Stm} (k : stOk h s) : s.2.2.length ≤ maxLen := by have := k.2; unfold reachBytes at this; unfold maxLen; omega
/-! ### no registry -/
section
variable {h : Heap} {v : Value}
def NoR (h : Heap) (v : Value) : Prop := ∀ h', Ext No h h' → CallsH Tryz.prog 45 ⟨[v]⟩ h' fun u h'' => u = .bool false ∧ h'' = h'
theorem NoR.ext {h' : Heap} (k : NoR h v) (x : Ext No h h') : NoR h' v := fun _ y => k _ (x.trans y)
end
/-! ### what a call may turn -/
def MR (b m1 m2 : Nat) (L : List Rn) (q : Nat) : Prop := q = b ∨ q = m1 ∨ q = m2 ∨ ∃ e ∈ L, q = e.p ∨ e.v.ownBlock = some q
theorem Rg.not {B : Nat} {c : Int} {h : Heap} {b m1 m2 : Nat} {last : Int} {L : List Rn} (r : Rg B c h b m1 m2 last L) {g : Nat} {cs : Array Value} {T : TypeId} (hg : h[g]? = some (.cells cs T (0, 0))) (t1 : T ≠ 105) (t2 : T ≠ 99) (t3 : T ≠ 3) : ¬ MR b m1 m2 L g := by
  rintro (rfl | rfl | rfl | ⟨e, he, rfl | q⟩)
  · have := r.blk; rw [hg] at this; simp only [Option.some.injEq, Obj.cells.injEq] at this; exact t1 this.2.1
  · obtain ⟨_, ⟨_, _, e, _⟩, _⟩ := r.mp1; rw [hg] at e; cases e
  · obtain ⟨_, ⟨_, _, e, _⟩, _⟩ := r.mp2; rw [hg] at e; cases e
  · have := r.recs e he; rw [hg] at this; simp only [Option.some.injEq, Obj.cells.injEq] at this; exact t2 this.2.1
  · obtain ⟨_, ⟨e1, _⟩ | ⟨g', cap, cur, e1, hg', _⟩⟩ := r.oid e he
    · rw [e1] at q; cases q
    · rw [e1] at q
      have e2 : g' = g := by simpa [Value.ownBlock] using q
      subst e2
      rw [hg] at hg'; simp only [Option.some.injEq, Obj.cells.injEq] at hg'; exact t3 hg'.2.1
end Go.Proofs.YtggmocdbfbhklaaGreat


/-
  REGISTRY (layer 14): the law's calls, as they come in; any call at the code's registry.
-/
namespace Go.Proofs.YtggmocdbfbhklaaGreat
open Go Go.RK

abbrev Do14 := Int × Int × Stm
def d14C (d : Do14) : List Value := [In d.1, In d.2.1, St d.2.2.1, d.2.2.2.1]
section
variable {B : Nat} {c : Int} {h h' : Heap} {b m1 m2 : Nat} {last : Int} {L : List Rn}
theorem MR.lt (r : Rg B c h b m1 m2 last L) {q : Nat} (hq : MR b m1 m2 L q) : q < h.size := by
  obtain ⟨l1, l2, l3, l4, l5⟩ := r.lt
  rcases hq with rfl | rfl | rfl | ⟨e, he, rfl | hq⟩
  · exact l1
  · exact l2
  · exact l3
  · exact l4 e he
  · exact l5 e he q hq
theorem split_of {e : Rn} (he : e ∈ L) : ∃ L1 L2, L = L1 ++ e :: L2 := List.append_of_mem he
end
end Go.Proofs.YtggmocdbfbhklaaGreat


/-
  REGISTRY (layer 14): the document's: a list of slots.
-/
namespace Go.Proofs.YtggmocdbfbhklaaGreat
open Go Go.RK

abbrev dC (e : Rn) : List Value := [In e.id, In e.rf, St e.t, e.v]
theorem dC_len (e : Rn) : (dC e).length = 4 := rfl
/-- The document's registry at block bt, its row v. (Of an Rn: no block of a record's.) -/
structure R14 (B : Nat) (h : Heap) (bt : Nat) (v : Value) (last : Int) (D : List Rn) : Prop where
  blk : h[bt]? = some (.cells ⟨[v, In last]⟩ 54 (0, 0))
  own : Own h v 101 4 D.length (D.flatMap dC)
  oid : ∀ e ∈ D, Own h e.v 3 1 e.o.length (ints e.o)
  lo : B ≤ bt ∧ (∀ q, v.ownBlock = some q → B ≤ q) ∧ ∀ e ∈ D, ∀ q, e.v.ownBlock = some q → B ≤ q
  bd : D.length ≤ 1000000 ∧ ∀ e ∈ D, e.o.length ≤ 65535
def MD (bt : Nat) (v : Value) (D : List Rn) (q : Nat) : Prop := q = bt ∨ v.ownBlock = some q ∨ ∃ e ∈ D, e.v.ownBlock = some q
theorem own_kind14 {h : Heap} {v : Value} {T : TypeId} {sz n q : Nat} {xs : List Value} (ho : Own h v T sz n xs) (hq : v.ownBlock = some q) : ∃ cur, h[q]? = some (.cells cur T (0, 0)) := by
  obtain ⟨_, ⟨e1, _⟩ | ⟨g, cap, cur, e1, hg, _⟩⟩ := ho
  · rw [e1] at hq; cases hq
  · rw [e1] at hq
    have : g = q := by simpa [Value.ownBlock] using hq
    exact ⟨cur, this ▸ hg⟩
section
variable {B : Nat} {h h' : Heap} {bt : Nat} {v : Value} {last : Int} {D D1 D2 : List Rn} {d : Rn}
theorem ne_kind {x y : Nat} {cs cs' : Array Value} {T T' : TypeId} {z z' : Nat × Nat} (ht : T ≠ T') (h1 : h[x]? = some (.cells cs T z)) (h2 : h[y]? = some (.cells cs' T' z')) : x ≠ y := fun e => by
  rw [e, h2] at h1
  simp only [Option.some.injEq, Obj.cells.injEq] at h1
  exact ht h1.2.1.symm
theorem R14.sep (r : R14 B h bt v last D) : (∀ q, v.ownBlock = some q → q ≠ bt) ∧ ∀ e ∈ D, ∀ q, e.v.ownBlock = some q → q ≠ bt ∧ v.ownBlock ≠ some q := by
  refine ⟨fun q hq => ?_, fun e he q hq => ?_⟩
  · obtain ⟨_, e1⟩ := own_kind14 r.own hq
    exact ne_kind (by decide) e1 r.blk
  · obtain ⟨_, e1⟩ := own_kind14 (r.oid e he) hq
    refine ⟨ne_kind (by decide) e1 r.blk, fun z => ?_⟩
    obtain ⟨_, e2⟩ := own_kind14 r.own z
    exact ne_kind (by decide) e1 e2 rfl
theorem R14.lt (r : R14 B h bt v last D) {q : Nat} (hq : MD bt v D q) : q < h.size := by
  rcases hq with rfl | hq | ⟨e, he, hq⟩
  · exact lt_of_some r.blk
  · exact r.own.lt hq
  · exact (r.oid e he).lt hq
theorem R14.ext {S : Nat → Prop} (r : R14 B h bt v last D) (a : Ext S h h') (hS : ∀ q, MD bt v D q → ¬ S q) : R14 B h' bt v last D :=
  ⟨a.obj r.blk (hS _ (.inl rfl)), r.own.ext a (fun q hq => hS q (.inr (.inl hq))), fun e he => (r.oid e he).ext a (fun q hq => hS q (.inr (.inr ⟨e, he, hq⟩))), r.lo, r.bd⟩
theorem R14.ext0 (r : R14 B h bt v last D) (a : Ext No h h') : R14 B h' bt v last D := r.ext a fun _ _ => nos
theorem at_mid : (D1 ++ d :: D2)[D1.length]? = some d := by simp
theorem idx_mid (hd : ∀ x ∈ D1, x.id ≠ d.id) : idxOf ((D1 ++ d :: D2).map (·.id)) d.id = D1.length := by
  refine idxOf_at (by simp) ?_
  simp only [List.map_append, List.map_cons]
  rw [List.take_append_of_le_length (by simp), List.take_of_length_le (by simp)]
  simp only [List.mem_map, not_exists, not_and]
  exact hd
theorem idx_no {id : Int} (hd : ∀ x ∈ D, x.id ≠ id) : idxOf (D.map (·.id)) id = -1 := idxOf_no (by simp only [List.mem_map, not_exists, not_and]; exact hd)
set_option maxHeartbeats 2000000 in
set_option maxRecDepth 100000 in
theorem place14 (r : R14 B h bt v last D) (id : Int) : CallsH Tryz.prog 44 ⟨[ptE bt, In id]⟩ h fun u h' => u = In (idxOf (D.map (·.id)) id) ∧ h' = h := by
  have hl := r.bd.1
  have hB0 := r.blk
  have ho := r.own
  have hos := ho.slice
  obtain ⟨A, c, rfl, _⟩ := hos
  unfold ptE
  refine calls [(0, _), (1, _)] Tryz.func44 rfl Tryz.ntmps44 rfl ⟨rfl, rfl, trivial⟩ ?_
  all_goals (refine WC.sr ?_; refine Go ?_; refine WC.seq ?_; refine WC.sr ?_; refine Go ?_; refine WC.block ?_)
  -- loop 0: slots that turn [5], that stay [0, 1]
  all_goals (refine WC.loopG (X := Nat) (fun x => ([(5, In (x : Int))] : Fr)) [(0, _), (1, _)] (fun k h' => h' = h ∧ k ≤ D.length ∧ ∀ p ∈ D.take k, p.id ≠ id) (fun k => D.length - k) (0) ⟨rfl, rfl, rfl, trivial⟩ (by exact ⟨rfl, Nat.zero_le _, by simp⟩) ?_; rintro k h9 ⟨hz, hk, hn⟩; subst h9; refine WC.sub [(5, _), (0, _), (1, _)] ⟨rfl, rfl, rfl, trivial⟩ ?_; refine WC.seq ?_; refine WC.sr ?_; refine Go ?_; refine WL.step (ok_nilCheck rfl) rfl rfl rfl ?_; refine Go ?_; refine WL.ld rfl (by first | exact cell_blk hB0 rfl | assumption | exact cell_blk (by assumption) rfl) rfl rfl rfl ?_; refine Go ?_; refine Gs [(0, _), (1, _), (5, _), (12, _)] ?_; refine goC 1 2 (Hb.mk fun hb => ?_) (Hb.mk fun hb => ?_))
  all_goals (first | (fail_if_success refine goB 1 ?_) | (
  refine goB 1 ?_
  all_goals (refine WC.skip ?_)
  skip))
  all_goals (first | (fail_if_success refine goB 2 ?_) | (
  refine goB 2 ?_
  all_goals (refine WC.exit ?_; repeat' (with_reducible first | refine thenP_x ?_ | refine blockP_miss rfl ?_ | refine blockP_hit ?_ | refine blockP_n ?_ | refine thenP_n ?_))
  all_goals (refine Br.out (i := 1000) ?_)
  skip))
  all_goals (refine Gn ?_; first | (refine Br.keep ?_) | (refine WC.seq ?_))
  all_goals (first | (refine Br.keep ?_) | (refine WC.block ?_))
  all_goals (first | (refine Br.keep ?_) | (refine WC.sr ?_))
  all_goals (first
               | (refine Br.keep ?_)
               | (obtain ⟨bL, oL, hA, hbL, hat⟩ := Rd.at_ ho.rd (by omega)
                  obtain ⟨y, hy⟩ : ∃ y, D[k]? = some y := ⟨_, List.getElem?_eq_getElem (by omega)⟩
                  have hc : At h bL (oL + k * 4) (dC y) := At.elem dC_len hat hy))
  all_goals (first | (refine Br.keep ?_) | (refine WL.step (ok_move rfl) rfl rfl rfl ?_))
  all_goals (first | (refine Br.keep ?_) | (refine WL.step (ok_nilCheck rfl) rfl rfl rfl ?_))
  all_goals (refine Go ?_; first | (refine Br.keep ?_) | (refine WL.ld rfl (by first | exact cell_blk hB0 rfl | assumption | exact cell_blk (by assumption) rfl) rfl rfl rfl ?_))
  all_goals (refine Go ?_; first | (refine Br.keep ?_) | (refine WL.step (ok_idxAddrA Tryz.underlying52 (fun w => Tryz.sizeOf101 w) rfl rfl rfl (by omega) (by first | rfl | assumption)) rfl rfl rfl ?_))
  all_goals (refine Go ?_; first | (refine Br.keep ?_) | (refine WL.ld rfl (by first | exact hc.get 0 rfl rfl | assumption | exact cell_blk (by assumption) rfl) rfl rfl rfl ?_))
  all_goals (refine Go ?_; first | (refine Br.keep ?_) | (refine Gs [(0, _), (1, _), (5, _), (24, _)] ?_))
  all_goals (first | (refine Br.keep ?_) | (refine goC 3 4 (Hb.mk fun hb => ?_) (Hb.mk fun hb => ?_)))
  all_goals (first | (fail_if_success refine goB 3 ?_) | (
  refine goB 3 ?_
  all_goals (refine WC.sr ?_; refine Go ?_; refine Gs [(4, _)] ?_; refine Gt ?_)
  all_goals (first
              | (have hyy := hy; exact ⟨by rw [idxOf_at (l := D.map (·.id)) (k := k) (by simp [hy, hb]) (by rw [← List.map_take]; simp only [List.mem_map, not_exists, not_and]; exact hn)], rfl⟩)
              | exact ⟨by rw [idx_no (by rw [List.take_of_length_le (by omega)] at hn; exact hn)], rfl⟩)
  skip))
  all_goals (first | (fail_if_success refine goB 4 ?_) | (
  refine goB 4 ?_
  all_goals (refine WC.skip ?_)
  skip))
  all_goals (refine Gn ?_; first | (refine Br.keep ?_) | (refine WC.region ?_))
  all_goals (refine Go ?_; first | (refine Br.keep ?_) | (exact ⟨k + 1, ⟨rfl, rfl, rfl, trivial⟩, (by exact ⟨rfl, by omega, fun p hp => by rw [List.take_add_one, hy] at hp; rcases List.mem_append.1 hp with hp | hp; exact hn p hp; simp at hp; subst hp; omega⟩), (by omega)⟩))
  all_goals (try (refine Br.mk (i := 1000) ?_))
  all_goals (refine Gn ?_; refine Gs [] ?_; refine WC.sr ?_; refine Go ?_; refine Gt ?_)
  all_goals (first
              | (have hyy := hy; exact ⟨by rw [idxOf_at (l := D.map (·.id)) (k := k) (by simp [hy, hb]) (by rw [← List.map_take]; simp only [List.mem_map, not_exists, not_and]; exact hn)], rfl⟩)
              | exact ⟨by rw [idx_no (by rw [List.take_of_length_le (by omega)] at hn; exact hn)], rfl⟩)
set_option maxHeartbeats 2000000 in
set_option maxRecDepth 100000 in
theorem refs14 (r : R14 B h bt v last (D1 ++ d :: D2)) (hd : ∀ x ∈ D1, x.id ≠ d.id) : CallsH Tryz.prog 16 ⟨[ptE bt, In d.id]⟩ h fun u h' => u = In d.rf ∧ h' = h := by
  have kp := place14 r d.id
  rw [idx_mid hd] at kp
  have hB0 := r.blk
  have ho := r.own
  have hos := ho.slice
  obtain ⟨A, c, rfl, _⟩ := hos
  have hlt : D1.length < (D1 ++ d :: D2).length := by simp
  obtain ⟨bL, oL, hA, hbL, hat⟩ := Rd.at_ ho.rd (by omega)
  have hc : At h bL (oL + D1.length * 4) (dC d) := At.elem dC_len hat at_mid
  unfold ptE at *
  refine calls [(0, _), (1, _)] Tryz.func16 rfl Tryz.ntmps16 rfl ⟨rfl, rfl, trivial⟩ ?_
  all_goals (refine WC.sr ?_; refine Go ?_; refine WC.sr ?_; refine Go ?_; refine WL.call (vs := [_, _]) rfl (fun a w => Tryz.call44 a w) rfl (kp) rfl rfl rfl ?_; rintro _ hz ⟨rfl, _⟩; subst hz; refine Go ?_; refine Gs [(0, _), (5, _)] ?_; refine WC.seq ?_; refine WC.sr ?_; refine Go ?_; refine goC 1 2 ?_ TT.mk; refine goB 2 ?_; refine WC.skip ?_; refine Gn ?_; refine WC.sr ?_; refine Go ?_; refine WL.step (ok_nilCheck rfl) rfl rfl rfl ?_; refine Go ?_; refine WL.ld rfl (by first | exact cell_blk hB0 rfl | assumption | exact cell_blk (by assumption) rfl) rfl rfl rfl ?_; refine Go ?_; refine WL.step (ok_idxAddrA Tryz.underlying52 (fun w => Tryz.sizeOf101 w) rfl rfl rfl (by omega) (by first | rfl | assumption)) rfl rfl rfl ?_; refine Go ?_; refine WL.ld rfl (by first | exact hc.get 1 rfl rfl | assumption | exact cell_blk (by assumption) rfl) rfl rfl rfl ?_; refine Go ?_; refine Gs [(4, _)] ?_; refine Gt ?_; exact ⟨rfl, rfl⟩)
set_option maxHeartbeats 2000000 in
set_option maxRecDepth 100000 in
theorem refs14_no (r : R14 B h bt v last D) {id : Int} (hd : ∀ x ∈ D, x.id ≠ id) : CallsH Tryz.prog 16 ⟨[ptE bt, In id]⟩ h fun u h' => u = In 0 ∧ h' = h := by
  have kp := place14 r id
  rw [idx_no hd] at kp
  unfold ptE at *
  refine calls [(0, _), (1, _)] Tryz.func16 rfl Tryz.ntmps16 rfl ⟨rfl, rfl, trivial⟩ ?_
  all_goals (refine WC.sr ?_; refine Go ?_; refine WC.sr ?_; refine Go ?_; refine WL.call (vs := [_, _]) rfl (fun a w => Tryz.call44 a w) rfl (kp) rfl rfl rfl ?_; rintro _ hz ⟨rfl, _⟩; subst hz; refine Go ?_; refine Gs [(0, _), (5, _)] ?_; refine WC.seq ?_; refine WC.sr ?_; refine Go ?_; refine goC 1 2 ?_ TT.mk; refine goB 1 ?_; refine WC.sr ?_; refine Go ?_; refine Gs [(4, _)] ?_; refine Gt ?_; exact ⟨rfl, rfl⟩)
set_option maxHeartbeats 2000000 in
set_option maxRecDepth 100000 in
theorem get14 (r : R14 B h bt v last (D1 ++ d :: D2)) (hd : ∀ x ∈ D1, x.id ≠ d.id) : CallsH Tryz.prog 69 ⟨[ptE bt, In d.id]⟩ h fun u h' => u = .tuple ⟨[.agg ⟨[St d.t, d.v]⟩, .bool true]⟩ ∧ Ext No h h' := by
  have kp := fun h' (hx : Ext No h h') => place14 (r.ext0 hx) d.id
  rw [idx_mid hd] at kp
  have hB0 := r.blk
  have ho := r.own
  have hos := ho.slice
  obtain ⟨A, c, rfl, _⟩ := hos
  have hlt : D1.length < (D1 ++ d :: D2).length := by simp
  obtain ⟨bL, oL, hA, hbL, hat⟩ := Rd.at_ ho.rd (by omega)
  have hc : At h bL (oL + D1.length * 4) (dC d) := At.elem dC_len hat at_mid
  obtain ⟨Av, cv, hv, _⟩ := (r.oid d (by simp)).slice
  unfold dC at hc
  rw [hv] at hc ⊢
  unfold ptE at *
  refine calls [(0, _), (1, _)] Tryz.func69 rfl Tryz.ntmps69 rfl ⟨rfl, rfl, trivial⟩ ?_
  all_goals (refine WC.sr ?_; refine WL.stepR (okE_alloc (fun w => Tryz.zeroValue63 w)) rfl rfl rfl ?_; rintro _ h1 ⟨b1, rfl, hg1, hb1, hx1⟩; refine Go ?_; refine WC.sr ?_; refine Go ?_; refine WL.call (vs := [_, _]) rfl (fun a w => Tryz.call44 a w) rfl (kp _ hx1) rfl rfl rfl ?_; rintro _ hz ⟨rfl, _⟩; subst hz; refine Go ?_; refine Gs [(0, _), (4, _), (6, _)] ?_; refine WC.seq ?_; refine WC.sr ?_; refine Go ?_; refine goC 1 2 ?_ TT.mk; refine goB 2 ?_; refine WC.skip ?_; refine Gn ?_; refine WC.sr ?_; refine Go ?_; refine WL.step (ok_nilCheck rfl) rfl rfl rfl ?_; refine Go ?_; refine WL.ld rfl (by first | exact cell_blk (hx1.obj hB0 nos) rfl | assumption | exact cell_blk (by assumption) rfl) rfl rfl rfl ?_; refine Go ?_; refine WL.step (ok_idxAddrA Tryz.underlying52 (fun w => Tryz.sizeOf101 w) rfl rfl rfl (by omega) (by first | rfl | assumption)) rfl rfl rfl ?_; refine Go ?_; refine WL.step (ok_loadN (fun w => Tryz.isAgg63 w) (fun w => Tryz.sizeOf63 w) rfl rfl (by exact show At _ _ _ [St d.t, .slice Av d.o.length cv] from (hc.drop 2).ext hx1 nos)) rfl rfl rfl ?_; refine WL.stepR0 (okE_storeW (fun w => Tryz.sizeOf63 w) rfl rfl rfl hb1 rfl (by simp [Value.oneCell'])) rfl rfl ?_; rintro _ h3 ⟨hb3, hx3⟩; refine Go ?_; refine Gs [(4, _), (5, _)] ?_; refine WC.ret ?_; repeat' (with_reducible first | refine thenP_r ?_ | refine blockP_r ?_))
  all_goals (refine retP_2 _ _ ⟨⟨_, rfl, ld_blk (fun w => Tryz.isAgg63 w) (fun w => Tryz.sizeOf63 w) hb3 rfl⟩, rfl, trivial⟩ ?_; exact ⟨rfl, hx1.trans' hx3 (fun q hq e => by omega)⟩)
set_option maxHeartbeats 2000000 in
set_option maxRecDepth 100000 in
theorem get14_no (r : R14 B h bt v last D) {id : Int} (hd : ∀ x ∈ D, x.id ≠ id) : CallsH Tryz.prog 69 ⟨[ptE bt, In id]⟩ h fun u h' => u = .tuple ⟨[.agg ⟨[St [], .slice none 0 0]⟩, .bool false]⟩ ∧ Ext No h h' := by
  have kp := fun h' (hx : Ext No h h') => place14 (r.ext0 hx) id
  rw [idx_no hd] at kp
  unfold ptE at *
  refine calls [(0, _), (1, _)] Tryz.func69 rfl Tryz.ntmps69 rfl ⟨rfl, rfl, trivial⟩ ?_
  all_goals (refine WC.sr ?_; refine WL.stepR (okE_alloc (fun w => Tryz.zeroValue63 w)) rfl rfl rfl ?_; rintro _ h1 ⟨b1, rfl, hg1, hb1, hx1⟩; refine Go ?_; refine WC.sr ?_; refine Go ?_; refine WL.call (vs := [_, _]) rfl (fun a w => Tryz.call44 a w) rfl (kp _ hx1) rfl rfl rfl ?_; rintro _ hz ⟨rfl, _⟩; subst hz; refine Go ?_; refine Gs [(0, _), (4, _), (6, _)] ?_; refine WC.seq ?_; refine WC.sr ?_; refine Go ?_; refine goC 1 2 ?_ TT.mk; refine goB 1 ?_; refine WC.sr ?_; refine WL.step (ok_buildF (vs := []) (cs := [_, _]) (fun | [] => [(St []), (.slice none 0 0)] | _ => []) rfl rfl (by kernel_rfl)) rfl rfl rfl ?_; refine WL.stepR0 (okE_storeW (fun w => Tryz.sizeOf63 w) rfl rfl rfl hb1 rfl (by simp [Value.oneCell'])) rfl rfl ?_; rintro _ h3 ⟨hb3, hx3⟩; refine Go ?_; refine Gs [(4, _), (5, _)] ?_; refine WC.ret ?_; repeat' (with_reducible first | refine thenP_r ?_ | refine blockP_r ?_))
  all_goals (refine retP_2 _ _ ⟨⟨_, rfl, ld_blk (fun w => Tryz.isAgg63 w) (fun w => Tryz.sizeOf63 w) hb3 rfl⟩, rfl, trivial⟩ ?_; exact ⟨rfl, hx1.trans' hx3 (fun q hq e => by omega)⟩)
set_option maxHeartbeats 2000000 in
set_option maxRecDepth 100000 in
theorem find14 (r : R14 B h bt v last D) (s : Stm) (ok : stOk h s) : CallsH Tryz.prog 48 ⟨[ptE bt, .agg ⟨stC s⟩]⟩ h fun u h' => (∃ x b, u = .tuple ⟨[In x, .bool b]⟩ ∧ ((b = true ∧ ∃ y ∈ D, (y.t = s.1 ∧ y.o = s.2.2) ∧ x = y.id) ∨ (b = false ∧ x = 0 ∧ ∀ y ∈ D, ¬ (y.t = s.1 ∧ y.o = s.2.2)))) ∧ Ext No h h' := by
  obtain ⟨t, vs, o⟩ := s
  have hl := r.bd.1
  have hB0 := r.blk
  have ho := r.own
  have hs := ok.1
  have hsl := ok.le
  have hos := ho.slice
  obtain ⟨A, c, rfl, _⟩ := hos
  dsimp only at hs hsl
  unfold ptE stC
  dsimp only
  refine calls [(0, _), (1, _)] Tryz.func48 rfl Tryz.ntmps48 rfl ⟨rfl, rfl, trivial⟩ ?_
  all_goals (refine WC.sr ?_; refine WL.stepR (okE_box rfl) rfl rfl rfl ?_; rintro _ h1 ⟨b1, rfl, hg1, hb1, hx1⟩; refine Go ?_; refine WC.seq ?_; refine WC.sr ?_; refine Go ?_; refine WC.block ?_)
  -- loop 0: slots that turn [6], that stay [0, 3]
  all_goals (refine WC.loopG (X := Nat) (fun x => ([(6, In (x : Int))] : Fr)) [(0, _), (3, _)] (fun k h' => Ext No h1 h' ∧ k ≤ D.length ∧ ∀ p ∈ D.take k, ¬ (p.t = t ∧ p.o = o)) (fun k => D.length - k) (0) ⟨rfl, rfl, rfl, trivial⟩ (by exact ⟨.refl _ _, Nat.zero_le _, by simp⟩) ?_; rintro k h2 ⟨hx2, hk, hn⟩; have hX2 := hx1.trans hx2; have hb12 := hx2.obj hb1 nos; refine WC.sub [(6, _), (0, _), (3, _)] ⟨rfl, rfl, rfl, trivial⟩ ?_; refine WC.seq ?_; refine WC.sr ?_; refine Go ?_; refine WL.step (ok_nilCheck rfl) rfl rfl rfl ?_; refine Go ?_; refine WL.ld rfl (by first | exact cell_blk (hX2.obj hB0 nos) rfl | assumption | exact cell_blk (by assumption) rfl) rfl rfl rfl ?_; refine Go ?_; refine Gs [(0, _), (3, _), (6, _), (13, _)] ?_; refine goC 1 2 (Hb.mk fun hb => ?_) (Hb.mk fun hb => ?_))
  all_goals (first | (fail_if_success refine goB 1 ?_) | (
  refine goB 1 ?_
  all_goals (refine WC.skip ?_)
  skip))
  all_goals (first | (fail_if_success refine goB 2 ?_) | (
  refine goB 2 ?_
  all_goals (refine WC.exit ?_; repeat' (with_reducible first | refine thenP_x ?_ | refine blockP_miss rfl ?_ | refine blockP_hit ?_ | refine blockP_n ?_ | refine thenP_n ?_))
  all_goals (refine Br.out (i := 1000) ?_)
  skip))
  all_goals (refine Gn ?_; first | (refine Br.keep ?_) | (refine WC.seq ?_))
  all_goals (first | (refine Br.keep ?_) | (refine WC.block ?_))
  all_goals (first | (refine Br.keep ?_) | (refine WC.seq ?_))
  all_goals (first
               | (refine Br.keep ?_)
               | (obtain ⟨bL, oL, hA, hbL, hat⟩ := Rd.at_ ho.rd (by omega)
                  obtain ⟨y, hy⟩ : ∃ y, D[k]? = some y := ⟨_, List.getElem?_eq_getElem (by omega)⟩
                  have hc : At h2 bL (oL + k * 4) (dC y) := (At.elem dC_len hat hy).ext hX2 nos
                  have hym := List.mem_of_getElem? hy
                  have hyo := (r.bd).2 y hym
                  have hyr := (r.oid y hym).rd.ext0 hX2))
  all_goals (first | (refine Br.keep ?_) | (refine WC.drawH (fun h' => Ext No h2 h') 10 10 rfl fol ?_))
  all_goals (first | (refine Br.keep ?_) | (refine WH.tk 0 rfl (fun hq hC => ok_move rfl) rfl rfl rfl ?_))
  all_goals (first | (refine Br.keep ?_) | (refine WH.tk 1 rfl (fun hq hC => ok_nilCheck rfl) rfl rfl rfl ?_))
  all_goals (first | (refine Br.keep ?_) | (refine WH.tk 2 rfl (fun hq hC => ok_fieldAddr rfl Tryz.underlying54 rfl (fun w => Tryz.sizeOf52 w)) rfl rfl rfl ?_))
  all_goals (first | (refine Br.keep ?_) | (refine WH.tk 3 rfl (fun hq hC => ok_load (fun w => Tryz.isAgg52 w) rfl (by first | exact hC.cell (by first | exact cell_blk (hX2.obj hB0 nos) rfl | assumption | exact cell_blk (by assumption) rfl) nos)) rfl rfl rfl ?_))
  all_goals (first | (refine Br.keep ?_) | (refine WH.tk 4 rfl (fun hq hC => ok_move rfl) rfl rfl rfl ?_))
  all_goals (first | (refine Br.keep ?_) | (refine WH.tk 5 rfl (fun hq hC => ok_idxAddrA Tryz.underlying52 (fun w => Tryz.sizeOf101 w) rfl rfl rfl (by omega) (by first | rfl | assumption)) rfl rfl rfl ?_))
  all_goals (first | (refine Br.keep ?_) | (refine WH.tk 6 rfl (fun hq hC => ok_fieldAddr rfl Tryz.underlying101 rfl (fun w => Tryz.sizeOf63 w)) rfl rfl rfl ?_))
  all_goals (first | (refine Br.keep ?_) | (refine WH.tk 7 rfl (fun hq hC => ok_loadN (fun w => Tryz.isAgg63 w) (fun w => Tryz.sizeOf63 w) rfl rfl (by exact show At _ _ _ [St y.t, y.v] from (hc.drop 2).ext hC nos)) rfl rfl rfl ?_))
  all_goals (first | (refine Br.keep ?_) | (refine WH.tk 8 rfl (fun hq hC => ok_loadN (fun w => Tryz.isAgg63 w) (fun w => Tryz.sizeOf63 w) rfl rfl (by exact At.of_block (hC.obj hb12 nos))) rfl rfl rfl ?_))
  all_goals (first | (refine Br.keep ?_) | (refine WH.one 9 (by kernel_rfl) ?_))
  all_goals (first
               | (refine Br.keep ?_)
               | (refine Comes1.call (vs := [_, _]) rfl rfl (fun a w => Tryz.call81 a w) rfl (same12 y.t t y.o o hyr (hs.ext0 hX2) (by unfold maxLen; omega) hsl) rfl rfl rfl ?_ (fun _ => by kernel_rfl)
                  rintro _ h3 ⟨rfl, hx3⟩))
  all_goals (first | (refine Br.keep ?_) | (refine ⟨fun _ => hx3, ?_⟩))
  all_goals (first | (refine Br.keep ?_) | (have hX3 := hx2.trans hx3))
  all_goals (first | (refine Br.keep ?_) | (refine WH.done (by kernel_rfl) ?_))
  all_goals (refine Gn ?_; first | (refine Br.keep ?_) | (refine Gs [(0, _), (3, _), (6, _), (25, _)] ?_))
  all_goals (first | (refine Br.keep ?_) | (refine goC 3 4 (Hb.mk fun hb => ?_) (Hb.mk fun hb => ?_)))
  all_goals (first | (fail_if_success refine goB 3 ?_) | (
  refine goB 3 ?_
  all_goals (refine WC.sr ?_; refine Go ?_; refine WL.step (ok_nilCheck rfl) rfl rfl rfl ?_; refine Go ?_; refine WL.ld rfl (by first | exact cell_blk ((hX2.trans hx3).obj hB0 nos) rfl | assumption | exact cell_blk (by assumption) rfl) rfl rfl rfl ?_; refine Go ?_; refine WL.step (ok_idxAddrA Tryz.underlying52 (fun w => Tryz.sizeOf101 w) rfl rfl rfl (by omega) (by first | rfl | assumption)) rfl rfl rfl ?_; refine Go ?_; refine WL.ld rfl (by first | exact (hc.ext hx3 nos).get 0 rfl rfl | assumption | exact cell_blk (by assumption) rfl) rfl rfl rfl ?_; refine Go ?_; refine Gs [(4, _), (5, _)] ?_; refine Gt ?_)
  all_goals (first
              | (have hyy := hym; exact ⟨⟨_, _, rfl, .inl ⟨rfl, y, hym, by assumption, rfl⟩⟩, hx1.trans hX3⟩)
              | exact ⟨⟨_, _, rfl, .inr ⟨rfl, rfl, by rw [List.take_of_length_le (by omega)] at hn; exact hn⟩⟩, hX2⟩)
  skip))
  all_goals (first | (fail_if_success refine goB 4 ?_) | (
  refine goB 4 ?_
  all_goals (refine WC.skip ?_)
  skip))
  all_goals (refine Gn ?_; first | (refine Br.keep ?_) | (refine WC.region ?_))
  all_goals (refine Go ?_; first | (refine Br.keep ?_) | (exact ⟨k + 1, ⟨rfl, rfl, rfl, trivial⟩, (by exact ⟨hX3, by omega, fun p hp => by rw [List.take_add_one, hy] at hp; rcases List.mem_append.1 hp with hp | hp; exact hn p hp; simp at hp; subst hp; assumption⟩), (by omega)⟩))
  all_goals (try (refine Br.mk (i := 1000) ?_))
  all_goals (refine Gn ?_; refine Gs [] ?_; refine WC.sr ?_; refine Go ?_; refine Gt ?_)
  all_goals (first
              | (have hyy := hym; exact ⟨⟨_, _, rfl, .inl ⟨rfl, y, hym, by assumption, rfl⟩⟩, hx1.trans hX3⟩)
              | exact ⟨⟨_, _, rfl, .inr ⟨rfl, rfl, by rw [List.take_of_length_le (by omega)] at hn; exact hn⟩⟩, hX2⟩)
end
end Go.Proofs.YtggmocdbfbhklaaGreat


/-
  REGISTRY (layer 14): the document's Ref, Drop, Put.
-/
namespace Go.Proofs.YtggmocdbfbhklaaGreat
open Go Go.RK

section
variable {B : Nat} {h h' : Heap} {bt : Nat} {v : Value} {last : Int} {D D1 D2 : List Rn} {d : Rn}
theorem mem_mid {d' x : Rn} (hx : x ∈ D1 ++ d' :: D2) : x = d' ∨ x ∈ D1 ++ d :: D2 := by
  rcases List.mem_append.1 hx with hx | hx
  · exact .inr (by simp [hx])
  · rcases List.mem_cons.1 hx with hx | hx
    · exact .inl hx
    · exact .inr (by simp [hx])
/-- The count of one slot is another one. -/
theorem R14.bump (r : R14 B h bt v last (D1 ++ d :: D2)) {n : Int} (a : Ext (fun q => v.ownBlock = some q) h h') (ho : Own h' v 101 4 (D1 ++ d :: D2).length ((D1 ++ { d with rf := n } :: D2).flatMap dC)) : R14 B h' bt v last (D1 ++ { d with rf := n } :: D2) := by
  have hd : d ∈ D1 ++ d :: D2 := by simp
  obtain ⟨s1, s2⟩ := r.sep
  have lo := r.lo
  have bd := r.bd
  refine ⟨a.obj r.blk (fun e => s1 _ e rfl), by simpa using ho, fun x hx => ?_, ⟨lo.1, lo.2.1, fun x hx => ?_⟩, ⟨by simpa using bd.1, fun x hx => ?_⟩⟩
  · rcases mem_mid (d := d) hx with rfl | hx
    · exact (r.oid d hd).ext a (fun q hq => (s2 d hd q hq).2)
    · exact (r.oid x hx).ext a (fun q hq => (s2 x hx q hq).2)
  · rcases mem_mid (d := d) hx with rfl | hx
    · exact lo.2.2 d hd
    · exact lo.2.2 x hx
  · rcases mem_mid (d := d) hx with rfl | hx
    · exact bd.2 d hd
    · exact bd.2 x hx
set_option maxHeartbeats 2000000 in
set_option maxRecDepth 100000 in
theorem ref14 (r : R14 B h bt v last (D1 ++ d :: D2)) (hd : ∀ x ∈ D1, x.id ≠ d.id) (hrf : 1 ≤ d.rf ∧ d.rf ≤ 1000000) : CallsH Tryz.prog 49 ⟨[ptE bt, In d.id]⟩ h fun u h' => u = .bool true ∧ R14 B h' bt v last (D1 ++ { d with rf := d.rf + 1 } :: D2) ∧ Ext (fun q => v.ownBlock = some q) h h' := by
  have kp := place14 r d.id
  rw [idx_mid hd] at kp
  have hB0 := r.blk
  have ho := r.own
  have r0 := r
  have hos := ho.slice
  obtain ⟨A, c, rfl, _⟩ := hos
  obtain ⟨g, gs, rfl, hg, hgl, hset⟩ := row_set dC_len ho at_mid
  have hlt : D1.length < (D1 ++ d :: D2).length := by simp
  obtain ⟨bL, oL, hA, hbL, hat⟩ := Rd.at_ ho.rd (by omega)
  cases hA
  have hc : At h g (0 + D1.length * 4) (dC d) := At.elem dC_len hat at_mid
  unfold ptE at *
  refine calls [(0, _), (1, _)] Tryz.func49 rfl Tryz.ntmps49 rfl ⟨rfl, rfl, trivial⟩ ?_
  all_goals (refine WC.sr ?_; refine Go ?_; refine WC.sr ?_; refine Go ?_; refine WL.call (vs := [_, _]) rfl (fun a w => Tryz.call44 a w) rfl (kp) rfl rfl rfl ?_; rintro _ hz ⟨rfl, _⟩; subst hz; refine Go ?_; refine Gs [(0, _), (5, _)] ?_; refine WC.seq ?_; refine WC.sr ?_; refine Go ?_; refine goC 1 2 ?_ TT.mk; refine goB 2 ?_; refine WC.skip ?_; refine Gn ?_; refine WC.sr ?_; refine Go ?_; refine WL.step (ok_nilCheck rfl) rfl rfl rfl ?_; refine Go ?_; refine WL.ld rfl (by first | exact cell_blk hB0 rfl | assumption | exact cell_blk (by assumption) rfl) rfl rfl rfl ?_; refine Go ?_; refine WL.step (ok_idxAddrA Tryz.underlying52 (fun w => Tryz.sizeOf101 w) rfl rfl rfl (by omega) (by first | rfl | assumption)) rfl rfl rfl ?_; refine Go ?_; refine WL.ld rfl (by first | exact hc.get 1 rfl rfl | assumption | exact cell_blk (by assumption) rfl) rfl rfl rfl ?_; refine Go ?_; refine WL.step (ok_idxAddrA Tryz.underlying52 (fun w => Tryz.sizeOf101 w) rfl rfl rfl (by omega) (by first | rfl | assumption)) rfl rfl rfl ?_; refine Go ?_; refine WL.stepR0 (okE_store (fun w => Tryz.sizeOf3 w) rfl rfl hg (by show 0 + D1.length * 4 + 1 < gs.length; omega) rfl rfl) rfl rfl ?_; rintro _ h6 ⟨hb6, hx6⟩)
  all_goals (have ho6 := hset (j := 1) (q' := { d with rf := d.rf + 1 }) (by decide) rfl (by simpa using hb6)
             rw [show (D1 ++ d :: D2).set D1.length { d with rf := d.rf + 1 } = D1 ++ { d with rf := d.rf + 1 } :: D2 by simp] at ho6
             have hx6' : Ext (fun q => (Value.slice (some ⟨g, 0, none⟩) (D1 ++ d :: D2).length c).ownBlock = some q) h h6 := hx6.mono fun q _ e => by rw [e]; rfl)
  all_goals (refine Gn ?_; refine Gs [] ?_; refine WC.sr ?_; refine Go ?_; refine Gt ?_; exact ⟨rfl, r0.bump hx6' ho6, hx6'⟩)
set_option maxHeartbeats 2000000 in
set_option maxRecDepth 100000 in
theorem ref14_no (r : R14 B h bt v last D) {id : Int} (hd : ∀ x ∈ D, x.id ≠ id) : CallsH Tryz.prog 49 ⟨[ptE bt, In id]⟩ h fun u h' => u = .bool false ∧ h' = h := by
  have kp := place14 r id
  rw [idx_no hd] at kp
  unfold ptE at *
  refine calls [(0, _), (1, _)] Tryz.func49 rfl Tryz.ntmps49 rfl ⟨rfl, rfl, trivial⟩ ?_
  all_goals (refine WC.sr ?_; refine Go ?_; refine WC.sr ?_; refine Go ?_; refine WL.call (vs := [_, _]) rfl (fun a w => Tryz.call44 a w) rfl (kp) rfl rfl rfl ?_; rintro _ hz ⟨rfl, _⟩; subst hz; refine Go ?_; refine Gs [(0, _), (5, _)] ?_; refine WC.seq ?_; refine WC.sr ?_; refine Go ?_; refine goC 1 2 ?_ TT.mk; refine goB 1 ?_; refine WC.sr ?_; refine Go ?_; refine Gs [(4, _)] ?_; refine Gt ?_; exact ⟨rfl, rfl⟩)
set_option maxHeartbeats 2000000 in
set_option maxRecDepth 100000 in
theorem put14_zero (r : R14 B h bt v last D) (s : Stm) (ok : stOk h s) (hf : fairS s.1 s.2.2 = false) : CallsH Tryz.prog 22 ⟨[ptE bt, .agg ⟨stC s⟩]⟩ h fun u h' => u = In 0 ∧ Ext No h h' := by
  obtain ⟨t, vs, o⟩ := s
  have ko := fun h' (hx : Ext No h h') => of12 t o (ok.1.ext0 hx) ok.le
  rw [show keyS_ t o = [] by unfold keyS_; dsimp only at hf; rw [hf]; rfl] at ko
  unfold ptE stC
  dsimp only
  refine calls [(0, _), (1, _)] Tryz.func22 rfl Tryz.ntmps22 rfl ⟨rfl, rfl, trivial⟩ ?_
  all_goals (refine WC.sr ?_; refine WL.stepR (okE_box rfl) rfl rfl rfl ?_; rintro _ h1 ⟨b1, rfl, hg1, hb1, hx1⟩; refine Go ?_; refine WC.seq ?_; refine WC.sr ?_; refine WL.step (ok_loadN (fun w => Tryz.isAgg63 w) (fun w => Tryz.sizeOf63 w) rfl rfl (by exact At.of_block hb1)) rfl rfl rfl ?_; refine WL.call (vs := [_]) rfl (fun a w => Tryz.call47 a w) rfl (ko _ hx1) rfl rfl rfl ?_; rintro _ h2 ⟨rfl, hx2⟩; refine Go ?_; refine Gs [(0, _), (3, _), (9, _)] ?_; refine goC 1 2 ?_ TT.mk; refine goB 1 ?_; refine WC.sr ?_; refine Go ?_; refine Gt ?_; exact ⟨rfl, hx1.trans hx2⟩)
set_option maxHeartbeats 2000000 in
set_option maxRecDepth 100000 in
theorem put14_old (r : R14 B h bt v last (D1 ++ d :: D2)) (s : Stm) (ok : stOk h s) (hf : fairS s.1 s.2.2 = true) (hs : d.t = s.1 ∧ d.o = s.2.2) (hu : ∀ y ∈ D1 ++ d :: D2, y.t = s.1 ∧ y.o = s.2.2 → y.id = d.id) (hd : ∀ x ∈ D1, x.id ≠ d.id) (hrf : 1 ≤ d.rf ∧ d.rf ≤ 1000000) :
    CallsH Tryz.prog 22 ⟨[ptE bt, .agg ⟨stC s⟩]⟩ h fun u h' => u = In d.id ∧ R14 B h' bt v last (D1 ++ { d with rf := d.rf + 1 } :: D2) ∧ Ext (fun q => v.ownBlock = some q) h h' := by
  have ko := fun h' (hx : Ext No h h') => of12 s.1 s.2.2 (ok.1.ext0 hx) ok.le
  have hne : keyS_ s.1 s.2.2 ≠ [] := keyS_fair.2 hf
  unfold ptE stC
  refine calls [(0, _), (1, _)] Tryz.func22 rfl Tryz.ntmps22 rfl ⟨rfl, rfl, trivial⟩ ?_
  all_goals (refine WC.sr ?_; refine WL.stepR (okE_box rfl) rfl rfl rfl ?_; rintro _ h1 ⟨b1, rfl, hg1, hb1, hx1⟩; refine Go ?_; refine WC.seq ?_; refine WC.sr ?_; refine WL.step (ok_loadN (fun w => Tryz.isAgg63 w) (fun w => Tryz.sizeOf63 w) rfl rfl (by exact At.of_block hb1)) rfl rfl rfl ?_; refine WL.call (vs := [_]) rfl (fun a w => Tryz.call47 a w) rfl (ko _ hx1) rfl rfl rfl ?_; rintro _ h2 ⟨rfl, hx2⟩; have hX2 := hx1.trans hx2; refine Go ?_; refine Gs [(0, _), (3, _), (9, _)] ?_; refine goC 1 2 ?_ TT.mk; refine goB 2 ?_; refine WC.skip ?_; refine Gn ?_; refine WC.seq ?_; refine WC.sr ?_; refine Go ?_; refine WL.step (ok_loadN (fun w => Tryz.isAgg63 w) (fun w => Tryz.sizeOf63 w) rfl rfl (by exact At.of_block (hx2.obj hb1 nos))) rfl rfl rfl ?_)
  all_goals (refine WL.call (vs := [_, _]) rfl (fun a w => Tryz.call48 a w) rfl (find14 (r.ext0 hX2) s ⟨ok.1.ext0 hX2, ok.2⟩) rfl rfl rfl ?_
             rintro _ h3 ⟨⟨x, bb, rfl, hres⟩, hx3⟩
             obtain ⟨rfl, rfl⟩ : x = d.id ∧ bb = true := by rcases hres with ⟨hb1, y, hy, hz, e⟩ | ⟨_, _, hz⟩; exact ⟨e.trans (hu y hy hz), hb1⟩; exact absurd hs (hz d (by simp))
             have hX3 := hX2.trans hx3)
  all_goals (refine Go ?_; refine Gs [(0, _), (3, _), (5, _), (6, _)] ?_; refine WC.sr ?_; refine Go ?_; refine goC 3 4 ?_ TT.mk; refine goB 3 ?_; refine WC.sr ?_; refine Go ?_; refine WL.call (vs := [_, _]) rfl (fun a w => Tryz.call49 a w) rfl (ref14 (r.ext0 hX3) hd hrf) rfl rfl rfl ?_; rintro _ h4 ⟨rfl, r4, hx4⟩; refine Gn ?_; refine Gs [(5, _)] ?_; refine WC.sr ?_; refine Go ?_; refine Gt ?_; first | exact absurd ‹_› hne | exact ⟨rfl, r4, (hX3.mono fun _ _ e => e.elim).trans hx4⟩)
set_option maxHeartbeats 4000000 in
set_option maxRecDepth 100000 in
theorem put14_new (r : R14 B h bt v last D) (s : Stm) {h0 : Heap} (ok0 : stOk h0 s) (x0 : Ext No h0 h) (hBB : h0.size ≤ B) (hf : fairS s.1 s.2.2 = true) (hno : ∀ y ∈ D, ¬ (y.t = s.1 ∧ y.o = s.2.2)) (hlast : 0 ≤ last ∧ last ≤ 1000000) (hDl : D.length + 1 ≤ 1000000) :
    CallsH Tryz.prog 22 ⟨[ptE bt, .agg ⟨stC s⟩]⟩ h fun u h' => u = In (last + 1) ∧ (∃ v' v2, R14 B h' bt v' (last + 1) (D ++ [⟨last + 1, 1, s.1, s.2.2, 0, v2⟩])) ∧ Ext (fun q => q = bt ∨ v.ownBlock = some q) h h' := by
  have ok : stOk h s := ⟨ok0.1.ext0 x0, ok0.2⟩
  have ko := fun h' (hx : Ext No h h') => of12 s.1 s.2.2 (ok.1.ext0 hx) ok.le
  have hne : keyS_ s.1 s.2.2 ≠ [] := keyS_fair.2 hf
  have hol := (fairS_yes hf).2.1
  have hB0 := r.blk
  have ho := r.own
  have lo := r.lo
  have sp := r.sep
  have hos := ho.slice
  have bd := r.bd
  have hbl := lt_of_some hB0
  obtain ⟨A, c, rfl, _⟩ := hos
  have k5 := fun h' (hx : Ext No h h') => find14 (r.ext0 hx) s ⟨ok.1.ext0 hx, ok.2⟩
  have hsl : ∀ e ∈ D, ∃ A n c, e.v = .slice A n c := fun e he => by obtain ⟨A, c, hv, _⟩ := (r.oid e he).slice; exact ⟨_, _, _, hv⟩
  obtain ⟨t, vs, o⟩ := s
  have hr0 := ok0.1
  dsimp only at hr0 hol
  have hrs := hr0
  obtain ⟨As, cs, rfl, _⟩ := hrs
  unfold ptE stC at *
  dsimp only at *
  refine calls [(0, _), (1, _)] Tryz.func22 rfl Tryz.ntmps22 rfl ⟨rfl, rfl, trivial⟩ ?_
  all_goals (refine WC.sr ?_; refine WL.stepR (okE_box rfl) rfl rfl rfl ?_; rintro _ h1 ⟨b1, rfl, hg1, hb1, hx1⟩; refine Go ?_; refine WC.seq ?_; refine WC.sr ?_; refine WL.step (ok_loadN (fun w => Tryz.isAgg63 w) (fun w => Tryz.sizeOf63 w) rfl rfl (by exact At.of_block hb1)) rfl rfl rfl ?_; refine WL.call (vs := [_]) rfl (fun a w => Tryz.call47 a w) rfl (ko _ hx1) rfl rfl rfl ?_; rintro _ h2 ⟨rfl, hx2⟩; have hX2 := hx1.trans hx2; refine Go ?_; refine Gs [(0, _), (3, _), (9, _)] ?_; refine goC 1 2 ?_ TT.mk; refine goB 2 ?_; refine WC.skip ?_; refine Gn ?_; refine WC.seq ?_; refine WC.sr ?_; refine Go ?_; refine WL.step (ok_loadN (fun w => Tryz.isAgg63 w) (fun w => Tryz.sizeOf63 w) rfl rfl (by exact At.of_block (hx2.obj hb1 nos))) rfl rfl rfl ?_)
  all_goals (refine WL.call (vs := [_, _]) rfl (fun a w => Tryz.call48 a w) rfl (k5 _ hX2) rfl rfl rfl ?_
             rintro _ h3 ⟨⟨x, bb, rfl, hres⟩, hx3⟩
             obtain ⟨rfl, rfl⟩ : x = 0 ∧ bb = false := by rcases hres with ⟨_, y, hy, hz, e⟩ | ⟨e1, e2, _⟩; exact absurd hz (hno y hy); exact ⟨e2, e1⟩
             have hX3 := hX2.trans hx3
             have hb13 := (hx2.trans hx3).obj hb1 nos
             have hs3 := hX3.size)
  all_goals (refine Go ?_; refine Gs [(0, _), (3, _), (5, _), (6, _)] ?_; refine WC.sr ?_; refine Go ?_; refine goC 3 4 ?_ TT.mk; refine goB 4 ?_; refine WC.skip ?_; refine Gn ?_; refine WC.sr ?_; refine Go ?_; refine WL.step (ok_nilCheck rfl) rfl rfl rfl ?_; refine Go ?_; refine WL.ld rfl (by first | exact cell_blk (hX3.obj hB0 nos) rfl | assumption | exact cell_blk (by assumption) rfl) rfl rfl rfl ?_; refine Go ?_; refine WL.step (ok_nilCheck rfl) rfl rfl rfl ?_; refine Go ?_; refine WL.stepR0 (okE_store (fun w => Tryz.sizeOf3 w) rfl rfl (hX3.obj hB0 nos) (Nat.le_of_ble_eq_true rfl) rfl rfl) rfl rfl ?_; rintro _ h4 ⟨hb4, hx4⟩; have hX4 : Ext (fun q => q = bt) h h4 := (hX3.mono fun _ _ e => e.elim).trans hx4; have hb14 := hx4.obj hb13 (fun e => by have := hg1; omega); have ho4 := ho.ext hX4 (fun q hq => sp.1 q hq); have hs4 := hX4.size; have hr4 := hr0.ext0 (x0.trans' hX4 (fun q hq e => by omega)); (have ol4 : ∀ q, (Value.slice A D.length c).ownBlock = some q → q < h4.size := fun q hq => ho4.lt hq); refine Gn ?_; refine Gs [(0, _), (3, _)] ?_; refine WC.seq ?_; (have n1 : ¬ (Value.slice A D.length c).ownBlock = some b1 := fun e => by have := ho.lt e; omega); (have nbt : ¬ (Value.slice A D.length c).ownBlock = some bt := fun e => sp.1 _ e rfl); refine WC.drawH (fun h' => Ext (fun q => (Value.slice A D.length c).ownBlock = some q) h4 h') 18 21 rfl fol ?_; refine WH.tk 0 rfl (fun hq hC => ok_move rfl) rfl rfl rfl ?_; refine WH.tk 1 rfl (fun hq hC => ok_move rfl) rfl rfl rfl ?_; refine WH.tk 2 rfl (fun hq hC => ok_nilCheck rfl) rfl rfl rfl ?_; refine WH.tk 3 rfl (fun hq hC => ok_fieldAddr rfl Tryz.underlying54 rfl (fun w => Tryz.sizeOf52 w)) rfl rfl rfl ?_; refine WH.tk 4 rfl (fun hq hC => ok_load (fun w => Tryz.isAgg52 w) rfl (by first | exact hC.cell (by first | exact cell_blk hb4 rfl | assumption | exact cell_blk (by assumption) rfl) (by first | exact (fun e => sp.1 _ e rfl) | exact n1))) rfl rfl rfl ?_; refine WH.tk 5 rfl (fun hq hC => ok_move rfl) rfl rfl rfl ?_; refine WH.tk 6 rfl (fun hq hC => ok_nilCheck rfl) rfl rfl rfl ?_; refine WH.tk 7 rfl (fun hq hC => ok_fieldAddr rfl Tryz.underlying54 rfl (fun w => Tryz.sizeOf3 w)) rfl rfl rfl ?_; refine WH.tk 8 rfl (fun hq hC => ok_load (fun w => Tryz.isAgg3 w) rfl (by first | exact hC.cell (by first | exact cell_blk hb4 rfl | assumption | exact cell_blk (by assumption) rfl) (by first | exact (fun e => sp.1 _ e rfl) | exact n1))) rfl rfl rfl ?_; refine WH.tk 9 rfl (fun hq hC => ok_fieldAddr rfl Tryz.underlying63 rfl (fun w => Tryz.sizeOf9 w)) rfl rfl rfl ?_; refine WH.tk 10 rfl (fun hq hC => ok_load (fun w => Tryz.isAgg9 w) rfl (by first | exact hC.cell (by first | exact cell_blk hb14 rfl | assumption | exact cell_blk (by assumption) rfl) (by first | exact (fun e => sp.1 _ e rfl) | exact n1))) rfl rfl rfl ?_; refine WH.tk 11 rfl (fun hq hC => ok_fieldAddr rfl Tryz.underlying63 rfl (fun w => Tryz.sizeOf24 w)) rfl rfl rfl ?_; refine WH.tk 12 rfl (fun hq hC => ok_load (fun w => Tryz.isAgg24 w) rfl (by first | exact hC.cell (by first | exact cell_blk hb14 rfl | assumption | exact cell_blk (by assumption) rfl) (by first | exact (fun e => sp.1 _ e rfl) | exact n1))) rfl rfl rfl ?_)
  all_goals (refine WH.one 13 (by kernel_rfl) ?_; refine Comes1.run rfl (ok_append (sz := 1) (bytes := 8) rfl Tryz.underlying24 (show Tryz.prog.info? 3 = some Tryz.t3 by kernel_rfl) rfl rfl rfl rfl (by decide) rfl rfl (Own.nil _ _ _) hr4 (one_ints o) (by simp only [maxLen]; omega) (by omega)) rfl rfl rfl ?_ (fun _ => by kernel_rfl); rintro v13 h13 ⟨ho13, hx13, hl13⟩; refine ⟨fun _ => hx13.mono (fun _ _ e => by cases e), ?_⟩; have hx13' := hx13.mono (S' := No) (fun _ _ e => by cases e); (have hC13 : Ext (fun q => (Value.slice A D.length c).ownBlock = some q) h4 h13 := hx13'.mono fun _ _ e => e.elim); have hf13 : ∀ q, v13.ownBlock = some q → h4.size ≤ q := fresh_of hl13 (by simp [Value.ownBlock]) (Nat.le_refl _); obtain ⟨A13, c13, rfl, _⟩ := ho13.slice; refine WH.tk 14 rfl (fun hq hC => ok_buildF (vs := [_, _]) (cs := [_, _]) (fun | [a0, a1] => [a0, a1] | _ => []) rfl rfl (by kernel_rfl)) rfl rfl rfl ?_; refine WH.tk 15 rfl (fun hq hC => ok_buildF (vs := [_, _, _]) (cs := [_, _, _, _]) (fun | [a0, a1, .agg ⟨[a2, a3]⟩] => [a0, a1, a2, a3] | _ => []) rfl rfl (by kernel_rfl)) rfl rfl rfl ?_; refine WH.one 16 (by kernel_rfl) ?_; refine Comes1.run rfl (okE_buildSlice (vs := [_]) (cs := [_, _, _, _]) (fun | [.agg ⟨[a0, a1, a2, a3]⟩] => [a0, a1, a2, a3] | _ => []) Tryz.underlying52 rfl rfl (by kernel_rfl)) rfl rfl rfl ?_ (fun _ => by kernel_rfl); rintro _ h16 ⟨b16, rfl, hg16, hb16, hx16⟩; refine ⟨fun _ => hC13.trans (hx16.mono fun _ _ e => e.elim), ?_⟩; have hx16' := hx13'.trans hx16; (have hC16 : Ext (fun q => (Value.slice A D.length c).ownBlock = some q) h4 h16 := hx16'.mono fun _ _ e => e.elim); refine WH.one 17 (by kernel_rfl) ?_; refine Comes1.run rfl (ok_append (sz := 4) (bytes := 56) rfl Tryz.underlying52 (show Tryz.prog.info? 101 = some Tryz.t101 by kernel_rfl) rfl rfl rfl rfl (by decide) rfl rfl (ho4.ext hx16' (fun _ _ => nos)) (rd_blk hb16 rfl) (by simp [Value.oneCell']) (by simp only [maxLen]; omega) (by omega)) rfl rfl rfl ?_ (fun _ => by kernel_rfl); rintro v17 h17 ⟨ho17, hx17, hl17⟩; refine ⟨fun _ => hC16.trans hx17, ?_⟩; have hC17 := hC16.trans hx17; obtain ⟨A17, c17, rfl, _⟩ := ho17.slice; have hb17 := hC17.obj hb4 nbt; refine WH.one 18 (by kernel_rfl) ?_; refine Comes1.run rfl (OkP.r (ok_nilCheck rfl)) rfl rfl rfl ?_ (fun _ => by kernel_rfl); rintro _ hz ⟨rfl, _⟩; subst hz; refine ⟨fun e => (by cases e), ?_⟩; refine WH.one 19 (by kernel_rfl) ?_; refine Comes1.run rfl (OkP.r (ok_fieldAddr rfl Tryz.underlying54 rfl (fun w => Tryz.sizeOf52 w))) rfl rfl rfl ?_ (fun _ => by kernel_rfl); rintro _ hz ⟨rfl, _⟩; subst hz; refine ⟨fun e => (by cases e), ?_⟩; refine WH.one 20 (by kernel_rfl) ?_; refine Comes1.run0 rfl (okE_store (fun w => Tryz.sizeOf52 w) rfl rfl hb17 (Nat.le_of_ble_eq_true rfl) rfl rfl) rfl rfl ?_ (fun _ => by kernel_rfl); rintro _ h20 ⟨hb20, hx20⟩; refine ⟨fun e => (by cases e), ?_⟩; refine WH.done (by kernel_rfl) ?_; refine Gn ?_; refine Gs [(0, _)] ?_; refine WC.sr ?_; refine Go ?_; refine WL.step (ok_nilCheck rfl) rfl rfl rfl ?_; refine Go ?_; refine WL.ld rfl (by first | exact cell_blk hb20 rfl | assumption | exact cell_blk (by assumption) rfl) rfl rfl rfl ?_)
  all_goals (refine Go ?_; refine Gs [(4, _)] ?_; refine Gt ?_)
  all_goals (first | exact absurd ‹_› hne | skip
             have hs16 := hx16'.size
             have hs17 := hx17.size
             have hf17 : ∀ q, (Value.slice A17 (D.length + 1) c17).ownBlock = some q → (Value.slice A D.length c).ownBlock = some q ∨ h16.size ≤ q := fun q hq => hl17.elim (fun e => .inl (e ▸ hq)) (fun e => .inr (by rw [e] at hq; cases hq; exact Nat.le_refl _))
             have o17 : ∀ q, (Value.slice A17 (D.length + 1) c17).ownBlock = some q → q ≠ bt := fun q hq => by rcases hf17 q hq with e | e; exact sp.1 q e; omega
             have o13 := ((ho13.ext hx16 (fun _ _ => nos)).ext hx17 (fun q hq e => by have := hf13 q hq; have := ol4 _ e; omega)).ext hx20 (fun q hq e => by have := hf13 q hq; omega)
             refine ⟨rfl, ⟨_, .slice A13 (0 + o.length) c13, ⟨hb20, by simpa using ho17.ext hx20 (fun q hq e => o17 q hq e), fun e he => ?_, ⟨lo.1, fun q hq => ?_, fun e he => ?_⟩, ⟨by simp; omega, fun e he => ?_⟩⟩⟩, ((hX4.mono fun q _ e => .inl e).trans (hC17.mono fun q _ e => .inr e)).trans (hx20.mono fun q _ e => .inl e)⟩
             · exact (List.mem_append.1 he).elim (fun he => (((r.oid e he).ext hX4 (fun q hq => (sp.2 e he q hq).1)).ext hC17 (fun q hq => (sp.2 e he q hq).2)).ext hx20 (fun q hq => (sp.2 e he q hq).1)) (fun he => by obtain rfl := List.mem_singleton.1 he; simpa using o13)
             · exact (hf17 q hq).elim (fun e => lo.2.1 q e) (fun e => by omega)
             · exact (List.mem_append.1 he).elim (fun he => lo.2.2 e he) (fun he => by obtain rfl := List.mem_singleton.1 he; intro q hq; have := hf13 q hq; omega)
             · exact (List.mem_append.1 he).elim (fun he => bd.2 e he) (fun he => by obtain rfl := List.mem_singleton.1 he; exact hol))
end
end Go.Proofs.YtggmocdbfbhklaaGreat


/-
  REGISTRY (layer 14): the law's look at both registries.
-/
namespace Go.Proofs.YtggmocdbfbhklaaGreat
open Go Go.RK

abbrev pr (e : Rn) : Int × Int × List UInt8 × List Int := (e.id, e.rf, e.t, e.o)
section
variable {B B' : Nat} {c : Int} {h h' : Heap} {b m1 m2 bt : Nat} {v : Value} {last last' : Int} {L G : List Rn}
end
end Go.Proofs.YtggmocdbfbhklaaGreat


/-
  REGISTRY (layer 14): both registries, side by side; the law's calls.
-/
namespace Go.Proofs.YtggmocdbfbhklaaGreat
open Go Go.RK

def MC (b m1 m2 : Nat) (L : List Rn) (q : Nat) : Prop := q = b ∨ q = m1 ∨ q = m2 ∨ ∃ e ∈ L, q = e.p
def MV (bt : Nat) (v : Value) (q : Nat) : Prop := q = bt ∨ v.ownBlock = some q
/-- Both registries; c bounds the calls made. -/
structure T14 (h0 h : Heap) (B : Nat) (c : Int) (b m1 m2 bt : Nat) (v : Value) (last : Int) (L G : List Rn) : Prop where
  rg : Rg B c h b m1 m2 last L
  rf : R14 B h bt v last G
  pr : G.map pr = L.map pr
  ext : Ext No h0 h
  hB : h0.size ≤ B
def M14 (b m1 m2 bt : Nat) (v : Value) (L : List Rn) (q : Nat) : Prop := MC b m1 m2 L q ∨ MV bt v q
section
variable {h0 h h1 h' : Heap} {B : Nat} {c : Int} {b m1 m2 bt : Nat} {v : Value} {last : Int} {L G L1 L2 : List Rn} {e : Rn}
theorem Rg.notC (r : Rg B c h b m1 m2 last L) {g : Nat} {cs : Array Value} {T : TypeId} (hg : h[g]? = some (.cells cs T (0, 0))) (t1 : T ≠ 105) (t2 : T ≠ 99) : ¬ MC b m1 m2 L g := by
  rintro (rfl | rfl | rfl | ⟨e, he, rfl⟩)
  · exact ne_kind t1 hg r.blk rfl
  · obtain ⟨_, ⟨_, _, e, _⟩, _⟩ := r.mp1; rw [hg] at e; cases e
  · obtain ⟨_, ⟨_, _, e, _⟩, _⟩ := r.mp2; rw [hg] at e; cases e
  · exact ne_kind t2 hg (r.recs e he) rfl
theorem R14.notV (r : R14 B h bt v last G) {g : Nat} {cs : Array Value} {T : TypeId} (hg : h[g]? = some (.cells cs T (0, 0))) (t1 : T ≠ 54) (t2 : T ≠ 101) : ¬ MV bt v g := by
  rintro (rfl | hq)
  · exact ne_kind t1 hg r.blk rfl
  · obtain ⟨_, e1⟩ := own_kind14 r.own hq; exact ne_kind t2 hg e1 rfl
theorem T14.not (d : T14 h0 h B c b m1 m2 bt v last L G) {g : Nat} {cs : Array Value} {T : TypeId} (hg : h[g]? = some (.cells cs T (0, 0))) (t1 : T ≠ 105) (t2 : T ≠ 99) (t3 : T ≠ 54) (t4 : T ≠ 101) : ¬ M14 b m1 m2 bt v L g := fun e => e.elim (d.rg.notC hg t1 t2) (d.rf.notV hg t3 t4)
theorem T14.stay (d : T14 h0 h B c b m1 m2 bt v last L G) (a : Ext No h h1) : T14 h0 h1 B c b m1 m2 bt v last L G := ⟨d.rg.ext0 a, d.rf.ext0 a, d.pr, d.ext.trans a, d.hB⟩
theorem T14.up (d : T14 h0 h B c b m1 m2 bt v last L G) {c' : Int} (h1 : c ≤ c') (h2 : c' ≤ 1000000) : T14 h0 h B c' b m1 m2 bt v last L G := ⟨d.rg.up h1 h2, d.rf, d.pr, d.ext, d.hB⟩
end
end Go.Proofs.YtggmocdbfbhklaaGreat


/-
  REGISTRIES (layer 14) of the code and of the document, each by itself: what is kept is a plain list, and each call a function on it.
-/
namespace Go.Proofs.YtggmocdbfbhklaaGreat
open Go Go.RK

abbrev Qd := Int × Int × List UInt8 × List Int
/-- The last id, and what is kept: ids, how many refer to them, texts, types. -/
abbrev RS := Int × List Qd
def bumpS (id : Int) (l : List Qd) : List Qd := l.map fun q => if q.1 = id then (q.1, q.2.1 + 1, q.2.2) else q
def isS (t : List UInt8) (o : List Int) (q : Qd) : Bool := decide (q.2.2.1 = t ∧ q.2.2.2 = o)
def putS (s : RS) (t : List UInt8) (o : List Int) : RS × Int :=
  if fairS t o = true then
    match s.2.find? (isS t o) with
    | some q => ((s.1, bumpS q.1 s.2), q.1)
    | none => ((s.1 + 1, s.2 ++ [(s.1 + 1, 1, t, o)]), s.1 + 1)
  else (s, 0)
def refS (s : RS) (id : Int) : RS := (s.1, bumpS id s.2)
def idS (id : Int) (q : Qd) : Bool := decide (q.1 = id)
def getS (s : RS) (id : Int) : Option (List UInt8 × List Int) := (s.2.find? (idS id)).map fun q => q.2.2
def refsS (s : RS) (id : Int) : Int := ((s.2.find? (idS id)).map fun q => q.2.1).getD 0
structure Sv (c : Int) (s : RS) : Prop where
  rise : s.2.Pairwise fun a b => a.1 < b.1
  keys : s.2.Pairwise fun a b => ¬ (a.2.2.1 = b.2.2.1 ∧ a.2.2.2 = b.2.2.2)
  rf : ∀ q ∈ s.2, 1 ≤ q.2.1 ∧ q.2.1 ≤ c
  top : ∀ q ∈ s.2, 1 ≤ q.1 ∧ q.1 ≤ s.1
  bd : 0 ≤ s.1 ∧ s.1 ≤ c ∧ (s.2.length : Int) ≤ c
theorem Sv.up {c c' : Int} {s : RS} (k : Sv c s) (h : c ≤ c') : Sv c' s := ⟨k.rise, k.keys, fun q hq => ⟨(k.rf q hq).1, by have := (k.rf q hq).2; omega⟩, k.top, ⟨k.bd.1, by have := k.bd.2; omega, by have := k.bd.2; omega⟩⟩
theorem bump_len (id : Int) (l : List Qd) : (bumpS id l).length = l.length := by simp [bumpS]
theorem bump_mem {id : Int} {l : List Qd} {q : Qd} (h : q ∈ bumpS id l) : ∃ p ∈ l, q.1 = p.1 ∧ q.2.2 = p.2.2 ∧ (q.2.1 = p.2.1 ∨ q.2.1 = p.2.1 + 1) := by
  obtain ⟨p, hp, rfl⟩ := List.mem_map.1 h
  refine ⟨p, hp, ?_⟩
  split
  · exact ⟨rfl, rfl, .inr rfl⟩
  · exact ⟨rfl, rfl, .inl rfl⟩
theorem pw_map {α β : Type} {R : β → β → Prop} {f : α → β} {l : List α} : (l.map f).Pairwise R ↔ l.Pairwise fun a b => R (f a) (f b) := List.pairwise_map
theorem Sv.ref {c : Int} {s : RS} (k : Sv c s) (id : Int) : Sv (c + 1) (refS s id) := by
  refine ⟨?_, ?_, fun q hq => ?_, fun q hq => ?_, ?_⟩
  · show (bumpS id s.2).Pairwise _
    unfold bumpS
    rw [pw_map]
    refine k.rise.imp fun {a b} h => ?_
    split <;> split <;> exact h
  · show (bumpS id s.2).Pairwise _
    unfold bumpS
    rw [pw_map]
    refine k.keys.imp fun {a b} h => ?_
    split <;> split <;> exact h
  · obtain ⟨p, hp, e1, e2, e3⟩ := bump_mem hq
    have := k.rf p hp
    omega
  · obtain ⟨p, hp, e1, e2, e3⟩ := bump_mem hq
    have := k.top p hp
    show 1 ≤ q.1 ∧ q.1 ≤ s.1
    omega
  · have := k.bd
    have h2 : (refS s id).2.length = s.2.length := bump_len _ _
    refine ⟨this.1, ?_, ?_⟩
    · show s.1 ≤ _; omega
    · rw [h2]; omega
theorem Sv.put {c : Int} {s : RS} (k : Sv c s) (t : List UInt8) (o : List Int) : Sv (c + 1) (putS s t o).1 := by
  unfold putS
  split
  · split
    · exact k.ref _
    · rename_i hf hn
      have hno := List.find?_eq_none.1 hn
      refine ⟨?_, ?_, fun q hq => ?_, fun q hq => ?_, ?_⟩
      · refine List.pairwise_append.2 ⟨k.rise, List.pairwise_singleton _ _, fun a ha b hb => ?_⟩
        obtain rfl := List.mem_singleton.1 hb
        have := k.top a ha
        show a.1 < s.1 + 1
        omega
      · refine List.pairwise_append.2 ⟨k.keys, List.pairwise_singleton _ _, fun a ha b hb => ?_⟩
        obtain rfl := List.mem_singleton.1 hb
        have := hno a ha
        simpa [isS] using this
      · have := k.bd
        have hq : q ∈ s.2 ++ [(s.1 + 1, 1, t, o)] := hq
        rcases List.mem_append.1 hq with hq | hq
        · have := k.rf q hq; omega
        · obtain rfl := List.mem_singleton.1 hq; show 1 ≤ (1 : Int) ∧ (1 : Int) ≤ c + 1; omega
      · have := k.bd
        have hq : q ∈ s.2 ++ [(s.1 + 1, 1, t, o)] := hq
        show 1 ≤ q.1 ∧ q.1 ≤ s.1 + 1
        rcases List.mem_append.1 hq with hq | hq
        · have := k.top q hq; omega
        · obtain rfl := List.mem_singleton.1 hq; show 1 ≤ s.1 + 1 ∧ s.1 + 1 ≤ s.1 + 1; omega
      · have := k.bd
        refine ⟨?_, ?_, ?_⟩
        · show 0 ≤ s.1 + 1; omega
        · show s.1 + 1 ≤ _; omega
        · show ((s.2 ++ [(s.1 + 1, 1, t, o)]).length : Int) ≤ _; simp; omega
  · exact k.up (by omega)
theorem find_mid {α : Type} {p : α → Bool} {l1 l2 : List α} {a : α} (ha : p a = true) (h1 : ∀ x ∈ l1, p x = false) : (l1 ++ a :: l2).find? p = some a := by
  rw [List.find?_append, List.find?_eq_none.2 fun x hx => by rw [h1 x hx]; decide, Option.none_or, List.find?_cons, ha]
theorem bump_mid {id : Int} {l1 l2 : List Qd} {q : Qd} (hq : q.1 = id) (h1 : ∀ x ∈ l1, x.1 ≠ id) (h2 : ∀ x ∈ l2, x.1 ≠ id) : bumpS id (l1 ++ q :: l2) = l1 ++ (q.1, q.2.1 + 1, q.2.2) :: l2 := by
  unfold bumpS
  rw [List.map_append, List.map_cons, if_pos hq]
  congr 1
  · conv => rhs; rw [← List.map_id l1]
    exact List.map_congr_left fun x hx => if_neg (h1 x hx)
  · congr 1
    conv => rhs; rw [← List.map_id l2]
    exact List.map_congr_left fun x hx => if_neg (h2 x hx)
theorem bump_no {id : Int} {l : List Qd} (h : ∀ x ∈ l, x.1 ≠ id) : bumpS id l = l := by
  unfold bumpS
  conv => rhs; rw [← List.map_id l]
  exact List.map_congr_left fun x hx => if_neg (h x hx)
theorem Sv.split {c : Int} {s : RS} (k : Sv c s) {l1 l2 : List Qd} {q : Qd} (e : s.2 = l1 ++ q :: l2) : (∀ x ∈ l1, x.1 ≠ q.1) ∧ (∀ x ∈ l2, x.1 ≠ q.1) ∧ ∀ x ∈ l1, ¬ (x.2.2.1 = q.2.2.1 ∧ x.2.2.2 = q.2.2.2) := by
  have h1 := k.rise
  have h2 := k.keys
  rw [e] at h1 h2
  have a1 := List.pairwise_append.1 h1
  have a2 := List.pairwise_append.1 h2
  refine ⟨fun x hx z => ?_, fun x hx z => ?_, fun x hx => a2.2.2 x hx q (by simp)⟩
  · have := a1.2.2 x hx q (by simp); omega
  · have := (List.pairwise_cons.1 a1.2.1).1 x hx; omega

/-! ### the code's -/
def regT : List TypeId := [105, 99]
structure Cst (h0 h : Heap) (B : Nat) (c : Int) (b m1 m2 : Nat) (s : RS) : Prop where
  rg : ∃ L, Rg B c h b m1 m2 s.1 L ∧ L.map pr = s.2
  hB : h0.size ≤ B
abbrev CS (h0 : Heap) (m1 m2 : Nat) : Heap → Nat → Prop := Fs h0 [m1, m2] regT
section
variable {h0 h h1 h' : Heap} {B : Nat} {c : Int} {b m1 m2 bt : Nat} {s : RS} {S : Nat → Prop}
theorem Cst.sv (d : Cst h0 h B c b m1 m2 s) : Sv c s := by
  obtain ⟨⟨L, r, e⟩, _⟩ := d
  refine ⟨?_, ?_, fun q hq => ?_, fun q hq => ?_, ?_⟩
  · rw [← e, pw_map]; exact r.rise
  · rw [← e, pw_map]; exact r.keys
  · rw [← e] at hq; obtain ⟨x, hx, rfl⟩ := List.mem_map.1 hq; exact r.rf1 x hx
  · rw [← e] at hq; obtain ⟨x, hx, rfl⟩ := List.mem_map.1 hq; exact r.top x hx
  · have := r.bd; rw [← e, List.length_map]; exact ⟨this.1, this.2.1, this.2.2.1⟩
theorem Cst.ext (d : Cst h0 h B c b m1 m2 s) (a : Ext S h h1) (hS : ∀ q, S q → q ≠ m1 ∧ q ≠ m2 ∧ ¬ Ty (3 :: regT) h q) : Cst h0 h1 B c b m1 m2 s := by
  obtain ⟨⟨L, r, e⟩, hB⟩ := d
  refine ⟨⟨L, r.ext a (fun z => (hS _ z).2.2 ⟨_, _, r.blk, by simp [regT]⟩) (fun z => (hS _ z).1 rfl) (fun z => (hS _ z).2.1 rfl) (fun x hx => ⟨fun z => (hS _ z).2.2 ⟨_, _, r.recs x hx, by simp [regT]⟩, fun q hq z => ?_⟩), e⟩, hB⟩
  obtain ⟨cur, hc⟩ := own_ty (r.oid x hx) hq
  exact (hS _ z).2.2 ⟨_, _, hc, by simp⟩
theorem Cst.ext0 (d : Cst h0 h B c b m1 m2 s) (a : Ext No h h1) : Cst h0 h1 B c b m1 m2 s := d.ext a fun _ e => e.elim
theorem Cst.up (d : Cst h0 h B c b m1 m2 s) {c' : Int} (k1 : c ≤ c') (k2 : c' ≤ 1000000) : Cst h0 h B c' b m1 m2 s := by
  obtain ⟨⟨L, r, e⟩, hB⟩ := d
  exact ⟨⟨L, r.up k1 k2, e⟩, hB⟩
theorem Cst.maps (d : Cst h0 h B c b m1 m2 s) : (∃ es ck, h[m1]? = some (.map es ck)) ∧ ∃ es ck, h[m2]? = some (.map es ck) := by
  obtain ⟨⟨L, r, e⟩, _⟩ := d
  obtain ⟨_, ⟨_, _, e1, _⟩, _⟩ := r.mp1
  obtain ⟨_, ⟨_, _, e2, _⟩, _⟩ := r.mp2
  exact ⟨⟨_, _, e1⟩, _, _, e2⟩
/-- What the code's registry turns is no data. -/
theorem Cst.sf (d : Cst h0 h B c b m1 m2 s) : Sf h0 h (CS h0 m1 m2 h) := by
  obtain ⟨⟨es, ck, e1⟩, es2, ck2, e2⟩ := d.maps
  refine fs_sf (fun q hq => ?_) (by decide)
  simp only [List.mem_cons, List.not_mem_nil, or_false] at hq
  rcases hq with rfl | rfl
  · exact ty_map e1
  · exact ty_map e2
theorem cs_of {L : List Rn} {last : Int} (r : Rg B c h b m1 m2 last L) (hB : h0.size ≤ B) {q : Nat} (k : q = b ∨ q = m1 ∨ q = m2 ∨ ∃ e ∈ L, q = e.p) : CS h0 m1 m2 h q := by
  have lo := r.lo
  rcases k with rfl | rfl | rfl | ⟨e, he, rfl⟩
  · exact ⟨by omega, .inr ⟨_, _, r.blk, by simp [regT]⟩⟩
  · exact ⟨by omega, .inl (by simp)⟩
  · exact ⟨by omega, .inl (by simp)⟩
  · exact ⟨by have := lo.2.2.2 e he; omega, .inr ⟨_, _, r.recs e he, by simp [regT]⟩⟩
theorem c_put (d : Cst h0 h B c b m1 m2 s) (t : List UInt8) (o : List Int) {v : Value} (hvS : ∀ h', Ext (CS h0 m1 m2 h) h h' → Rd h' v 1 o.length (ints o)) (hol : o.length ≤ maxLen) (hc : c + 1 ≤ 1000000) :
    CallsH Tryz.prog 21 ⟨[ptE b, .agg ⟨[St t, v]⟩]⟩ h fun u h' => u = In (putS s t o).2 ∧ Cst h0 h' B (c + 1) b m1 m2 (putS s t o).1 ∧ Ext (CS h0 m1 m2 h) h h' := by
  have sv := d.sv
  obtain ⟨⟨L, r, e⟩, hB⟩ := d
  have hv := hvS h (.refl _ _)
  by_cases hf : fairS t o = true
  · unfold putS
    rw [if_pos hf]
    by_cases hm : ∃ x ∈ L, x.t = t ∧ x.o = o
    · obtain ⟨x, hx, rfl, rfl⟩ := hm
      obtain ⟨L1, L2, rfl⟩ := split_of hx
      have es : s.2 = L1.map pr ++ pr x :: L2.map pr := by rw [← e]; simp
      obtain ⟨u1, u2, u3⟩ := sv.split es
      have hfi : s.2.find? (isS x.t x.o) = some (pr x) := by
        rw [es]
        refine find_mid (by simp [isS]) fun y hy => ?_
        have := u3 y hy
        simpa [isS] using this
      rw [hfi]
      dsimp only
      refine (rg_put_old r hv hc).mono fun u h' ⟨e1, e2, e3⟩ => ⟨e1, ⟨⟨_, e2, ?_⟩, hB⟩, e3.mono fun q _ z => cs_of r hB (.inr (.inr (.inr ⟨x, hx, z⟩)))⟩
      rw [es, bump_mid rfl u1 u2]
      simp
    · have hfi : s.2.find? (isS t o) = none := List.find?_eq_none.2 fun y hy => by
        rw [← e] at hy
        obtain ⟨x, hx, rfl⟩ := List.mem_map.1 hy
        simp only [isS, decide_eq_true_eq]
        exact fun z => hm ⟨x, hx, z⟩
      rw [hfi]
      dsimp only
      have hsub : ∀ q, (q = b ∨ q = m1 ∨ q = m2) → CS h0 m1 m2 h q := fun q z => cs_of r hB (by rcases z with z | z | z; exact .inl z; exact .inr (.inl z); exact .inr (.inr (.inl z)))
      refine (rg_put_newS r hf (fun x hx z => hm ⟨x, hx, z⟩) (fun h' x => hvS h' (x.mono fun q _ z => hsub q z)) hc).mono fun u h' ⟨e1, ⟨p, v', e2⟩, e3⟩ => ⟨e1, ⟨⟨_, e2, ?_⟩, hB⟩, e3.mono fun q _ z => hsub q z⟩
      rw [← e]; simp
  · have hf' : fairS t o = false := by simpa using hf
    unfold putS
    rw [if_neg hf]
    exact (rg_put_zero r hf' hv hol).mono fun u h' ⟨e1, e2⟩ => ⟨e1, ⟨⟨L, (r.ext0 e2).up (by omega) hc, e⟩, hB⟩, fs_no e2⟩
theorem c_ref (d : Cst h0 h B c b m1 m2 s) (id : Int) (hc : c + 1 ≤ 1000000) :
    CallsH Tryz.prog 87 ⟨[ptE b, In id]⟩ h fun u h' => (∃ x, u = .bool x) ∧ Cst h0 h' B (c + 1) b m1 m2 (refS s id) ∧ Ext (CS h0 m1 m2 h) h h' := by
  have sv := d.sv
  obtain ⟨⟨L, r, e⟩, hB⟩ := d
  by_cases hm : ∃ x ∈ L, x.id = id
  · obtain ⟨x, hx, rfl⟩ := hm
    obtain ⟨L1, L2, rfl⟩ := split_of hx
    have es : s.2 = L1.map pr ++ pr x :: L2.map pr := by rw [← e]; simp
    obtain ⟨u1, u2, u3⟩ := sv.split es
    refine (rg_ref r hc).mono fun u h' ⟨e1, e2, e3⟩ => ⟨⟨_, e1⟩, ⟨⟨_, e2, ?_⟩, hB⟩, e3.mono fun q _ z => cs_of r hB (.inr (.inr (.inr ⟨x, hx, z⟩)))⟩
    show _ = bumpS x.id s.2
    rw [es, bump_mid (q := pr x) rfl u1 u2]
    simp
  · refine (rg_ref_no r fun x hx z => hm ⟨x, hx, z⟩).mono fun u h' ⟨e1, e2⟩ => ⟨⟨_, e1⟩, ⟨⟨L, by rw [e2]; exact r.up (by omega) hc, ?_⟩, hB⟩, by rw [e2]; exact .refl _ _⟩
    show _ = bumpS id s.2
    rw [bump_no fun y hy => ?_, e]
    rw [← e] at hy
    obtain ⟨x, hx, rfl⟩ := List.mem_map.1 hy
    exact fun z => hm ⟨x, hx, z⟩
theorem c_get (d : Cst h0 h B c b m1 m2 s) (id : Int) :
    CallsH Tryz.prog 92 ⟨[ptE b, In id]⟩ h fun u h' => ∃ v', u = .tuple ⟨[.agg ⟨[St ((getS s id).map (·.1) |>.getD []), v']⟩, .bool (getS s id).isSome]⟩ ∧ Own h' v' 3 1 ((getS s id).map (·.2) |>.getD []).length (ints ((getS s id).map (·.2) |>.getD [])) ∧ Ext No h h' ∧ ∀ q, v'.ownBlock = some q → h.size ≤ q := by
  have sv := d.sv
  obtain ⟨⟨L, r, e⟩, hB⟩ := d
  by_cases hm : ∃ x ∈ L, x.id = id
  · obtain ⟨x, hx, rfl⟩ := hm
    obtain ⟨L1, L2, rfl⟩ := split_of hx
    have es : s.2 = L1.map pr ++ pr x :: L2.map pr := by rw [← e]; simp
    obtain ⟨u1, u2, u3⟩ := sv.split es
    have hg : getS s x.id = some (x.t, x.o) := by
      unfold getS
      rw [es, find_mid (a := pr x) (by simp [idS]) fun y hy => by simpa [idS] using u1 y hy]
      rfl
    rw [hg]
    exact rg_get r hx
  · have hg : getS s id = none := by
      unfold getS
      rw [List.find?_eq_none.2 fun y hy => ?_]
      · rfl
      · rw [← e] at hy
        obtain ⟨x, hx, rfl⟩ := List.mem_map.1 hy
        simp only [idS, decide_eq_true_eq]
        exact fun z => hm ⟨x, hx, z⟩
    rw [hg]
    exact (rg_get_no r fun x hx z => hm ⟨x, hx, z⟩).mono fun u h' ⟨e1, e2⟩ => ⟨_, e1, Own.nil _ _ _, e2, by simp [Value.ownBlock]⟩
theorem c_refs (d : Cst h0 h B c b m1 m2 s) (id : Int) :
    CallsH Tryz.prog 15 ⟨[ptE b, In id]⟩ h fun u h' => u = In (refsS s id) ∧ h' = h := by
  have sv := d.sv
  obtain ⟨⟨L, r, e⟩, hB⟩ := d
  unfold refsS
  by_cases hm : ∃ x ∈ L, x.id = id
  · obtain ⟨x, hx, rfl⟩ := hm
    have hr := rg_refs r hx
    obtain ⟨L1, L2, rfl⟩ := split_of hx
    have es : s.2 = L1.map pr ++ pr x :: L2.map pr := by rw [← e]; simp
    obtain ⟨u1, u2, u3⟩ := sv.split es
    rw [es, find_mid (a := pr x) (by simp [idS]) fun y hy => by simpa [idS] using u1 y hy]
    exact hr
  · rw [List.find?_eq_none.2 fun y hy => ?_]
    · exact rg_refs_no r fun x hx z => hm ⟨x, hx, z⟩
    · rw [← e] at hy
      obtain ⟨x, hx, rfl⟩ := List.mem_map.1 hy
      simp only [idS, decide_eq_true_eq]
      exact fun z => hm ⟨x, hx, z⟩

/-! ### the document's -/
def docT : List TypeId := [54, 101]
structure Dst (h0 h : Heap) (B bt : Nat) (s : RS) : Prop where
  rf : ∃ v D, R14 B h bt v s.1 D ∧ D.map pr = s.2
  hB : h0.size ≤ B
abbrev DS (h0 : Heap) : Heap → Nat → Prop := Fs h0 [] docT
theorem Dst.ext (d : Dst h0 h B bt s) (a : Ext S h h1) (hS : ∀ q, S q → ¬ Ty (3 :: docT) h q) : Dst h0 h1 B bt s := by
  obtain ⟨⟨v, D, r, e⟩, hB⟩ := d
  refine ⟨⟨v, D, r.ext a fun q hq z => hS q z ?_, e⟩, hB⟩
  rcases hq with rfl | hq | ⟨x, hx, hq⟩
  · exact ⟨_, _, r.blk, by simp [docT]⟩
  · obtain ⟨cur, hc⟩ := own_ty r.own hq
    exact ⟨_, _, hc, by simp [docT]⟩
  · obtain ⟨cur, hc⟩ := own_ty (r.oid x hx) hq
    exact ⟨_, _, hc, by simp⟩
theorem Dst.ext0 (d : Dst h0 h B bt s) (a : Ext No h h1) : Dst h0 h1 B bt s := d.ext a fun _ e => e.elim
theorem ds_sf : Sf h0 h (DS h0 h) := fs_sf (fun q hq => by cases hq) (by decide)
theorem ds_of {v : Value} {last : Int} {D : List Rn} (r : R14 B h bt v last D) (hB : h0.size ≤ B) {q : Nat} (k : q = bt ∨ v.ownBlock = some q) : DS h0 h q := by
  rcases k with rfl | k
  · exact ⟨by have := r.lo.1; omega, .inr ⟨_, _, r.blk, by simp [docT]⟩⟩
  · obtain ⟨cur, hc⟩ := own_ty r.own k
    exact ⟨by have := r.lo.2.1 q k; omega, .inr ⟨_, _, hc, by simp [docT]⟩⟩
theorem d_put (d : Dst h0 h B bt s) (sv : Sv c s) (hc : c + 1 ≤ 1000000) (x0 : Ext No h0 h) (t : List UInt8) (o : List Int) {w : Value} (ok : stOk h0 (t, w, o)) :
    CallsH Tryz.prog 22 ⟨[ptE bt, .agg ⟨[St t, w]⟩]⟩ h fun u h' => u = In (putS s t o).2 ∧ Dst h0 h' B bt (putS s t o).1 ∧ Ext (DS h0 h) h h' := by
  obtain ⟨⟨v, D, r, e⟩, hB⟩ := d
  have okh : stOk h (t, w, o) := ⟨ok.1.ext0 x0, ok.2⟩
  by_cases hf : fairS t o = true
  · unfold putS
    rw [if_pos hf]
    by_cases hm : ∃ x ∈ D, x.t = t ∧ x.o = o
    · obtain ⟨x, hx, rfl, rfl⟩ := hm
      obtain ⟨L1, L2, rfl⟩ := List.append_of_mem hx
      have es : s.2 = L1.map pr ++ pr x :: L2.map pr := by rw [← e]; simp
      obtain ⟨u1, u2, u3⟩ := sv.split es
      have hfi : s.2.find? (isS x.t x.o) = some (pr x) := by
        rw [es]
        refine find_mid (by simp [isS]) fun y hy => ?_
        have := u3 y hy
        simpa [isS] using this
      rw [hfi]
      dsimp only
      have hrf := sv.rf (pr x) (by rw [es]; simp)
      refine (put14_old r (x.t, w, x.o) okh hf ⟨rfl, rfl⟩ (fun y hy z => ?_) (fun y hy => u1 (pr y) (List.mem_map_of_mem hy)) ⟨hrf.1, by have := hrf.2; show x.rf ≤ _; have : x.rf ≤ c := hrf.2; omega⟩).mono fun u h' ⟨e1, e2, e3⟩ => ⟨e1, ⟨⟨_, _, e2, ?_⟩, hB⟩, e3.mono fun q _ z => ds_of r hB (.inr z)⟩
      · rcases List.mem_append.1 hy with h1 | h1
        · exact absurd z (u3 (pr y) (List.mem_map_of_mem h1))
        · rcases List.mem_cons.1 h1 with rfl | h2
          · rfl
          · have hk := sv.keys
            rw [es] at hk
            exact absurd ⟨z.1.symm, z.2.symm⟩ ((List.pairwise_cons.1 (List.pairwise_append.1 hk).2.1).1 (pr y) (List.mem_map_of_mem h2))
      · rw [es, bump_mid rfl u1 u2]
        simp
    · have hno : ∀ y ∈ D, ¬ (y.t = t ∧ y.o = o) := fun y hy z => hm ⟨y, hy, z⟩
      have hfi : s.2.find? (isS t o) = none := List.find?_eq_none.2 fun y hy => by
        rw [← e] at hy
        obtain ⟨x, hx, rfl⟩ := List.mem_map.1 hy
        simp only [isS, decide_eq_true_eq]
        exact hno x hx
      rw [hfi]
      dsimp only
      have bd := sv.bd
      have hlD : D.length = s.2.length := by rw [← e]; simp
      refine (put14_new r (t, w, o) ok x0 hB hf hno (by omega) (by omega)).mono fun u h' ⟨e1, ⟨v', v2, e2⟩, e3⟩ => ⟨e1, ⟨⟨_, _, e2, ?_⟩, hB⟩, e3.mono fun q _ z => ds_of r hB z⟩
      rw [← e]; simp
  · have hf' : fairS t o = false := by simpa using hf
    unfold putS
    rw [if_neg hf]
    exact (put14_zero r (t, w, o) okh hf').mono fun u h' ⟨e1, e2⟩ => ⟨e1, ⟨⟨v, D, r.ext0 e2, e⟩, hB⟩, fs_no e2⟩
theorem d_ref (d : Dst h0 h B bt s) (sv : Sv c s) (hc : c + 1 ≤ 1000000) (id : Int) :
    CallsH Tryz.prog 49 ⟨[ptE bt, In id]⟩ h fun u h' => (∃ x, u = .bool x) ∧ Dst h0 h' B bt (refS s id) ∧ Ext (DS h0 h) h h' := by
  obtain ⟨⟨v, D, r, e⟩, hB⟩ := d
  by_cases hm : ∃ x ∈ D, x.id = id
  · obtain ⟨x, hx, rfl⟩ := hm
    obtain ⟨L1, L2, rfl⟩ := List.append_of_mem hx
    have es : s.2 = L1.map pr ++ pr x :: L2.map pr := by rw [← e]; simp
    obtain ⟨u1, u2, u3⟩ := sv.split es
    have hrf := sv.rf (pr x) (by rw [es]; simp)
    refine (ref14 r (fun y hy => u1 (pr y) (List.mem_map_of_mem hy)) ⟨hrf.1, by have : x.rf ≤ c := hrf.2; omega⟩).mono fun u h' ⟨e1, e2, e3⟩ => ⟨⟨_, e1⟩, ⟨⟨_, _, e2, ?_⟩, hB⟩, e3.mono fun q _ z => ds_of r hB (.inr z)⟩
    show _ = bumpS x.id s.2
    rw [es, bump_mid (q := pr x) rfl u1 u2]
    simp
  · refine (ref14_no r fun x hx z => hm ⟨x, hx, z⟩).mono fun u h' ⟨e1, e2⟩ => ⟨⟨_, e1⟩, ⟨⟨v, D, by rw [e2]; exact r, ?_⟩, hB⟩, by rw [e2]; exact .refl _ _⟩
    show _ = bumpS id s.2
    rw [bump_no fun y hy => ?_, e]
    rw [← e] at hy
    obtain ⟨x, hx, rfl⟩ := List.mem_map.1 hy
    exact fun z => hm ⟨x, hx, z⟩
theorem d_get (d : Dst h0 h B bt s) (sv : Sv c s) (id : Int) :
    CallsH Tryz.prog 69 ⟨[ptE bt, In id]⟩ h fun u h' => ∃ v', u = .tuple ⟨[.agg ⟨[St ((getS s id).map (·.1) |>.getD []), v']⟩, .bool (getS s id).isSome]⟩ ∧ Own h' v' 3 1 ((getS s id).map (·.2) |>.getD []).length (ints ((getS s id).map (·.2) |>.getD [])) ∧ Ext No h h' := by
  obtain ⟨⟨v, D, r, e⟩, hB⟩ := d
  by_cases hm : ∃ x ∈ D, x.id = id
  · obtain ⟨x, hx, rfl⟩ := hm
    obtain ⟨L1, L2, rfl⟩ := List.append_of_mem hx
    have es : s.2 = L1.map pr ++ pr x :: L2.map pr := by rw [← e]; simp
    obtain ⟨u1, u2, u3⟩ := sv.split es
    have hg : getS s x.id = some (x.t, x.o) := by
      unfold getS
      rw [es, find_mid (a := pr x) (by simp [idS]) fun y hy => by simpa [idS] using u1 y hy]
      rfl
    rw [hg]
    exact (get14 r (fun y hy => u1 (pr y) (List.mem_map_of_mem hy))).mono fun u h' ⟨e1, e2⟩ => ⟨_, e1, (r.ext0 e2).oid x hx, e2⟩
  · have hg : getS s id = none := by
      unfold getS
      rw [List.find?_eq_none.2 fun y hy => ?_]
      · rfl
      · rw [← e] at hy
        obtain ⟨x, hx, rfl⟩ := List.mem_map.1 hy
        simp only [idS, decide_eq_true_eq]
        exact fun z => hm ⟨x, hx, z⟩
    rw [hg]
    exact (get14_no r fun x hx z => hm ⟨x, hx, z⟩).mono fun u h' ⟨e1, e2⟩ => ⟨_, e1, Own.nil _ _ _, e2⟩
theorem d_refs (d : Dst h0 h B bt s) (sv : Sv c s) (id : Int) :
    CallsH Tryz.prog 16 ⟨[ptE bt, In id]⟩ h fun u h' => u = In (refsS s id) ∧ h' = h := by
  obtain ⟨⟨v, D, r, e⟩, hB⟩ := d
  unfold refsS
  by_cases hm : ∃ x ∈ D, x.id = id
  · obtain ⟨x, hx, rfl⟩ := hm
    obtain ⟨L1, L2, rfl⟩ := List.append_of_mem hx
    have es : s.2 = L1.map pr ++ pr x :: L2.map pr := by rw [← e]; simp
    obtain ⟨u1, u2, u3⟩ := sv.split es
    rw [es, find_mid (a := pr x) (by simp [idS]) fun y hy => by simpa [idS] using u1 y hy]
    exact refs14 r (fun y hy => u1 (pr y) (List.mem_map_of_mem hy))
  · rw [List.find?_eq_none.2 fun y hy => ?_]
    · exact refs14_no r fun x hx z => hm ⟨x, hx, z⟩
    · rw [← e] at hy
      obtain ⟨x, hx, rfl⟩ := List.mem_map.1 hy
      simp only [idS, decide_eq_true_eq]
      exact fun z => hm ⟨x, hx, z⟩
end
end Go.Proofs.YtggmocdbfbhklaaGreat


/-
  REWRITE (layer 24): what a server is told, as plain data; the code's small functions.
-/
namespace Go.Proofs.YtggmocdbfbhklaaGreat
open Go Go.RK

abbrev FmP := Int × Int × List UInt8 × List UInt8 × List UInt8 × List Int × List Int × List Int × List (Bool × List UInt8) × Int
abbrev EnP := Int × Bool × List UInt8 × List UInt8 × List TOp × List TOp × List COp × List UInt8
section
variable {h0 h h1 h' : Heap} {S : Nat → Prop}
theorem lst_blk {q : Nat} {cs : Array Value} {T : TypeId} (hb : h[q]? = some (.cells cs T (0, 0))) (hT : T ∈ dataT) : Lst h0 h fun g => g[q]? = some (.cells cs T (0, 0)) := fun _ _ x s => x.obj hb fun e => (s q e).2 ⟨_, _, hb, hT⟩
/-- Messages and entries that were made here. -/
structure TG (h0 h : Heap) (vF vE : Value) (L : List Fm) (M : List En) (h' : Heap) : Prop where
  F : Own h' vF 27 10 L.length (L.flatMap Fm.cells)
  E : Own h' vE 44 8 M.length (M.flatMap En.cells)
  lF : L.length ≤ 3
  lE : M.length ≤ 3
  okF : ∀ f ∈ L, Lst h0 h' fun g => f.ok g
  okE : ∀ e ∈ M, Lst h0 h' fun g => e.ok g
  fF : ∀ k, vF.ownBlock = some k → h.size ≤ k
  fE : ∀ k, vE.ownBlock = some k → h.size ≤ k
def Gives (h0 h : Heap) (F : List FmP) (E : List EnP) (u : Value) (h' : Heap) : Prop := ∃ vF vE L M, u = .tuple ⟨[vF, vE]⟩ ∧ TG h0 h vF vE L M h' ∧ L.map Fm.pl = F ∧ M.map En.pl = E
theorem Gives.nil : Gives h0 h [] [] (.tuple ⟨[.slice none 0 0, .slice none 0 0]⟩) h' := ⟨_, _, [], [], rfl, ⟨Own.nil _ _ _, Own.nil _ _ _, by simp, by simp, by simp, by simp, by simp [Value.ownBlock], by simp [Value.ownBlock]⟩, rfl, rfl⟩
theorem Gives.from {F : List FmP} {E : List EnP} {u : Value} (k : Gives h0 h1 F E u h') (x : h.size ≤ h1.size) : Gives h0 h F E u h' := by
  obtain ⟨vF, vE, L, M, e, t, p1, p2⟩ := k
  exact ⟨vF, vE, L, M, e, ⟨t.F, t.E, t.lF, t.lE, t.okF, t.okE, fun k z => Nat.le_trans x (t.fF k z), fun k z => Nat.le_trans x (t.fE k z)⟩, p1, p2⟩
theorem Gives.stay {F : List FmP} {E : List EnP} {u : Value} (k : Gives h0 h F E u h') (x : Ext No h' h1) : Gives h0 h F E u h1 := by
  obtain ⟨vF, vE, L, M, e, t, p1, p2⟩ := k
  exact ⟨vF, vE, L, M, e, ⟨t.F.ext x (fun _ _ => nos), t.E.ext x (fun _ _ => nos), t.lF, t.lE, fun f hf => (t.okF f hf).ext0 x, fun f hf => (t.okE f hf).ext0 x, t.fF, t.fE⟩, p1, p2⟩
theorem own_one {q : Nat} {T : TypeId} {sz : Nat} {cs : List Value} (hb : h[q]? = some (.cells ⟨cs⟩ T (0, 0))) (hl : cs.length = sz) : Own h (.slice (some ⟨q, 0, none⟩) 1 1) T sz 1 cs := own_blk hb (by omega) (by decide)
/-- One message with its entry. -/
theorem gives_one {p q : Nat} {f : Fm} {e : En} (hp : h'[p]? = some (.cells ⟨f.cells⟩ 27 (0, 0))) (hq : h'[q]? = some (.cells ⟨e.cells⟩ 44 (0, 0))) (hf : Lst h0 h' fun g => f.ok g) (he : Lst h0 h' fun g => e.ok g) (p0 : h.size ≤ p) (q0 : h.size ≤ q) :
    Gives h0 h [f.pl] [e.pl] (.tuple ⟨[.slice (some ⟨p, 0, none⟩) 1 1, .slice (some ⟨q, 0, none⟩) 1 1]⟩) h' :=
  ⟨_, _, [f], [e], rfl, ⟨by simpa using own_one hp (Fm.len _), by simpa using own_one hq (En.len _), by simp, by simp, fun x hx => by obtain rfl := List.mem_singleton.1 hx; exact hf, fun x hx => by obtain rfl := List.mem_singleton.1 hx; exact he, fun k z => by simp [Value.ownBlock] at z; omega, fun k z => by simp [Value.ownBlock] at z; omega⟩, rfl, rfl⟩
/-- An entry without rows. -/
def zE (k : Int) (a b : List UInt8) : En := ⟨k, false, a, b, .slice none 0 0, [], .slice none 0 0, [], .slice none 0 0, [], .slice none 0 0, []⟩
theorem tops_nil (h : Heap) : Tops h (.slice none 0 0) [] := ⟨Rd.nil _ _, by simp [maxLen]⟩
theorem ops_nil (h : Heap) : Ops h (.slice none 0 0) [] := ⟨Rd.nil _ _, by simp [reachBytes]⟩
theorem byt_nil (h : Heap) : Rd h (.slice none 0 0) 1 ([] : List UInt8).length (bys []) ∧ ([] : List UInt8).length ≤ reachBytes := ⟨Rd.nil _ _, by simp [reachBytes]⟩
theorem zE_ok (k : Int) (a b : List UInt8) (h : Heap) : (zE k a b).ok h := ⟨tops_nil h, tops_nil h, ops_nil h, byt_nil h⟩
theorem tops_one {q : Nat} {x : Bool} {n : List UInt8} {id : Int} (hb : h[q]? = some (.cells ⟨[.bool x, St n, In id]⟩ 89 (0, 0))) : Tops h (.slice (some ⟨q, 0, none⟩) 1 1) [(x, n, id, ())] := ⟨rd_blk hb rfl, by simp [maxLen]⟩
end

/-! ### the code's small functions -/
def jC (f : Fm) (b : Nat) (vs : Value) (most id : Int) (kn : Bool) : List Value := f.cells ++ [ptE b, vs, In most, In id, .bool kn]
section
variable {h0 h : Heap} {f : Fm} {b : Nat} {ss : Option Addr} {sn sc : Nat} {most id : Int} {kn : Bool}
set_option maxHeartbeats 2000000 in
set_option maxRecDepth 100000 in
theorem as24 (hf : f.ok h0) (nm : List UInt8) : CallsH Tryz.prog 84 ⟨[.agg ⟨jC f b (.slice ss sn sc) most id kn⟩, St nm]⟩ h fun u h' => u = .agg ⟨({ f with name := nm } : Fm).cells⟩ ∧ Ext No h h' := by
  obtain ⟨⟨e1, _⟩, ⟨e2, _⟩, ⟨e3, _⟩, e4, _⟩ := hf
  obtain ⟨k, w, n, p, t, vo, o, vf, fs, vs, rs, vp, ps, mx⟩ := f
  dsimp only at e1 e2 e3 e4
  obtain ⟨_, _, rfl, _⟩ := e1
  obtain ⟨_, _, rfl, _⟩ := e2
  obtain ⟨_, _, rfl, _⟩ := e3
  obtain ⟨_, _, rfl, _⟩ := e4
  dsimp only [jC, Fm.cells, List.cons_append, List.nil_append, ptE]
  refine calls [(0, _), (1, _)] Tryz.func84 rfl Tryz.ntmps84 rfl ⟨rfl, rfl, trivial⟩ ?_
  all_goals (refine WC.sr ?_; refine WL.stepR (okE_box rfl) rfl rfl rfl ?_; rintro _ h1 ⟨b1, rfl, hg1, hb1, hx1⟩; refine WL.stepR (okE_alloc (fun w => Tryz.zeroValue27 w)) rfl rfl rfl ?_; rintro _ h2 ⟨b2, rfl, hg2, hb2, hx2⟩; have hb12 := hx2.obj hb1 nos; have hX2 := hx1.trans hx2; refine Gn ?_; refine WC.sr ?_; refine Go ?_; refine WL.step (ok_loadN (fun w => Tryz.isAgg27 w) (fun w => Tryz.sizeOf27 w) rfl rfl (by exact At.pre (xs := [_, _, _, _, _, _, _, _, _, _]) (ys := [_, _, _, _, _]) (At.of_block hb12))) rfl rfl rfl ?_; refine WL.stepR (okE_alloc (fun w => Tryz.zeroValue27 w)) rfl rfl rfl ?_; rintro _ h3 ⟨b3, rfl, hg3, hb3, hx3⟩; refine WL.stepR0 (okE_storeW (fun w => Tryz.sizeOf27 w) rfl rfl rfl hb3 rfl (by simp [Value.oneCell'])) rfl rfl ?_; rintro _ h4 ⟨hb34, hx4⟩; have hb24 := hx4.obj (hx3.obj hb2 nos) (fun e => by have := lt_of_some hb2; omega); have hX4 : Ext No h h4 := (hX2.trans hx3).trans' hx4 (fun q hq e => by have := hX2.size; omega); refine Gn ?_; refine Gs [(1, _), (4, _), (5, _)] ?_; refine WC.sr ?_; refine Go ?_; refine WL.stepR0 (okE_store (fun w => Tryz.sizeOf9 w) rfl rfl hb34 (Nat.le_of_ble_eq_true rfl) rfl rfl) rfl rfl ?_; rintro _ h5 ⟨hb35, hx5⟩; have l2 := lt_of_some hb2; have hb25 := hx5.obj hb24 (fun e => by omega); have hX5 : Ext No h h5 := hX4.trans' hx5 (fun q hq e => by have := hX2.size; omega); refine Gn ?_; refine WC.sr ?_; refine WL.step (ok_loadN (fun w => Tryz.isAgg27 w) (fun w => Tryz.sizeOf27 w) rfl rfl (by exact At.of_block hb35)) rfl rfl rfl ?_; refine WL.stepR0 (okE_storeW (fun w => Tryz.sizeOf27 w) rfl rfl rfl hb25 rfl (by simp [Value.oneCell'])) rfl rfl ?_; rintro _ h6 ⟨hb26, hx6⟩; refine Gn ?_; refine Gs [(4, _)] ?_; refine WC.ret ?_; repeat' (with_reducible first | refine thenP_r ?_ | refine blockP_r ?_))
  all_goals (refine retP_1 _ ⟨⟨_, rfl, ld_blk (fun w => Tryz.isAgg27 w) (fun w => Tryz.sizeOf27 w) hb26 rfl⟩, trivial⟩ ?_; exact ⟨rfl, hX5.trans' hx6 (fun q hq e => by have := hx1.size; omega)⟩)
set_option maxHeartbeats 2000000 in
set_option maxRecDepth 100000 in
theorem entry24 (hf : f.ok h0) : CallsH Tryz.prog 61 ⟨[.agg ⟨jC f b (.slice ss sn sc) most id kn⟩]⟩ h fun u h' => u = .agg ⟨(zE (entK f.kind f.what) [] []).cells⟩ ∧ Ext No h h' := by
  have kk := fun h' => kind_code (h := h') f
  obtain ⟨⟨e1, _⟩, ⟨e2, _⟩, ⟨e3, _⟩, e4, _⟩ := hf
  obtain ⟨k, w, n, p, t, vo, o, vf, fs, vs, rs, vp, ps, mx⟩ := f
  dsimp only at e1 e2 e3 e4
  obtain ⟨_, _, rfl, _⟩ := e1
  obtain ⟨_, _, rfl, _⟩ := e2
  obtain ⟨_, _, rfl, _⟩ := e3
  obtain ⟨_, _, rfl, _⟩ := e4
  dsimp only [jC, Fm.cells, List.cons_append, List.nil_append, ptE, zE, En.cells] at kk ⊢
  refine calls [(0, _)] Tryz.func61 rfl Tryz.ntmps61 rfl ⟨rfl, trivial⟩ ?_
  all_goals (refine WC.sr ?_; refine WL.stepR (okE_box rfl) rfl rfl rfl ?_; rintro _ h1 ⟨b1, rfl, hg1, hb1, hx1⟩; refine WL.stepR (okE_alloc (fun w => Tryz.zeroValue44 w)) rfl rfl rfl ?_; rintro _ h2 ⟨b2, rfl, hg2, hb2, hx2⟩; have hb12 := hx2.obj hb1 nos; have hX2 := hx1.trans hx2; refine Gn ?_; refine WC.sr ?_; refine Go ?_; refine WL.step (ok_loadN (fun w => Tryz.isAgg27 w) (fun w => Tryz.sizeOf27 w) rfl rfl (by exact At.pre (xs := [_, _, _, _, _, _, _, _, _, _]) (ys := [_, _, _, _, _]) (At.of_block hb12))) rfl rfl rfl ?_; refine WL.call (vs := [_]) rfl (fun a w => Tryz.call95 a w) rfl (kk _) rfl rfl rfl ?_; rintro _ h3 ⟨rfl, hx3⟩; refine WL.step (ok_buildF (vs := [_]) (cs := [_, _, _, _, _, _, _, _]) (fun | [a0] => [a0, (.bool false), (St []), (St []), (.slice none 0 0), (.slice none 0 0), (.slice none 0 0), (.slice none 0 0)] | _ => []) rfl rfl (by kernel_rfl)) rfl rfl rfl ?_; refine WL.stepR0 (okE_storeW (fun w => Tryz.sizeOf44 w) rfl rfl rfl (hx3.obj hb2 nos) rfl (by simp [Value.oneCell'])) rfl rfl ?_; rintro _ h4 ⟨hb4, hx4⟩; refine Gn ?_; refine Gs [(2, _)] ?_; refine WC.ret ?_; repeat' (with_reducible first | refine thenP_r ?_ | refine blockP_r ?_))
  all_goals (refine retP_1 _ ⟨⟨_, rfl, ld_blk (fun w => Tryz.isAgg44 w) (fun w => Tryz.sizeOf44 w) hb4 rfl⟩, trivial⟩ ?_; exact ⟨rfl, (hX2.trans hx3).trans' hx4 (fun q hq e => by have := hx1.size; omega)⟩)
set_option maxHeartbeats 2000000 in
set_option maxRecDepth 100000 in
theorem alone24 {e : En} {g : Heap} (hf : Lst h0 h fun g => f.ok g) (he : Lst h0 h fun g => e.ok g) (hg : g.size ≤ h.size) : CallsH Tryz.prog 62 ⟨[.agg ⟨f.cells⟩, .agg ⟨e.cells⟩]⟩ h fun u h' => Gives h0 g [f.pl] [e.pl] u h' ∧ Ext No h h' := by
  have kk := fun p q h' => gives_one (h0 := h0) (h := g) (h' := h') (p := p) (q := q) (f := f) (e := e)
  have hf1 := hf.now
  have he1 := he.now
  obtain ⟨⟨e1, _⟩, ⟨e2, _⟩, ⟨e3, _⟩, e4, _⟩ := id hf1
  obtain ⟨⟨q1, _⟩, ⟨q2, _⟩, ⟨q3, _⟩, q4, _⟩ := id he1
  obtain ⟨k, w, n, p, t, vo, o, vf, fs, vs, rs, vp, ps, mx⟩ := f
  obtain ⟨ek, hd, ef, et, vg, lg, vb, lb, vcc, lcc, vrr, lrr⟩ := e
  dsimp only at e1 e2 e3 e4 q1 q2 q3 q4
  obtain ⟨_, _, rfl, _⟩ := e1
  obtain ⟨_, _, rfl, _⟩ := e2
  obtain ⟨_, _, rfl, _⟩ := e3
  obtain ⟨_, _, rfl, _⟩ := e4
  obtain ⟨_, _, rfl, _⟩ := q1
  obtain ⟨_, _, rfl, _⟩ := q2
  obtain ⟨_, _, rfl, _⟩ := q3
  obtain ⟨_, _, rfl, _⟩ := q4
  dsimp only [Fm.cells, En.cells] at kk ⊢
  refine calls [(0, _), (1, _)] Tryz.func62 rfl Tryz.ntmps62 rfl ⟨rfl, rfl, trivial⟩ ?_
  all_goals (refine WC.sr ?_; refine WL.stepR (okE_box rfl) rfl rfl rfl ?_; rintro _ h1 ⟨b1, rfl, hg1, hb1, hx1⟩; refine WL.stepR (okE_box rfl) rfl rfl rfl ?_; rintro _ h2 ⟨b2, rfl, hg2, hb2, hx2⟩; have hb12 := hx2.obj hb1 nos; have hX2 := hx1.trans hx2; have hs2 := hX2.size; refine Go ?_; refine Gs [(2, _), (3, _)] ?_; refine WC.seq ?_; refine WC.drawH (fun h' => Ext No h2 h') 6 6 rfl fol ?_; refine WH.tk 0 rfl (fun hq hC => ok_loadN (fun w => Tryz.isAgg27 w) (fun w => Tryz.sizeOf27 w) rfl rfl (by exact (At.of_block hb12).ext hC nos)) rfl rfl rfl ?_; refine WH.tk 2 rfl (fun hq hC => ok_loadN (fun w => Tryz.isAgg44 w) (fun w => Tryz.sizeOf44 w) rfl rfl (by exact (At.of_block hb2).ext hC nos)) rfl rfl rfl ?_; refine WH.two 1 3 (by kernel_rfl) (Br.out (i := 5003) ?_) (Br.out (i := 5004) ?_))
  all_goals (first | (fail_if_success refine goB 5003 ?_) | (
  refine goB 5003 ?_
  all_goals (refine Comes1.run rfl (okE_buildSlice (vs := [_]) (cs := [_, _, _, _, _, _, _, _, _, _]) (fun | [.agg ⟨[a0, a1, a2, a3, a4, a5, a6, a7, a8, a9]⟩] => [a0, a1, a2, a3, a4, a5, a6, a7, a8, a9] | _ => []) Tryz.underlying36 rfl rfl (by kernel_rfl)) rfl rfl rfl ?_ (fun _ => by kernel_rfl); rintro _ h3 ⟨b3, rfl, hg3, hb3, hx3⟩; refine ⟨fun _ => by first | exact hx3 | exact hx4.trans hx3, ?_⟩; have hY3 : Ext No h2 h3 := by first | exact hx3 | exact hx4.trans hx3)
  all_goals (refine WH.tk 4 rfl (fun hq hC => ok_assign rfl) rfl rfl rfl ?_; refine WH.one 3 (by kernel_rfl) ?_; refine Comes1.run rfl (okE_buildSlice (vs := [_]) (cs := [_, _, _, _, _, _, _, _]) (fun | [.agg ⟨[a0, a1, a2, a3, a4, a5, a6, a7]⟩] => [a0, a1, a2, a3, a4, a5, a6, a7] | _ => []) Tryz.underlying37 rfl rfl (by kernel_rfl)) rfl rfl rfl ?_ (fun _ => by kernel_rfl); rintro _ h4 ⟨b4, rfl, hg4, hb4, hx4⟩; refine ⟨fun _ => by first | exact hx4 | exact hx3.trans hx4, ?_⟩; have hY4 : Ext No h2 h4 := by first | exact hx4 | exact hx3.trans hx4)
  all_goals (refine WH.tk 5 rfl (fun hq hC => ok_assign rfl) rfl rfl rfl ?_; refine WH.done (by kernel_rfl) ?_)
  skip))
  all_goals (first | (fail_if_success refine goB 5004 ?_) | (
  refine goB 5004 ?_
  all_goals (refine Comes1.run rfl (okE_buildSlice (vs := [_]) (cs := [_, _, _, _, _, _, _, _]) (fun | [.agg ⟨[a0, a1, a2, a3, a4, a5, a6, a7]⟩] => [a0, a1, a2, a3, a4, a5, a6, a7] | _ => []) Tryz.underlying37 rfl rfl (by kernel_rfl)) rfl rfl rfl ?_ (fun _ => by kernel_rfl); rintro _ h4 ⟨b4, rfl, hg4, hb4, hx4⟩; refine ⟨fun _ => by first | exact hx4 | exact hx3.trans hx4, ?_⟩; have hY4 : Ext No h2 h4 := by first | exact hx4 | exact hx3.trans hx4)
  all_goals (refine WH.one 1 (by kernel_rfl) ?_; refine Comes1.run rfl (okE_buildSlice (vs := [_]) (cs := [_, _, _, _, _, _, _, _, _, _]) (fun | [.agg ⟨[a0, a1, a2, a3, a4, a5, a6, a7, a8, a9]⟩] => [a0, a1, a2, a3, a4, a5, a6, a7, a8, a9] | _ => []) Tryz.underlying36 rfl rfl (by kernel_rfl)) rfl rfl rfl ?_ (fun _ => by kernel_rfl); rintro _ h3 ⟨b3, rfl, hg3, hb3, hx3⟩; refine ⟨fun _ => by first | exact hx3 | exact hx4.trans hx3, ?_⟩; have hY3 : Ext No h2 h3 := by first | exact hx3 | exact hx4.trans hx3)
  all_goals (refine WH.tk 4 rfl (fun hq hC => ok_assign rfl) rfl rfl rfl ?_; refine WH.tk 5 rfl (fun hq hC => ok_assign rfl) rfl rfl rfl ?_; refine WH.done (by kernel_rfl) ?_)
  skip))
  all_goals (refine Gn ?_; refine Gs [(4, _), (5, _)] ?_; refine Gt ?_)
  all_goals (first
              | exact ⟨kk _ _ _ (hx4.obj hb3 nos) hb4 (hf.ext0 (hX2.trans hY4)) (he.ext0 (hX2.trans hY4)) (by omega) (by have := hx3.size; omega), hX2.trans hY4⟩
              | exact ⟨kk _ _ _ hb3 (hx3.obj hb4 nos) (hf.ext0 (hX2.trans hY3)) (he.ext0 (hX2.trans hY3)) (by have := hx4.size; omega) (by omega), hX2.trans hY3⟩)
end
end Go.Proofs.YtggmocdbfbhklaaGreat


/-
  REWRITE (layer 24): the code's P of a name that is there, and of another one.
-/
namespace Go.Proofs.YtggmocdbfbhklaaGreat
open Go Go.RK

def asP (p : FmP) (n : List UInt8) : FmP := (p.1, p.2.1, n, p.2.2.2)
def dupL : List UInt8 := ([95, 100, 117, 112] : List UInt8)
def noneL : List UInt8 := ([95, 110, 111, 110, 101] : List UInt8)
def preGood (p : FmP) (id : Int) : List TOp := [(true, p.2.2.1, id, ())]
def preBad (n : List UInt8) : List TOp := if n = [] then [(false, [], 0, ())] else []
/-- A P of a name that isn't there. -/
def preA (s : RS) (spec : List Int) (most : Int) (p : FmP) : RS × List FmP × List EnP :=
  let r := putS s p.2.2.2.2.1 p.2.2.2.2.2.1
  if r.2 = 0 then (r.1, [], [])
  else if r.2 ∈ spec then (r.1, [asP p []], [(2, false, [], [], preGood p r.2, preBad p.2.2.1, [(3, r.2, ())], [])])
  else (refS r.1 r.2, roomF spec most ++ [asP p (srvL r.2)], roomE spec most ++ [(2, false, [], [], preGood p r.2, preBad p.2.2.1, [(1, r.2, ())], [])])
set_option maxHeartbeats 2000000 in
set_option maxRecDepth 100000 in
theorem dup24 {h : Heap} : CallsH Tryz.prog 83 ⟨[]⟩ h fun u h' => u = St dupL ∧ h' = h := by
  refine calls [] Tryz.func83 rfl Tryz.ntmps83 rfl trivial ?_
  all_goals (refine WC.sr ?_; refine Go ?_; refine WC.sr ?_; refine Go ?_; refine Gt ?_; exact ⟨rfl, rfl⟩)
set_option maxHeartbeats 2000000 in
set_option maxRecDepth 100000 in
theorem none24 {h : Heap} : CallsH Tryz.prog 91 ⟨[]⟩ h fun u h' => u = St noneL ∧ h' = h := by
  refine calls [] Tryz.func91 rfl Tryz.ntmps91 rfl trivial ?_
  all_goals (refine WC.sr ?_; refine Go ?_; refine WC.sr ?_; refine Go ?_; refine Gt ?_; exact ⟨rfl, rfl⟩)
set_option maxHeartbeats 2000000 in
set_option maxRecDepth 100000 in
theorem touch24 {h : Heap} (id : Int) : CallsH Tryz.prog 86 ⟨[In id]⟩ h fun u h' => ∃ q, u = .slice (some ⟨q, 0, none⟩) 1 1 ∧ h'[q]? = some (.cells ⟨[In 3, In id]⟩ 129 (0, 0)) ∧ h.size ≤ q ∧ Ext No h h' := by
  refine calls [(0, _)] Tryz.func86 rfl Tryz.ntmps86 rfl ⟨rfl, trivial⟩ ?_
  all_goals (refine WC.sr ?_; refine Go ?_; refine WC.sr ?_; refine Go ?_; refine WL.step (ok_buildF (vs := [_, _]) (cs := [_, _]) (fun | [a0, a1] => [a0, a1] | _ => []) rfl rfl (by kernel_rfl)) rfl rfl rfl ?_; refine WL.stepR (okE_buildSlice (vs := [_]) (cs := [_, _]) (fun | [.agg ⟨[a0, a1]⟩] => [a0, a1] | _ => []) Tryz.underlying41 rfl rfl (by kernel_rfl)) rfl rfl rfl ?_; rintro _ h1 ⟨b1, rfl, hg1, hb1, hx1⟩; refine Go ?_; refine Gs [(2, _)] ?_; refine Gt ?_; exact ⟨_, rfl, hb1, hg1, hx1⟩)
set_option maxHeartbeats 2000000 in
set_option maxRecDepth 100000 in
theorem add24 {h : Heap} (id : Int) : CallsH Tryz.prog 88 ⟨[In id]⟩ h fun u h' => ∃ q, u = .slice (some ⟨q, 0, none⟩) 1 1 ∧ h'[q]? = some (.cells ⟨[In 1, In id]⟩ 129 (0, 0)) ∧ h.size ≤ q ∧ Ext No h h' := by
  refine calls [(0, _)] Tryz.func88 rfl Tryz.ntmps88 rfl ⟨rfl, trivial⟩ ?_
  all_goals (refine WC.sr ?_; refine Go ?_; refine WC.sr ?_; refine Go ?_; refine WL.step (ok_buildF (vs := [_, _]) (cs := [_, _]) (fun | [a0, a1] => [a0, a1] | _ => []) rfl rfl (by kernel_rfl)) rfl rfl rfl ?_; refine WL.stepR (okE_buildSlice (vs := [_]) (cs := [_, _]) (fun | [.agg ⟨[a0, a1]⟩] => [a0, a1] | _ => []) Tryz.underlying41 rfl rfl (by kernel_rfl)) rfl rfl rfl ?_; rintro _ h1 ⟨b1, rfl, hg1, hb1, hx1⟩; refine Go ?_; refine Gs [(2, _)] ?_; refine Gt ?_; exact ⟨_, rfl, hb1, hg1, hx1⟩)
/-- What a job stands on. -/
structure JH (h0 h : Heap) (B : Nat) (c : Int) (b m1 m2 : Nat) (s : RS) (f : Fm) (v : Value) (spec : List Int) : Prop where
  d : Cst h0 h B c b m1 m2 s
  x0 : Ext No h0 h
  f : Lst h0 h fun g => f.ok g
  sp : Lst h0 h fun g => Rd g v 1 spec.length (ints spec)
  sl : spec.length ≤ 40
  cc : 0 ≤ c ∧ c + 2 ≤ 1000000
section
variable {h0 h h1 : Heap} {B : Nat} {c : Int} {b m1 m2 : Nat} {s : RS} {f : Fm} {v : Value} {ss : Option Addr} {sn sc : Nat} {spec : List Int} {most jd : Int} {kn : Bool}
theorem Cst.off (d : Cst h0 h B c b m1 m2 s) {q : Nat} {cs : Array Value} {T : TypeId} (hb : h[q]? = some (.cells cs T (0, 0))) (hT : T ∉ regT) : ¬ CS h0 m1 m2 h q := fun e => e.2.elim (fun z => by
    obtain ⟨⟨es, ck, e1⟩, es2, ck2, e2⟩ := d.maps
    simp only [List.mem_cons, List.not_mem_nil, or_false] at z
    rcases z with rfl | rfl
    · rw [e1] at hb; cases hb
    · rw [e2] at hb; cases hb) (fun ty => hT (ty_one hb ty))
theorem JH.ext0 (k : JH h0 h B c b m1 m2 s f v spec) (x : Ext No h h1) : JH h0 h1 B c b m1 m2 s f v spec := ⟨k.d.ext0 x, k.x0.trans x, k.f.ext0 x, k.sp.ext0 x, k.sl, k.cc⟩
theorem Fm.ok.named (k : f.ok h) (n : List UInt8) : ({ f with name := n } : Fm).ok h := ⟨k.1, k.2, k.3, k.4⟩
set_option maxHeartbeats 2000000 in
set_option maxRecDepth 100000 in
theorem again24 (k : JH h0 h B c b m1 m2 s f (.slice ss sn sc) spec) (hk : f.kind = 80) : CallsH Tryz.prog 56 ⟨[.agg ⟨jC f b (.slice ss sn sc) most jd kn⟩]⟩ h fun u h' => Gives h0 h [asP f.pl dupL] [(zE 2 dupL f.name).pl] u h' ∧ Ext No h h' := by
  have hf := k.f
  have ka := fun h' nm => as24 (h := h') (b := b) (ss := ss) (sn := sn) (sc := sc) (most := most) (id := jd) (kn := kn) hf.now nm
  have ke := fun h' => entry24 (h := h') (b := b) (ss := ss) (sn := sn) (sc := sc) (most := most) (id := jd) (kn := kn) hf.now
  have kl := fun h' (x : Ext No h h') => alone24 (h0 := h0) (f := { f with name := dupL }) (e := zE 2 dupL f.name) (g := h) ((hf.ext0 x).mono fun _ z => z.named _) (lst_all (zE_ok _ _ _)) x.size
  obtain ⟨⟨e1, _⟩, ⟨e2, _⟩, ⟨e3, _⟩, e4, _⟩ := hf.now
  clear hf k
  obtain ⟨k, w, n, p, t, vo, o, vf, fs, vs, rs, vp, ps, mx⟩ := f
  dsimp only at e1 e2 e3 e4 hk
  subst hk
  obtain ⟨_, _, rfl, _⟩ := e1
  obtain ⟨_, _, rfl, _⟩ := e2
  obtain ⟨_, _, rfl, _⟩ := e3
  obtain ⟨_, _, rfl, _⟩ := e4
  dsimp only [jC, Fm.cells, List.cons_append, List.nil_append, ptE, zE, En.cells, entK] at ka ke kl ⊢
  refine calls [(0, _)] Tryz.func56 rfl Tryz.ntmps56 rfl ⟨rfl, trivial⟩ ?_
  all_goals (refine WC.sr ?_; refine WL.stepR (okE_box rfl) rfl rfl rfl ?_; rintro _ h1 ⟨b1, rfl, hg1, hb1, hx1⟩; refine Go ?_; refine WC.sr ?_; refine WL.step (ok_loadN (fun w => Tryz.isAgg74 w) (fun w => Tryz.sizeOf74 w) rfl rfl (by exact At.of_block hb1)) rfl rfl rfl ?_; refine WL.call (vs := [_]) rfl (fun a w => Tryz.call61 a w) rfl (ke _) rfl rfl rfl ?_; rintro _ h2 ⟨rfl, hx2⟩; refine WL.stepR (okE_alloc (fun w => Tryz.zeroValue44 w)) rfl rfl rfl ?_; rintro _ h3 ⟨b4, rfl, hg4, hb4, hx3⟩; refine WL.stepR0 (okE_storeW (fun w => Tryz.sizeOf44 w) rfl rfl rfl hb4 rfl (by simp [Value.oneCell'])) rfl rfl ?_; rintro _ h4 ⟨hb44, hx4⟩; have l1 := lt_of_some hb1; have hs2 := hx2.size; have hs1 := hx1.size; have hb14 := hx4.obj ((hx2.trans hx3).obj hb1 nos) (fun e => by omega); (have n14 : ¬ b1 = b4 := by omega); refine Gn ?_; refine Gs [(1, _), (4, _)] ?_; refine WC.seq ?_; refine WC.drawH (fun h' => Ext (fun q => q = b4) h4 h') 8 8 rfl fol ?_; refine WH.tk 1 rfl (fun hq hC => ok_fieldAddr rfl Tryz.underlying74 rfl (fun w => Tryz.sizeOf27 w)) rfl rfl rfl ?_; refine WH.tk 2 rfl (fun hq hC => ok_fieldAddr rfl Tryz.underlying27 rfl (fun w => Tryz.sizeOf9 w)) rfl rfl rfl ?_; refine WH.tk 3 rfl (fun hq hC => ok_load (fun w => Tryz.isAgg9 w) rfl (by first | exact hC.cell (by first | exact cell_blk hb14 rfl | assumption | exact cell_blk (by assumption) rfl) n14)) rfl rfl rfl ?_; refine WH.one 0 (by kernel_rfl) ?_; refine Comes1.call (vs := []) rfl rfl (fun a w => Tryz.call83 a w) rfl (dup24) rfl rfl rfl ?_ (fun _ => by kernel_rfl); rintro _ hz ⟨rfl, _⟩; subst hz; refine ⟨fun _ => .refl _ _, ?_⟩; refine WH.tk 4 rfl (fun hq hC => ok_fieldAddr rfl Tryz.underlying44 rfl (fun w => Tryz.sizeOf9 w)) rfl rfl rfl ?_; refine WH.one 5 (by kernel_rfl) ?_; refine Comes1.run0 rfl (okE_store (fun w => Tryz.sizeOf9 w) rfl rfl hb44 (Nat.le_of_ble_eq_true rfl) rfl rfl) rfl rfl ?_ (fun _ => by kernel_rfl); rintro _ h5 ⟨hb45, hx5⟩; refine ⟨fun _ => hx5, ?_⟩; refine WH.tk 6 rfl (fun hq hC => ok_fieldAddr rfl Tryz.underlying44 rfl (fun w => Tryz.sizeOf9 w)) rfl rfl rfl ?_; refine WH.one 7 (by kernel_rfl) ?_; refine Comes1.run0 rfl (okE_store (fun w => Tryz.sizeOf9 w) rfl rfl hb45 (Nat.le_of_ble_eq_true rfl) rfl rfl) rfl rfl ?_ (fun _ => by kernel_rfl); rintro _ h6 ⟨hb46, hx6⟩; refine ⟨fun _ => hx5.trans hx6, ?_⟩; have hx46 := hx5.trans hx6; have hb16 := hx46.obj hb14 n14; have hX6 : Ext No h h6 := (((hx1.trans hx2).trans hx3).trans' hx4 (fun q hq e => by omega)).trans' hx46 (fun q hq e => by omega); refine WH.done (by kernel_rfl) ?_; refine Gn ?_; refine Gs [(1, _), (4, _)] ?_; refine WC.seq ?_; refine WC.drawH (fun h' => Ext No h6 h') 7 9 rfl fol ?_; refine WH.tk 0 rfl (fun hq hC => ok_loadN (fun w => Tryz.isAgg74 w) (fun w => Tryz.sizeOf74 w) rfl rfl (by exact (At.of_block hb16).ext hC nos)) rfl rfl rfl ?_; refine WH.tk 3 rfl (fun hq hC => ok_loadN (fun w => Tryz.isAgg44 w) (fun w => Tryz.sizeOf44 w) rfl rfl (by exact (At.of_block hb46).ext hC nos)) rfl rfl rfl ?_; refine WH.one 1 (by kernel_rfl) ?_; refine Comes1.call (vs := []) rfl rfl (fun a w => Tryz.call83 a w) rfl (dup24) rfl rfl rfl ?_ (fun _ => by kernel_rfl); rintro _ hz ⟨rfl, _⟩; subst hz)
  all_goals (refine ⟨fun _ => .refl _ _, ?_⟩; refine WH.one 2 (by kernel_rfl) ?_; refine Comes1.call (vs := [_, _]) rfl rfl (fun a w => Tryz.call84 a w) rfl (ka _ dupL) rfl rfl rfl ?_ (fun _ => by kernel_rfl); rintro _ h7 ⟨rfl, hx7⟩; refine ⟨fun _ => hx7, ?_⟩; refine WH.one 4 (by kernel_rfl) ?_; refine Comes1.call (vs := [_, _]) rfl rfl (fun a w => Tryz.call62 a w) rfl (kl _ (hX6.trans hx7)) rfl rfl rfl ?_ (fun _ => by kernel_rfl); rintro _ h8 ⟨hgv, hx8⟩; obtain ⟨vF, vE, L, M, rfl, _⟩ := id hgv; refine ⟨fun _ => hx7.trans hx8, ?_⟩; have hX78 := hx7.trans hx8; refine WH.tk 5 rfl (fun hq hC => ok_extract rfl rfl) rfl rfl rfl ?_; refine WH.tk 6 rfl (fun hq hC => ok_extract rfl rfl) rfl rfl rfl ?_; refine WH.one 7 (by kernel_rfl) ?_; refine Comes1.run rfl (OkP.r (ok_assign rfl)) rfl rfl rfl ?_ (fun _ => by kernel_rfl); rintro _ hz ⟨rfl, _⟩; subst hz; refine ⟨fun e => (by cases e), ?_⟩; refine WH.one 8 (by kernel_rfl) ?_; refine Comes1.run rfl (OkP.r (ok_assign rfl)) rfl rfl rfl ?_ (fun _ => by kernel_rfl); rintro _ hz ⟨rfl, _⟩; subst hz; refine ⟨fun e => (by cases e), ?_⟩; refine WH.done (by kernel_rfl) ?_; refine Gn ?_; refine Gs [(2, _), (3, _)] ?_; refine Gt ?_; exact ⟨hgv, hX6.trans hX78⟩)
end
end Go.Proofs.YtggmocdbfbhklaaGreat


