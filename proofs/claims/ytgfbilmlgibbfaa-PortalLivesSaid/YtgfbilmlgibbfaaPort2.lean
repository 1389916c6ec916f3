/-
  PORTAL (layer 28): a set of portals: Put, Ran, Fetch; what the document compares.
-/
import Derived.Test.YtgfbilmlgibbfaaPort
namespace Go.Proofs.Ytgfbilmlgibbfaa
open Go Go.RK

set_option maxRecDepth 100000 in
theorem rows_func {h : Heap} {v u : Value} (L M : List Rw) (hl : Rws h v L) (hm : Rws h u M) :
    CallsH Try.prog 84 ⟨[v, u, .func (.func 23) #[] #[]]⟩ h fun u h' => u = .bool (decide (L.map Rw.pl = M.map Rw.pl)) ∧ h' = h := by
  obtain ⟨hr, ⟨hlm, A, c, rfl, _⟩, ho⟩ := hl
  obtain ⟨hs, ⟨hmm, B, d, rfl, _⟩, hp⟩ := hm
  unfold reachBytes at hlm hmm
  refine calls [(0, _), (1, _), (2, _)] Try.func84 rfl Try.ntmps84 rfl ⟨rfl, rfl, rfl, trivial⟩ ?_
  all_goals (refine WC.seq ?_)
  all_goals (refine WC.region ?_)
  all_goals (refine WL.step (ok_assign rfl) rfl rfl rfl ?_)
  all_goals (refine WL.nil ?_)
  all_goals (repeat' (with_reducible first | refine thenP_n ?_ | refine blockP_n ?_))
  all_goals (refine WC.seq ?_)
  all_goals (refine WC.seq ?_)
  all_goals (refine WC.region ?_)
  all_goals (refine WL.step (ok_move rfl) rfl rfl rfl ?_)
  all_goals (refine WL.step (ok_lenL rfl Try.underlying37 rfl) rfl rfl rfl ?_)
  all_goals (refine WL.step (ok_move rfl) rfl rfl rfl ?_)
  all_goals (refine WL.step (ok_lenL rfl Try.underlying37 rfl) rfl rfl rfl ?_)
  all_goals (first | (refine WL.step (OkP.nbool_t (by omega) (ok_neq rfl rfl)) rfl rfl rfl ?_) | (refine WL.step (OkP.nbool_f (by omega) (ok_neq rfl rfl)) rfl rfl rfl ?_) | (refine WL.step (ok_neq rfl rfl) rfl rfl rfl ?_))
  all_goals (refine WL.nil ?_)
  all_goals (repeat' (with_reducible first | refine thenP_n ?_ | refine blockP_n ?_))
  all_goals (refine WC.sub [(0, _), (1, _), (2, _), (14, _)] ⟨rfl, rfl, rfl, rfl, trivial⟩ ?_)
  all_goals (first | refine WC.condB_t 1 rfl ?_ | refine WC.condB_f 2 rfl ?_ | (refine WC.condB 1 2 rfl (fun hb => ?_) (fun hb => ?_) <;> (first | replace hb := of_decide_eq_true hb | replace hb := of_decide_eq_false hb | replace hb := of_decide_eq_false (nt hb) | replace hb := of_decide_eq_true (nf hb) | skip)))
  all_goals (first
    | (fail_if_success (refine Br.mk (i := 1) ?_))
    | (refine Br.mk (i := 1) ?_
       all_goals (refine WC.seq ?_)
       all_goals (refine WC.region ?_)
       all_goals (refine WL.step (ok_assign rfl) rfl rfl rfl ?_)
       all_goals (refine WL.nil ?_)
       all_goals (repeat' (with_reducible first | refine thenP_n ?_ | refine blockP_n ?_))
       all_goals (refine WC.sub [(6, _)] ⟨rfl, trivial⟩ ?_)
       all_goals (refine WC.ret ?_)
       all_goals (repeat' (with_reducible first | refine thenP_r ?_ | refine blockP_r ?_))
       all_goals (refine retP_1 _ ⟨rfl, trivial⟩ ?_)
       all_goals (first | exact ⟨by rw [decide_eq_false (fun e => by have := congrArg List.length e; simp at this; omega)], rfl⟩ | exact ⟨by rw [decide_eq_false (map_ne hc1 hc2 (by simp_all [Rw.pl]))], rfl⟩ | exact ⟨by rw [decide_eq_true (by rw [List.take_of_length_le (by omega), List.take_of_length_le (by omega)] at hn; exact hn)], rfl⟩)
       skip))
  all_goals (first
    | (fail_if_success (refine Br.mk (i := 2) ?_))
    | (refine Br.mk (i := 2) ?_
       all_goals (refine WC.skip ?_)
       skip))
  all_goals (repeat' (with_reducible first | refine thenP_n ?_ | refine blockP_n ?_))
  all_goals (refine WC.seq ?_)
  all_goals (refine WC.seq ?_)
  all_goals (refine WC.region ?_)
  all_goals (refine WL.step (ok_move rfl) rfl rfl rfl ?_)
  all_goals (refine WL.step (ok_lenL rfl Try.underlying37 rfl) rfl rfl rfl ?_)
  all_goals (refine WL.step (ok_move rfl) rfl rfl rfl ?_)
  all_goals (refine WL.nil ?_)
  all_goals (repeat' (with_reducible first | refine thenP_n ?_ | refine blockP_n ?_))
  all_goals (refine WC.block ?_)
  -- loop 0: slots that turn [17], that stay [1, 2, 15, 16]
  all_goals (refine WC.loopG (X := Nat) (fun x => ([(17, In (x : Int))] : Fr)) [(1, _), (2, _), (15, _), (16, _)] (fun k h' => h' = h ∧ k ≤ L.length ∧ (L.take k).map Rw.pl = (M.take k).map Rw.pl) (fun k => L.length - k) (0) ⟨rfl, rfl, rfl, rfl, rfl, trivial⟩ (by exact ⟨rfl, Nat.zero_le _, by simp⟩) ?_)
  all_goals (rintro k h9 ⟨hz, hk, hn⟩
             subst h9)
  all_goals (refine WC.sub [(17, _), (1, _), (2, _), (15, _), (16, _)] ⟨rfl, rfl, rfl, rfl, rfl, trivial⟩ ?_)
  all_goals (refine WC.seq ?_)
  all_goals (refine WC.region ?_)
  all_goals (first | (refine WL.step (OkP.bool_t (by omega) (ok_lss rfl rfl)) rfl rfl rfl ?_) | (refine WL.step (OkP.bool_f (by omega) (ok_lss rfl rfl)) rfl rfl rfl ?_) | (refine WL.step (ok_lss rfl rfl) rfl rfl rfl ?_))
  all_goals (refine WL.nil ?_)
  all_goals (repeat' (with_reducible first | refine thenP_n ?_ | refine blockP_n ?_))
  all_goals (refine WC.seq ?_)
  all_goals (first | refine WC.condB_t 3 rfl ?_ | refine WC.condB_f 4 rfl ?_ | (refine WC.condB 3 4 rfl (fun hb => ?_) (fun hb => ?_) <;> (first | replace hb := of_decide_eq_true hb | replace hb := of_decide_eq_false hb | replace hb := of_decide_eq_false (nt hb) | replace hb := of_decide_eq_true (nf hb) | skip)))
  all_goals (first
    | (fail_if_success (refine Br.mk (i := 3) ?_))
    | (refine Br.mk (i := 3) ?_
       all_goals (refine WC.skip ?_)
       skip))
  all_goals (first
    | (fail_if_success (refine Br.mk (i := 4) ?_))
    | (refine Br.mk (i := 4) ?_
       all_goals (refine WC.exit ?_)
       all_goals (repeat' (with_reducible first | refine thenP_x ?_ | refine blockP_miss rfl ?_ | refine blockP_hit ?_ | refine blockP_n ?_ | refine thenP_n ?_))
       all_goals (refine Br.out (i := 1000) ?_)
       skip))
  all_goals (first | (refine Br.keep ?_) | (repeat' (with_reducible first | refine thenP_n ?_ | refine blockP_n ?_)))
  all_goals (first | (refine Br.keep ?_) | (refine WC.seq ?_))
  all_goals (first | (refine Br.keep ?_) | (refine WC.block ?_))
  all_goals (first | (refine Br.keep ?_) | (refine WC.seq ?_))
  all_goals (first
               | (refine Br.keep ?_)
               | (obtain ⟨b, o, hA, hbL, hat⟩ := Rd.at_ hr (by omega)
                  obtain ⟨b2, o2, hB, hb2, hat2⟩ := Rd.at_ hs (by omega)
                  obtain ⟨⟨w1, l1⟩, hc1⟩ : ∃ y, L[k]? = some y := ⟨_, List.getElem?_eq_getElem (by omega)⟩
                  obtain ⟨⟨w2, l2⟩, hc2⟩ : ∃ y, M[k]? = some y := ⟨_, List.getElem?_eq_getElem (by omega)⟩
                  have at1 := hat.get (p := o + k * 1) (v := w1) k (by rw [List.getElem?_map, hc1]; exact rfl) (by omega)
                  have at2 := hat2.get (p := o2 + k * 1) (v := w2) k (by rw [List.getElem?_map, hc2]; exact rfl) (by omega)))
  all_goals (first | (refine Br.keep ?_) | (refine WC.region ?_))
  all_goals (first | (refine Br.keep ?_) | (refine WL.step (ok_move rfl) rfl rfl rfl ?_))
  all_goals (first | (refine Br.keep ?_) | (refine WL.step (ok_idxAddrA Try.underlying37 (fun w => Try.sizeOf36 w) rfl rfl rfl (by omega) (by first | rfl | assumption)) rfl rfl rfl ?_))
  all_goals (first | (refine Br.keep ?_) | (refine WL.step (ok_load (fun w => Try.isAgg36 w) rfl (by first | exact at1 | assumption | exact cell_blk (by assumption) rfl)) rfl rfl rfl ?_))
  all_goals (first | (refine Br.keep ?_) | (refine WL.step (ok_assign rfl) rfl rfl rfl ?_))
  all_goals (first | (refine Br.keep ?_) | (refine WL.step (ok_assign rfl) rfl rfl rfl ?_))
  all_goals (first | (refine Br.keep ?_) | (refine WL.nil ?_))
  all_goals (first | (refine Br.keep ?_) | (repeat' (with_reducible first | refine thenP_n ?_ | refine blockP_n ?_)))
  all_goals (first | (refine Br.keep ?_) | (refine WC.sub [(1, _), (2, _), (7, _), (8, _), (15, _), (16, _), (17, _)] ⟨rfl, rfl, rfl, rfl, rfl, rfl, rfl, trivial⟩ ?_))
  all_goals (first | (refine Br.keep ?_) | (refine WC.seq ?_))
  all_goals (first | (refine Br.keep ?_) | (refine WC.region ?_))
  all_goals (first | (refine Br.keep ?_) | (refine WL.step (ok_move rfl) rfl rfl rfl ?_))
  all_goals (first | (refine Br.keep ?_) | (refine WL.step (ok_move rfl) rfl rfl rfl ?_))
  all_goals (first | (refine Br.keep ?_) | (refine WL.step (ok_idxAddrA Try.underlying37 (fun w => Try.sizeOf36 w) rfl rfl rfl (by omega) (by first | rfl | assumption)) rfl rfl rfl ?_))
  all_goals (first | (refine Br.keep ?_) | (refine WL.step (ok_load (fun w => Try.isAgg36 w) rfl (by first | exact at2 | assumption | exact cell_blk (by assumption) rfl)) rfl rfl rfl ?_))
  all_goals (first | (refine Br.keep ?_) | (refine WL.step (ok_assign rfl) rfl rfl rfl ?_))
  all_goals (first | (refine Br.keep ?_) | (refine WL.nil ?_))
  all_goals (first | (refine Br.keep ?_) | (repeat' (with_reducible first | refine thenP_n ?_ | refine blockP_n ?_)))
  all_goals (first | (refine Br.keep ?_) | (refine WC.sub [(1, _), (2, _), (8, _), (9, _), (15, _), (16, _), (17, _)] ⟨rfl, rfl, rfl, rfl, rfl, rfl, rfl, trivial⟩ ?_))
  all_goals (first | (refine Br.keep ?_) | (refine WC.seq ?_))
  all_goals (first | (refine Br.keep ?_) | (refine WC.region ?_))
  all_goals (first | (refine Br.keep ?_) | (refine WL.step (ok_move rfl) rfl rfl rfl ?_))
  all_goals (first | (refine Br.keep ?_) | (refine WL.step (ok_move rfl) rfl rfl rfl ?_))
  all_goals (first | (refine Br.keep ?_) | (refine WL.step (ok_move rfl) rfl rfl rfl ?_))
  all_goals (first
               | (refine Br.keep ?_)
               | (refine WL.callT (vs := [_, _]) rfl rfl (fun a w => Try.call23 a w) rfl (cells_ref l1 l2 (ho _ (List.mem_of_getElem? hc1)) (hp _ (List.mem_of_getElem? hc2))) rfl rfl rfl ?_
                  rintro _ hz ⟨rfl, _⟩
                  subst hz))
  all_goals (first | (refine Br.keep ?_) | (refine WL.step (ok_not rfl) rfl rfl rfl ?_))
  all_goals (first | (refine Br.keep ?_) | (refine WL.nil ?_))
  all_goals (first | (refine Br.keep ?_) | (repeat' (with_reducible first | refine thenP_n ?_ | refine blockP_n ?_)))
  all_goals (first | (refine Br.keep ?_) | (refine WC.sub [(1, _), (2, _), (15, _), (16, _), (17, _), (30, _)] ⟨rfl, rfl, rfl, rfl, rfl, rfl, trivial⟩ ?_))
  all_goals (first | (refine Br.keep ?_) | (first | refine WC.condB_t 5 rfl ?_ | refine WC.condB_f 6 rfl ?_ | (refine WC.condB 5 6 rfl (fun hb => ?_) (fun hb => ?_) <;> (first | replace hb := of_decide_eq_true hb | replace hb := of_decide_eq_false hb | replace hb := of_decide_eq_false (nt hb) | replace hb := of_decide_eq_true (nf hb) | skip))))
  all_goals (first
    | (fail_if_success (refine Br.mk (i := 5) ?_))
    | (refine Br.mk (i := 5) ?_
       all_goals (refine WC.seq ?_)
       all_goals (refine WC.region ?_)
       all_goals (refine WL.step (ok_assign rfl) rfl rfl rfl ?_)
       all_goals (refine WL.nil ?_)
       all_goals (repeat' (with_reducible first | refine thenP_n ?_ | refine blockP_n ?_))
       all_goals (refine WC.sub [(6, _)] ⟨rfl, trivial⟩ ?_)
       all_goals (refine WC.ret ?_)
       all_goals (repeat' (with_reducible first | refine thenP_r ?_ | refine blockP_r ?_))
       all_goals (refine retP_1 _ ⟨rfl, trivial⟩ ?_)
       all_goals (first | exact ⟨by rw [decide_eq_false (fun e => by have := congrArg List.length e; simp at this; omega)], rfl⟩ | exact ⟨by rw [decide_eq_false (map_ne hc1 hc2 (by simp_all [Rw.pl]))], rfl⟩ | exact ⟨by rw [decide_eq_true (by rw [List.take_of_length_le (by omega), List.take_of_length_le (by omega)] at hn; exact hn)], rfl⟩)
       skip))
  all_goals (first
    | (fail_if_success (refine Br.mk (i := 6) ?_))
    | (refine Br.mk (i := 6) ?_
       all_goals (refine WC.skip ?_)
       skip))
  all_goals (first | (refine Br.keep ?_) | (repeat' (with_reducible first | refine thenP_n ?_ | refine blockP_n ?_)))
  all_goals (first | (refine Br.keep ?_) | (refine WC.region ?_))
  all_goals (first | (refine Br.keep ?_) | (first | (refine WL.step (ok_addI rfl rfl (by omega)) rfl rfl rfl ?_) | (refine WL.step (ok_add rfl rfl) rfl rfl rfl ?_)))
  all_goals (first | (refine Br.keep ?_) | (refine WL.step (ok_move rfl) rfl rfl rfl ?_))
  all_goals (first | (refine Br.keep ?_) | (refine WL.nil ?_))
  all_goals (first | (refine Br.keep ?_) | (repeat' (with_reducible first | refine thenP_n ?_ | refine blockP_n ?_)))
  all_goals (first | (refine Br.keep ?_) | (exact ⟨k + 1, ⟨rfl, rfl, rfl, rfl, rfl, trivial⟩, (by exact ⟨rfl, by omega, map_take hn hc1 hc2 (by simp_all [Rw.pl])⟩), (by omega)⟩))
  all_goals (try (refine Br.mk (i := 1000) ?_))
  all_goals (repeat' (with_reducible first | refine thenP_n ?_ | refine blockP_n ?_))
  all_goals (refine WC.sub [] trivial ?_)
  all_goals (refine WC.seq ?_)
  all_goals (refine WC.region ?_)
  all_goals (refine WL.step (ok_assign rfl) rfl rfl rfl ?_)
  all_goals (refine WL.nil ?_)
  all_goals (repeat' (with_reducible first | refine thenP_n ?_ | refine blockP_n ?_))
  all_goals (refine WC.ret ?_)
  all_goals (repeat' (with_reducible first | refine thenP_r ?_ | refine blockP_r ?_))
  all_goals (refine retP_1 _ ⟨rfl, trivial⟩ ?_)
  all_goals (first | exact ⟨by rw [decide_eq_false (fun e => by have := congrArg List.length e; simp at this; omega)], rfl⟩ | exact ⟨by rw [decide_eq_false (map_ne hc1 hc2 (by simp_all [Rw.pl]))], rfl⟩ | exact ⟨by rw [decide_eq_true (by rw [List.take_of_length_le (by omega), List.take_of_length_le (by omega)] at hn; exact hn)], rfl⟩)
set_option maxRecDepth 100000 in
theorem rows_ref28 {h : Heap} {v u : Value} (L M : List Rw) (hl : Rws h v L) (hm : Rws h u M) :
    CallsH Try.prog 36 ⟨[v, u]⟩ h fun u h' => u = .bool (decide (L.map Rw.pl = M.map Rw.pl)) ∧ h' = h := by
  refine calls [(0, _), (1, _)] Try.func36 rfl Try.ntmps36 rfl ⟨rfl, rfl, trivial⟩ ?_
  all_goals (refine WC.seq ?_)
  all_goals (refine WC.region ?_)
  all_goals (refine WL.step (ok_assign rfl) rfl rfl rfl ?_)
  all_goals (refine WL.nil ?_)
  all_goals (repeat' (with_reducible first | refine thenP_n ?_ | refine blockP_n ?_))
  all_goals (refine WC.seq ?_)
  all_goals (refine WC.region ?_)
  all_goals (refine WL.step (ok_move rfl) rfl rfl rfl ?_)
  all_goals (refine WL.step (ok_move rfl) rfl rfl rfl ?_)
  all_goals (refine WL.call (vs := [_, _, _]) rfl (fun a w => Try.call84 a w) rfl (rows_func L M hl hm) rfl rfl rfl ?_
             rintro _ hz ⟨rfl, _⟩
             subst hz)
  all_goals (refine WL.step (ok_assign rfl) rfl rfl rfl ?_)
  all_goals (refine WL.nil ?_)
  all_goals (repeat' (with_reducible first | refine thenP_n ?_ | refine blockP_n ?_))
  all_goals (refine WC.sub [(4, _)] ⟨rfl, trivial⟩ ?_)
  all_goals (refine WC.ret ?_)
  all_goals (repeat' (with_reducible first | refine thenP_r ?_ | refine blockP_r ?_))
  all_goals (refine retP_1 _ ⟨rfl, trivial⟩ ?_)
  all_goals (exact ⟨rfl, rfl⟩)

/-- A portal's data. -/
structure PD where
  text : List UInt8
  vo : Value
  oids : List Int
  vp : Value
  ps : List Cel
  vr : Value
  rs : List Rw
  ran : Bool
  over : Bool
def PD.cells (p : PD) : List Value := [St p.text, p.vo, p.vp, p.vr, .bool p.ran, .bool p.over]
structure PD.ok (h : Heap) (p : PD) : Prop where
  oids : Rd h p.vo 1 p.oids.length (ints p.oids)
  lo : p.oids.length * 8 ≤ reachBytes
  ps : Cels h p.vp p.ps
  rs : Rws h p.vr p.rs
def PD.F (p : PD) (b : Nat) : Prop := (0 < p.oids.length ∧ p.vo.ownBlock = some b) ∨ CelsF p.vp p.ps b ∨ RwsF p.vr p.rs b
def PD.pl (p : PD) := (p.text, p.oids, p.ps.map Cel.pl, p.rs.map Rw.pl, p.ran, p.over)
theorem PD.ok.ext {h h' : Heap} {S : Nat → Prop} {p : PD} (k : p.ok h) (a : Ext S h h') (hS : ∀ b, p.F b → ¬ S b) : p.ok h' :=
  ⟨k.oids.ext' a fun b h1 h2 => hS b (.inl ⟨h1, h2⟩), k.lo, k.ps.ext a fun b hb => hS b (.inr (.inl hb)), k.rs.ext a fun b hb => hS b (.inr (.inr hb))⟩
theorem PD.ok.lt {h : Heap} {p : PD} {b : Nat} (k : p.ok h) (hb : p.F b) : b < h.size := by
  rcases hb with ⟨h1, h2⟩ | hb | hb
  · exact k.oids.lt h1 h2
  · exact k.ps.lt hb
  · exact k.rs.lt hb
theorem own_end {h h1 h2 h3 h4 h5 h6 h7 h8 h9 : Heap} {b1 b2 c3 : Nat} {A3 : Option Addr} {text : List UInt8} {oids : List Int} {ps l5 : List Cel} {rs L6 : List Rw} {v5 v6 : Value} {ran over : Bool} {T0 : TypeId}
    (_hb9 : h9[b2]? = some (.cells ⟨[St text, .slice A3 oids.length c3, v5, v6, .bool ran, .bool over]⟩ T0 (0, 0)))
    (hx3 : Ext No h2 h3) (hx4 : Ext (fun k => k = b1) h3 h4) (hx5 : Ext No h4 h5) (hx6 : Ext No h5 h6) (hx7 : Ext (fun k => k = b1) h6 h7) (hx8 : Ext (fun k => k = b1) h7 h8) (hx9 : Ext (fun k => k = b2) h8 h9) (E4 : Ext No h h4)
    (ho3 : Own h3 (.slice A3 oids.length c3) 3 1 oids.length (ints oids)) (hf3 : ∀ k, (Value.slice A3 oids.length c3).ownBlock = some k → h2.size ≤ k) (hlo : oids.length * 8 ≤ reachBytes)
    (hc5 : Cels h5 v5 l5) (hp5 : l5.map Cel.pl = ps.map Cel.pl) (hf5 : ∀ b, CelsF v5 l5 b → h4.size ≤ b) (hc6 : Rws h6 v6 L6) (hp6 : L6.map Rw.pl = rs.map Rw.pl) (hf6 : ∀ b, RwsF v6 L6 b → h5.size ≤ b)
    (hlt1 : b1 < h1.size) (hlt2 : b2 < h2.size) (hg1 : h.size ≤ b1) (hg2 : h1.size ≤ b2) (h12 : h1.size ≤ h2.size) :
    ∃ p' : PD, Value.agg ⟨[St text, .slice A3 oids.length c3, v5, v6, .bool ran, .bool over]⟩ = .agg ⟨p'.cells⟩ ∧ p'.ok h9 ∧ p'.pl = (text, oids, ps.map Cel.pl, rs.map Rw.pl, ran, over) ∧ Ext No h h9 ∧ ∀ b, p'.F b → h.size ≤ b := by
  have s3 := hx3.size
  have s4 := hx4.size
  have s5 := hx5.size
  have X69 : Ext (fun b => b = b1 ∨ b = b2) h6 h9 := ((hx7.mono fun _ _ e => .inl e).trans (hx8.mono fun _ _ e => .inl e)).trans (hx9.mono fun _ _ e => .inr e)
  have X59 : Ext (fun b => b = b1 ∨ b = b2) h5 h9 := (hx6.mono fun _ _ e => e.elim).trans X69
  have X39 : Ext (fun b => b = b1 ∨ b = b2) h3 h9 := ((hx4.mono fun _ _ e => .inl e).trans (hx5.mono fun _ _ e => e.elim)).trans X59
  have X49 : Ext (fun b => b = b1 ∨ b = b2) h4 h9 := (hx5.mono fun _ _ e => e.elim).trans X59
  refine ⟨⟨text, .slice A3 oids.length c3, oids, v5, l5, v6, L6, ran, over⟩, rfl, ⟨?_, hlo, ?_, ?_⟩, by simp [PD.pl, hp5, hp6], E4.trans' X49 fun b hb e => by omega, ?_⟩
  · exact ho3.rd.ext' X39 fun b _ e eb => by have := hf3 b e; omega
  · exact hc5.ext X59 fun b e eb => by have := hf5 b e; omega
  · exact hc6.ext X69 fun b e eb => by have := hf6 b e; omega
  · rintro b (⟨_, e⟩ | e | e)
    · have := hf3 b e; omega
    · have := hf5 b e; omega
    · have := hf6 b e; omega
set_option maxRecDepth 100000 in
theorem own_port {h : Heap} (p : PD) (hp : p.ok h) :
    CallsH Try.prog 81 ⟨[.agg ⟨p.cells⟩]⟩ h fun u h' => ∃ p' : PD, u = .agg ⟨p'.cells⟩ ∧ p'.ok h' ∧ p'.pl = p.pl ∧ Ext No h h' ∧ ∀ b, p'.F b → h.size ≤ b := by
  obtain ⟨text, vo, oids, vp, ps, vr, rs, ran, over⟩ := p
  obtain ⟨ho, hlo, hps, hrs⟩ := hp
  simp only at ho hlo hps hrs
  obtain ⟨Ao, co, rfl, _⟩ := id ho
  obtain ⟨_, ⟨_, Ap, cp, rfl, _⟩, _⟩ := id hps
  obtain ⟨_, ⟨_, Ar, cr, rfl, _⟩, _⟩ := id hrs
  dsimp only [PD.cells]
  refine calls [(0, _)] Try.func81 rfl Try.ntmps81 rfl ⟨rfl, trivial⟩ ?_
  all_goals (refine WC.seq ?_)
  all_goals (refine WC.region ?_)
  all_goals (refine WL.stepR (okE_box rfl) rfl rfl rfl ?_
             rintro _ h1 ⟨b1, rfl, hg1, hb1, hx1⟩)
  all_goals (refine WL.stepR (okE_alloc (fun w => Try.zeroValue58 w)) rfl rfl rfl ?_
             rintro _ h2 ⟨b2, rfl, hg2, hb2, hx2⟩)
  all_goals (have hb1' := hx2.obj hb1 nos
             have hlt1 := lt_of_some hb1
             have hx12 := hx1.trans hx2)
  all_goals (refine WL.nil ?_)
  all_goals (repeat' (with_reducible first | refine thenP_n ?_ | refine blockP_n ?_))
  all_goals (refine WC.seq ?_)
  all_goals (refine WC.region ?_)
  all_goals (refine WL.step (ok_fieldAddr rfl Try.underlying58 rfl (fun w => Try.sizeOf56 w)) rfl rfl rfl ?_)
  all_goals (refine WL.step (ok_fieldAddr rfl Try.underlying56 rfl (fun w => Try.sizeOf42 w)) rfl rfl rfl ?_)
  all_goals (refine WL.step (ok_load (fun w => Try.isAgg42 w) rfl (by first | assumption | exact cell_blk (by assumption) rfl)) rfl rfl rfl ?_)
  all_goals (refine WL.call (vs := [_]) rfl (fun a w => Try.call87 a w) rfl (clone_ints oids (ho.ext0 hx12) hlo) rfl rfl rfl ?_
             rintro v3 h3 ⟨ho3, hx3, hf3⟩)
  all_goals (obtain ⟨A3, c3, rfl, _⟩ := ho3.slice
             have hb13 := hx3.obj hb1' nos)
  all_goals (refine WL.step (ok_fieldAddr rfl Try.underlying58 rfl (fun w => Try.sizeOf56 w)) rfl rfl rfl ?_)
  all_goals (refine WL.step (ok_fieldAddr rfl Try.underlying56 rfl (fun w => Try.sizeOf42 w)) rfl rfl rfl ?_)
  all_goals (refine WL.stepR0 (okE_store (fun w => Try.sizeOf42 w) rfl rfl hb13 (Nat.le_of_ble_eq_true rfl) rfl rfl) rfl rfl ?_
             rintro _ h4 ⟨hb14, hx4⟩)
  all_goals (have hb14 : h4[b1]? = some (.cells ⟨[St text, .slice A3 oids.length c3, .slice Ap ps.length cp, .slice Ar rs.length cr, .bool ran, .bool over]⟩ 58 (0, 0)) := hb14
             have E4 : Ext No h h4 := (hx12.trans hx3).trans' hx4 (fun b hb e => by omega))
  all_goals (refine WL.nil ?_)
  all_goals (repeat' (with_reducible first | refine thenP_n ?_ | refine blockP_n ?_))
  all_goals (refine WC.sub [(1, _), (2, _)] ⟨rfl, rfl, trivial⟩ ?_)
  all_goals (refine WC.seq ?_)
  all_goals (refine WC.drawH (fun h' => h'[b1]? = some (.cells ⟨[St text, .slice A3 oids.length c3, .slice Ap ps.length cp, .slice Ar rs.length cr, .bool ran, .bool over]⟩ 58 (0, 0))) 7 10 rfl fol ?_)
  all_goals (refine WH.take 0 rfl (by kernel_rfl) (by kernel_rfl) (by kernel_rfl) (by kernel_rfl) rfl (by first | exact Ext.refl _ _ | assumption) (fun hq hC => ok_fieldAddr rfl Try.underlying58 rfl (fun w => Try.sizeOf36 w)) rfl rfl rfl ?_)
  all_goals (refine WH.take 1 rfl (by kernel_rfl) (by kernel_rfl) (by kernel_rfl) (by kernel_rfl) rfl (by first | exact Ext.refl _ _ | assumption) (fun hq hC => ok_load (fun w => Try.isAgg36 w) rfl (cell_blk hC rfl)) rfl rfl rfl ?_)
  all_goals (refine WH.take 3 rfl (by kernel_rfl) (by kernel_rfl) (by kernel_rfl) (by kernel_rfl) rfl (by first | exact Ext.refl _ _ | assumption) (fun hq hC => ok_fieldAddr rfl Try.underlying58 rfl (fun w => Try.sizeOf37 w)) rfl rfl rfl ?_)
  all_goals (refine WH.take 4 rfl (by kernel_rfl) (by kernel_rfl) (by kernel_rfl) (by kernel_rfl) rfl (by first | exact Ext.refl _ _ | assumption) (fun hq hC => ok_load (fun w => Try.isAgg37 w) rfl (cell_blk hC rfl)) rfl rfl rfl ?_)
  all_goals (refine WH.one 2 (by kernel_rfl) ?_)
  all_goals (refine Comes1.call (vs := [_]) rfl rfl (fun a w => Try.call112 a w) rfl (row_port ps (hps.ext0 E4)) rfl rfl rfl ?_ (fun _ => by kernel_rfl)
             rintro v5 h5 ⟨l5, hc5, hp5, hx5, hf5⟩)
  all_goals (refine ⟨fun _ => hx5.obj hb14 nos, ?_⟩)
  all_goals (have hb15 := hx5.obj hb14 nos
             obtain ⟨A5, c5, rfl⟩ : ∃ A c, v5 = .slice A l5.length c := (by obtain ⟨_, ⟨_, A, c, e, _⟩, _⟩ := hc5; exact ⟨A, c, e⟩))
  all_goals (refine WH.take 6 rfl (by kernel_rfl) (by kernel_rfl) (by kernel_rfl) (by kernel_rfl) rfl (by first | exact Ext.refl _ _ | assumption) (fun hq hC => ok_fieldAddr rfl Try.underlying58 rfl (fun w => Try.sizeOf36 w)) rfl rfl rfl ?_)
  all_goals (refine WH.one 5 (by kernel_rfl) ?_)
  all_goals (refine Comes1.call (vs := [_]) rfl rfl (fun a w => Try.call83 a w) rfl (table_port rs (hrs.ext0 (E4.trans hx5))) rfl rfl rfl ?_ (fun _ => by kernel_rfl)
             rintro v6 h6 ⟨L6, hc6, hp6, hx6, hf6⟩)
  all_goals (refine ⟨fun _ => hx6.obj hb15 nos, ?_⟩)
  all_goals (have hb16 := hx6.obj hb15 nos
             obtain ⟨A6, c6, rfl⟩ : ∃ A c, v6 = .slice A L6.length c := (by obtain ⟨_, ⟨_, A, c, e, _⟩, _⟩ := hc6; exact ⟨A, c, e⟩))
  all_goals (refine WH.one 7 (by kernel_rfl) ?_)
  all_goals (refine Comes1.run0 rfl (okE_store (fun w => Try.sizeOf36 w) rfl rfl hb16 (Nat.le_of_ble_eq_true rfl) rfl rfl) rfl rfl ?_ (fun _ => by kernel_rfl)
             rintro _ h7 ⟨hb17, hx7⟩)
  all_goals (refine ⟨fun e => (by cases e), ?_⟩)
  all_goals (refine WH.one 8 (by kernel_rfl) ?_)
  all_goals (refine Comes1.run rfl (OkP.r (ok_fieldAddr rfl Try.underlying58 rfl (fun w => Try.sizeOf37 w))) rfl rfl rfl ?_ (fun _ => by kernel_rfl)
             rintro _ hz ⟨rfl, _⟩
             subst hz)
  all_goals (refine ⟨fun e => (by cases e), ?_⟩)
  all_goals (refine WH.one 9 (by kernel_rfl) ?_)
  all_goals (refine Comes1.run0 rfl (okE_store (fun w => Try.sizeOf37 w) rfl rfl hb17 (Nat.le_of_ble_eq_true rfl) rfl rfl) rfl rfl ?_ (fun _ => by kernel_rfl)
             rintro _ h8 ⟨hb18, hx8⟩)
  all_goals (refine ⟨fun e => (by cases e), ?_⟩)
  all_goals (have hlt2 := lt_of_some hb2
             have hn12 : b2 ≠ b1 := by omega
             have hb28 := hx8.obj (hx7.obj (hx6.obj (hx5.obj (hx4.obj (hx3.obj hb2 nos) hn12) nos) nos) hn12) hn12)
  all_goals (refine WH.done (by kernel_rfl) ?_)
  all_goals (repeat' (with_reducible first | refine thenP_n ?_ | refine blockP_n ?_))
  all_goals (refine WC.sub [(1, _), (2, _)] ⟨rfl, rfl, trivial⟩ ?_)
  all_goals (refine WC.seq ?_)
  all_goals (refine WC.region ?_)
  all_goals (refine WL.step (ok_loadN (fun w => Try.isAgg58 w) (fun w => Try.sizeOf58 w) rfl rfl (by exact At.of_block hb18)) rfl rfl rfl ?_)
  all_goals (refine WL.stepR0 (okE_storeW (fun w => Try.sizeOf58 w) rfl rfl rfl hb28 rfl (by simp [Value.oneCell'])) rfl rfl ?_
             rintro _ h9 ⟨hb9, hx9⟩)
  all_goals (refine WL.nil ?_)
  all_goals (repeat' (with_reducible first | refine thenP_n ?_ | refine blockP_n ?_))
  all_goals (refine WC.ret ?_)
  all_goals (repeat' (with_reducible first | refine thenP_r ?_ | refine blockP_r ?_))
  all_goals (refine retP_1 _ ⟨⟨_, rfl, ld_blk (fun w => Try.isAgg58 w) (fun w => Try.sizeOf58 w) (by assumption) rfl⟩, trivial⟩ ?_)
  all_goals (exact own_end (text := text) (ran := ran) (over := over) hb9 hx3 hx4 hx5 hx6 hx7 hx8 hx9 E4 ho3 hf3 hlo hc5 hp5 hf5 hc6 hp6 hf6 hlt1 hlt2 hg1 hg2 hx2.size)
end Go.Proofs.Ytgfbilmlgibbfaa

