/-
  api.Cell, rows of them, and the document's compare of them.
-/
import Derived.Test.YtkpgnhhidnkmcaaGreatDoorBase
import Derived.Test.YtkpgnhhidnkmcaaGreatDoorK12
namespace Go.Proofs.YtkpgnhhidnkmcaaGreatDoor
open Go Go.RK

/-- A cell: null, its bytes as they lie, its bytes. -/
structure Cel where
  null : Bool
  v : Value
  bytes : List UInt8
def Cel.cells (c : Cel) : List Value := [.bool c.null, c.v]
theorem Cel.len (c : Cel) : c.cells.length = 2 := rfl
/-- What a cell tells. -/
def Cel.pl (c : Cel) : Bool × List UInt8 := (c.null, c.bytes)
def Cel.ok (h : Heap) (c : Cel) : Prop := Rd h c.v 1 c.bytes.length (bys c.bytes) ∧ c.bytes.length ≤ reachBytes
def Cels (h : Heap) (v : Value) (l : List Cel) : Prop := Rd h v 2 l.length (l.flatMap Cel.cells) ∧ (l.length * 32 ≤ reachBytes ∧ ∃ A c, v = .slice A l.length c ∧ c ≤ maxLen) ∧ ∀ c ∈ l, c.ok h
theorem Cel.ok.ext0 {h h' : Heap} {c : Cel} (k : c.ok h) (a : Ext No h h') : c.ok h' := ⟨k.1.ext0 a, k.2⟩
theorem Cels.ext0 {h h' : Heap} {v : Value} {l : List Cel} (k : Cels h v l) (a : Ext No h h') : Cels h' v l := ⟨k.1.ext0 a, k.2.1, fun c hc => (k.2.2 c hc).ext0 a⟩
/-- The blocks that it lies in. -/
def CelsF (v : Value) (l : List Cel) (b : Nat) : Prop := (0 < l.length ∧ v.ownBlock = some b) ∨ ∃ c ∈ l, 0 < c.bytes.length ∧ c.v.ownBlock = some b
theorem Cels.lt {h : Heap} {v : Value} {l : List Cel} {b : Nat} (k : Cels h v l) (hb : CelsF v l b) : b < h.size := by
  rcases hb with ⟨h1, h2⟩ | ⟨c, hc, h1, h2⟩
  · exact k.1.lt h1 h2
  · exact (k.2.2 c hc).1.lt h1 h2
theorem Cels.ext {h h' : Heap} {S : Nat → Prop} {v : Value} {l : List Cel} (k : Cels h v l) (a : Ext S h h') (hS : ∀ b, CelsF v l b → ¬ S b) : Cels h' v l :=
  ⟨k.1.ext' a fun b h1 h2 => hS b (.inl ⟨h1, h2⟩), k.2.1, fun c hc => ⟨(k.2.2 c hc).1.ext' a fun b h1 h2 => hS b (.inr ⟨c, hc, h1, h2⟩), (k.2.2 c hc).2⟩⟩

/-- A row of a list: its slice, its cells. -/
structure Rw where
  v : Value
  l : List Cel
def Rw.pl (r : Rw) : List (Bool × List UInt8) := r.l.map Cel.pl
def Rws (h : Heap) (v : Value) (L : List Rw) : Prop := Rd h v 1 L.length (L.map Rw.v) ∧ (L.length * 24 ≤ reachBytes ∧ ∃ A c, v = .slice A L.length c ∧ c ≤ maxLen) ∧ ∀ r ∈ L, Cels h r.v r.l
def RwsF (v : Value) (L : List Rw) (b : Nat) : Prop := (0 < L.length ∧ v.ownBlock = some b) ∨ ∃ r ∈ L, CelsF r.v r.l b
theorem Rws.lt {h : Heap} {v : Value} {l : List Rw} {b : Nat} (k : Rws h v l) (hb : RwsF v l b) : b < h.size := by
  rcases hb with ⟨h1, h2⟩ | ⟨c, hc, h1⟩
  · exact k.1.lt h1 h2
  · exact (k.2.2 c hc).lt h1
theorem Rws.ext {h h' : Heap} {S : Nat → Prop} {v : Value} {l : List Rw} (k : Rws h v l) (a : Ext S h h') (hS : ∀ b, RwsF v l b → ¬ S b) : Rws h' v l :=
  ⟨k.1.ext' a fun b h1 h2 => hS b (.inl ⟨h1, h2⟩), k.2.1, fun c hc => (k.2.2 c hc).ext a fun b h1 => hS b (.inr ⟨c, hc, h1⟩)⟩
theorem Rws.ext0 {h h' : Heap} {v : Value} {l : List Rw} (k : Rws h v l) (a : Ext No h h') : Rws h' v l := k.ext a fun _ _ => nos
theorem opens_cell (w : World) : Opens Tryz.prog w 56 Cel.cells (fun c => c.ok w.heap) := by
  have h1 := opensF_cons (P := Tryz.prog) (w := w) (o := 1) (f := ⟨ "Bytes", 24, 1, false, "", "", 8⟩) rfl (opens_bytes Tryz.underlying24 (by kernel_rfl) (by kernel_rfl) Tryz.underlying5) (by kernel_rfl) (fun _ => rfl) opensF_nil
  have h2 := opensF_cons (P := Tryz.prog) (w := w) (o := 0) (f := ⟨ "Null", 4, 0, false, "", "", 0⟩) rfl (opens_bool Tryz.underlying4) (by kernel_rfl) (fun _ => rfl) h1
  exact (opens_struct Tryz.underlying56 (by kernel_rfl) h2).map (fun p => (⟨p.1, p.2.1.1, p.2.1.2⟩ : Cel)) (fun _ => rfl) (fun p q => q.2.1)
theorem opens_cells (w : World) : Opens Tryz.prog w 29 (fun p : Value × List Cel => [p.1]) (fun p => Cels w.heap p.1 p.2) :=
  (opens_slice Tryz.underlying29 (by kernel_rfl) (by decide) Cel.len (opens_cell w)).map id (fun _ => rfl) fun p q => ⟨q.1, ⟨by have := q.2.2.2.2; rwa [show Tryz.prog.bytesOf 56 = 32 by kernel_rfl] at this, q.2.2.1⟩, q.2.2.2.1⟩

theorem map_take {α β : Type} {F : α → β} {l m : List α} {k : Nat} {a b : α} (h : (l.take k).map F = (m.take k).map F) (ha : l[k]? = some a) (hb : m[k]? = some b) (e : F a = F b) : (l.take (k + 1)).map F = (m.take (k + 1)).map F := by
  rw [List.take_add_one, List.take_add_one, ha, hb, List.map_append, List.map_append, h]
  simp [e]
theorem map_ne {α β : Type} {F : α → β} {l m : List α} {k : Nat} {a b : α} (ha : l[k]? = some a) (hb : m[k]? = some b) (e : F a ≠ F b) : l.map F ≠ m.map F := fun h => e (by
  have := congrArg (·[k]?) h
  simpa [ha, hb] using this)

set_option maxRecDepth 100000 in
theorem cells_ref {h : Heap} {v u : Value} (l m : List Cel) (hl : Cels h v l) (hm : Cels h u m) :
    CallsH Tryz.prog 42 ⟨[v, u]⟩ h fun u h' => u = .bool (decide (l.map Cel.pl = m.map Cel.pl)) ∧ h' = h := by
  obtain ⟨hr, ⟨hlm, A, c, rfl, _⟩, ho⟩ := hl
  obtain ⟨hs, ⟨hmm, B, d, rfl, _⟩, hp⟩ := hm
  unfold reachBytes at hlm hmm
  refine calls [(0, _), (1, _)] Tryz.func42 rfl Tryz.ntmps42 rfl ⟨rfl, rfl, trivial⟩ ?_
  all_goals (refine WC.seq ?_)
  all_goals (refine WC.region ?_)
  all_goals (refine WL.step (ok_assign rfl) rfl rfl rfl ?_)
  all_goals (refine WL.nil ?_)
  all_goals (repeat' (with_reducible first | refine thenP_n ?_ | refine blockP_n ?_))
  all_goals (refine WC.seq ?_)
  all_goals (refine WC.seq ?_)
  all_goals (refine WC.region ?_)
  all_goals (refine WL.step (ok_move rfl) rfl rfl rfl ?_)
  all_goals (refine WL.step (ok_lenL rfl Tryz.underlying29 rfl) rfl rfl rfl ?_)
  all_goals (refine WL.step (ok_move rfl) rfl rfl rfl ?_)
  all_goals (refine WL.step (ok_lenL rfl Tryz.underlying29 rfl) rfl rfl rfl ?_)
  all_goals (first | (refine WL.step (OkP.nbool_t (by omega) (ok_neq rfl rfl)) rfl rfl rfl ?_) | (refine WL.step (OkP.nbool_f (by omega) (ok_neq rfl rfl)) rfl rfl rfl ?_) | (refine WL.step (ok_neq rfl rfl) rfl rfl rfl ?_))
  all_goals (refine WL.nil ?_)
  all_goals (repeat' (with_reducible first | refine thenP_n ?_ | refine blockP_n ?_))
  all_goals (refine WC.sub [(0, _), (1, _), (10, _)] ⟨rfl, rfl, rfl, trivial⟩ ?_)
  all_goals (first | refine WC.condB_t 1 rfl ?_ | refine WC.condB_f 2 rfl ?_ | (refine WC.condB 1 2 rfl (fun hb => ?_) (fun hb => ?_) <;> (first | replace hb := of_decide_eq_true hb | replace hb := of_decide_eq_false hb | replace hb := of_decide_eq_false (nt hb) | replace hb := of_decide_eq_true (nf hb) | skip)))
  all_goals (first
    | (fail_if_success (refine Br.mk (i := 1) ?_))
    | (refine Br.mk (i := 1) ?_
       all_goals (refine WC.seq ?_)
       all_goals (refine WC.region ?_)
       all_goals (refine WL.step (ok_assign rfl) rfl rfl rfl ?_)
       all_goals (refine WL.nil ?_)
       all_goals (repeat' (with_reducible first | refine thenP_n ?_ | refine blockP_n ?_))
       all_goals (refine WC.ret ?_)
       all_goals (repeat' (with_reducible first | refine thenP_r ?_ | refine blockP_r ?_))
       all_goals (refine retP_1 _ ⟨rfl, trivial⟩ ?_)
       all_goals (first | exact ⟨by rw [decide_eq_false (fun e => by have := congrArg List.length e; simp at this; omega)], rfl⟩ | exact ⟨by rw [decide_eq_false (map_ne hc1 hc2 (by simp_all [Cel.pl]))], rfl⟩ | exact ⟨by rw [decide_eq_true (by rw [List.take_of_length_le (by omega), List.take_of_length_le (by omega)] at hn; exact hn)], rfl⟩)
       skip))
  all_goals (first
    | (fail_if_success (refine Br.mk (i := 2) ?_))
    | (refine Br.mk (i := 2) ?_
       all_goals (refine WC.skip ?_)
       skip))
  all_goals (repeat' (with_reducible first | refine thenP_n ?_ | refine blockP_n ?_))
  all_goals (refine WC.seq ?_)
  all_goals (refine WC.seq ?_)
  all_goals (refine WC.region ?_)
  all_goals (refine WL.step (ok_assign rfl) rfl rfl rfl ?_)
  all_goals (refine WL.nil ?_)
  all_goals (repeat' (with_reducible first | refine thenP_n ?_ | refine blockP_n ?_))
  all_goals (refine WC.block ?_)
  -- loop 0: slots that turn [5], that stay [0, 1]
  all_goals (refine WC.loopG (X := Nat) (fun x => ([(5, In (x : Int))] : Fr)) [(0, _), (1, _)] (fun k h' => h' = h ∧ k ≤ l.length ∧ (l.take k).map Cel.pl = (m.take k).map Cel.pl) (fun k => l.length - k) (0) ⟨rfl, rfl, rfl, trivial⟩ (by exact ⟨rfl, Nat.zero_le _, by simp⟩) ?_)
  all_goals (rintro k _ ⟨rfl, hk, hn⟩)
  all_goals (refine WC.sub [(5, _), (0, _), (1, _)] ⟨rfl, rfl, rfl, trivial⟩ ?_)
  all_goals (refine WC.seq ?_)
  all_goals (refine WC.seq ?_)
  all_goals (refine WC.region ?_)
  all_goals (refine WL.step (ok_move rfl) rfl rfl rfl ?_)
  all_goals (refine WL.step (ok_move rfl) rfl rfl rfl ?_)
  all_goals (refine WL.step (ok_lenL rfl Tryz.underlying29 rfl) rfl rfl rfl ?_)
  all_goals (first | (refine WL.step (OkP.bool_t (by omega) (ok_lss rfl rfl)) rfl rfl rfl ?_) | (refine WL.step (OkP.bool_f (by omega) (ok_lss rfl rfl)) rfl rfl rfl ?_) | (refine WL.step (ok_lss rfl rfl) rfl rfl rfl ?_))
  all_goals (refine WL.nil ?_)
  all_goals (repeat' (with_reducible first | refine thenP_n ?_ | refine blockP_n ?_))
  all_goals (first | refine WC.condB_t 3 rfl ?_ | refine WC.condB_f 4 rfl ?_ | (refine WC.condB 3 4 rfl (fun hb => ?_) (fun hb => ?_) <;> (first | replace hb := of_decide_eq_true hb | replace hb := of_decide_eq_false hb | replace hb := of_decide_eq_false (nt hb) | replace hb := of_decide_eq_true (nf hb) | skip)))
  all_goals (first
    | (fail_if_success (refine Br.mk (i := 3) ?_))
    | (refine Br.mk (i := 3) ?_
       all_goals (refine WC.skip ?_)
       skip))
  all_goals (first
    | (fail_if_success (refine Br.mk (i := 4) ?_))
    | (refine Br.mk (i := 4) ?_
       all_goals (refine WC.exit ?_)
       all_goals (repeat' (with_reducible first | refine thenP_x ?_ | refine blockP_miss rfl ?_ | refine blockP_hit ?_ | refine blockP_n ?_ | refine thenP_n ?_))
       all_goals (refine Br.out (i := 1000) ?_)
       skip))
  all_goals (first | (refine Br.keep ?_) | (repeat' (with_reducible first | refine thenP_n ?_ | refine blockP_n ?_)))
  all_goals (first | (refine Br.keep ?_) | (refine WC.sub [(0, _), (1, _), (5, _)] ⟨rfl, rfl, rfl, trivial⟩ ?_))
  all_goals (first | (refine Br.keep ?_) | (refine WC.seq ?_))
  all_goals (first | (refine Br.keep ?_) | (refine WC.block ?_))
  all_goals (first | (refine Br.keep ?_) | (refine WC.seq ?_))
  all_goals (first
               | (refine Br.keep ?_)
               | (obtain ⟨b, o, hA, hbL, hat⟩ := Rd.at_ hr (by omega)
                  obtain ⟨b2, o2, hB, hb2, hat2⟩ := Rd.at_ hs (by omega)
                  obtain ⟨⟨n1, v1, s1⟩, hc1⟩ : ∃ y, l[k]? = some y := ⟨_, List.getElem?_eq_getElem (by omega)⟩
                  obtain ⟨⟨n2, v2, s2⟩, hc2⟩ : ∃ y, m[k]? = some y := ⟨_, List.getElem?_eq_getElem (by omega)⟩
                  have ok1 := (ho _ (List.mem_of_getElem? hc1)).1
                  have ok2 := (hp _ (List.mem_of_getElem? hc2)).1
                  simp only at ok1 ok2
                  have at1 := At.elem Cel.len hat hc1
                  have at2 := At.elem Cel.len hat2 hc2
                  obtain ⟨A1, k1, rfl, _⟩ := id ok1
                  obtain ⟨A2, k2, rfl, _⟩ := id ok2))
  all_goals (first | (refine Br.keep ?_) | (refine WC.drawE fol (by kernel_rfl) ?_))
  all_goals (first | (refine Br.keep ?_) | (refine WQ.stepE (ok_move rfl) rfl rfl rfl ?_))
  all_goals (first | (refine Br.keep ?_) | (refine WQ.stepE (ok_move rfl) rfl rfl rfl ?_))
  all_goals (first | (refine Br.keep ?_) | (refine WQ.stepE (ok_idxAddrA Tryz.underlying29 (fun w => Tryz.sizeOf56 w) rfl rfl rfl (by omega) (by first | rfl | assumption)) rfl rfl rfl ?_))
  all_goals (first | (refine Br.keep ?_) | (refine WQ.stepE (ok_fieldAddr rfl Tryz.underlying56 rfl (fun w => Tryz.sizeOf4 w)) rfl rfl rfl ?_))
  all_goals (first | (refine Br.keep ?_) | (refine WQ.stepE (ok_load (fun w => Tryz.isAgg4 w) rfl (by first | exact at1.get 0 rfl rfl | assumption | exact cell_blk (by assumption) rfl)) rfl rfl rfl ?_))
  all_goals (first | (refine Br.keep ?_) | (refine WQ.stepE (ok_move rfl) rfl rfl rfl ?_))
  all_goals (first | (refine Br.keep ?_) | (refine WQ.stepE (ok_move rfl) rfl rfl rfl ?_))
  all_goals (first | (refine Br.keep ?_) | (refine WQ.stepE (ok_idxAddrA Tryz.underlying29 (fun w => Tryz.sizeOf56 w) rfl rfl rfl (by omega) (by first | rfl | assumption)) rfl rfl rfl ?_))
  all_goals (first | (refine Br.keep ?_) | (refine WQ.stepE (ok_fieldAddr rfl Tryz.underlying56 rfl (fun w => Tryz.sizeOf4 w)) rfl rfl rfl ?_))
  all_goals (first | (refine Br.keep ?_) | (refine WQ.stepE (ok_load (fun w => Tryz.isAgg4 w) rfl (by first | exact at2.get 0 rfl rfl | assumption | exact cell_blk (by assumption) rfl)) rfl rfl rfl ?_))
  all_goals (first | (refine Br.keep ?_) | (first | (refine WQ.stepE (OkP.nbool_f (by rfl) (ok_neqB Tryz.underlying4 rfl rfl)) rfl rfl rfl ?_) | (refine WQ.stepE (OkP.nbool_t (by decide) (ok_neqB Tryz.underlying4 rfl rfl)) rfl rfl rfl ?_) | (refine WQ.stepE (ok_neqB Tryz.underlying4 rfl rfl) rfl rfl rfl ?_)))
  all_goals (first | (refine Br.keep ?_) | (refine WQ.stepE (ok_move rfl) rfl rfl rfl ?_))
  all_goals (first | (refine Br.keep ?_) | (try ((fail_if_success (refine WQ.part 28 (b := true) rfl (fun _ => ?_) (fun _ => ?_))); (fail_if_success (refine WQ.part 28 (b := false) rfl (fun _ => ?_) (fun _ => ?_))); (refine WQ.part 28 rfl (fun hb => ?_) (fun hb => ?_) <;> (first | replace hb := of_decide_eq_true hb | replace hb := of_decide_eq_false hb | replace hb := of_decide_eq_false (nt hb) | replace hb := of_decide_eq_true (nf hb) | skip)))))
  all_goals (first | (refine Br.keep ?_) | (first | (refine WQ.pass rfl rfl rfl ?_) | (refine WQ.stepE (ok_move rfl) rfl rfl rfl ?_)))
  all_goals (first | (refine Br.keep ?_) | (first | (refine WQ.pass rfl rfl rfl ?_) | (refine WQ.stepE (ok_move rfl) rfl rfl rfl ?_)))
  all_goals (first | (refine Br.keep ?_) | (first | (refine WQ.pass rfl rfl rfl ?_) | (refine WQ.stepE (ok_idxAddrA Tryz.underlying29 (fun w => Tryz.sizeOf56 w) rfl rfl rfl (by omega) (by first | rfl | assumption)) rfl rfl rfl ?_)))
  all_goals (first | (refine Br.keep ?_) | (first | (refine WQ.pass rfl rfl rfl ?_) | (refine WQ.stepE (ok_fieldAddr rfl Tryz.underlying56 rfl (fun w => Tryz.sizeOf24 w)) rfl rfl rfl ?_)))
  all_goals (first | (refine Br.keep ?_) | (first | (refine WQ.pass rfl rfl rfl ?_) | (refine WQ.stepE (ok_load (fun w => Tryz.isAgg24 w) rfl (by first | exact at1.get 1 rfl rfl | assumption | exact cell_blk (by assumption) rfl)) rfl rfl rfl ?_)))
  all_goals (first | (refine Br.keep ?_) | (first | (refine WQ.pass rfl rfl rfl ?_) | (refine WQ.stepE (ok_convBS Tryz.underlying24 Tryz.underlying5 Tryz.underlying9 rfl (by assumption)) rfl rfl rfl ?_)))
  all_goals (first | (refine Br.keep ?_) | (first | (refine WQ.pass rfl rfl rfl ?_) | (refine WQ.stepE (ok_move rfl) rfl rfl rfl ?_)))
  all_goals (first | (refine Br.keep ?_) | (first | (refine WQ.pass rfl rfl rfl ?_) | (refine WQ.stepE (ok_move rfl) rfl rfl rfl ?_)))
  all_goals (first | (refine Br.keep ?_) | (first | (refine WQ.pass rfl rfl rfl ?_) | (refine WQ.stepE (ok_idxAddrA Tryz.underlying29 (fun w => Tryz.sizeOf56 w) rfl rfl rfl (by omega) (by first | rfl | assumption)) rfl rfl rfl ?_)))
  all_goals (first | (refine Br.keep ?_) | (first | (refine WQ.pass rfl rfl rfl ?_) | (refine WQ.stepE (ok_fieldAddr rfl Tryz.underlying56 rfl (fun w => Tryz.sizeOf24 w)) rfl rfl rfl ?_)))
  all_goals (first | (refine Br.keep ?_) | (first | (refine WQ.pass rfl rfl rfl ?_) | (refine WQ.stepE (ok_load (fun w => Tryz.isAgg24 w) rfl (by first | exact at2.get 1 rfl rfl | assumption | exact cell_blk (by assumption) rfl)) rfl rfl rfl ?_)))
  all_goals (first | (refine Br.keep ?_) | (first | (refine WQ.pass rfl rfl rfl ?_) | (refine WQ.stepE (ok_convBS Tryz.underlying24 Tryz.underlying5 Tryz.underlying9 rfl (by assumption)) rfl rfl rfl ?_)))
  all_goals (first | (refine Br.keep ?_) | (first | (refine WQ.pass rfl rfl rfl ?_) | (first | (refine WQ.stepE (OkP.nbool_f (by first | rfl | assumption | decide) (ok_neqS rfl rfl)) rfl rfl rfl ?_) | (refine WQ.stepE (OkP.nbool_t (by first | assumption | decide) (ok_neqS rfl rfl)) rfl rfl rfl ?_) | (refine WQ.stepE (ok_neqS rfl rfl) rfl rfl rfl ?_))))
  all_goals (first | (refine Br.keep ?_) | (first | (refine WQ.stepE (ok_pick_t rfl rfl) rfl rfl rfl ?_) | (refine WQ.stepE (ok_pick_f rfl rfl) rfl rfl rfl ?_)))
  all_goals (first | (refine Br.keep ?_) | (refine WQ.nil ?_))
  all_goals (first | (refine Br.keep ?_) | (repeat' (with_reducible first | refine thenP_n ?_ | refine blockP_n ?_)))
  all_goals (first | (refine Br.keep ?_) | (refine WC.sub [(0, _), (1, _), (5, _), (42, _)] ⟨rfl, rfl, rfl, rfl, trivial⟩ ?_))
  all_goals (first | (refine Br.keep ?_) | (first | refine WC.condB_t 5 rfl ?_ | refine WC.condB_f 6 rfl ?_ | (refine WC.condB 5 6 rfl (fun hb => ?_) (fun hb => ?_) <;> (first | replace hb := of_decide_eq_true hb | replace hb := of_decide_eq_false hb | replace hb := of_decide_eq_false (nt hb) | replace hb := of_decide_eq_true (nf hb) | skip))))
  all_goals (first
    | (fail_if_success (refine Br.mk (i := 5) ?_))
    | (refine Br.mk (i := 5) ?_
       all_goals (refine WC.seq ?_)
       all_goals (refine WC.region ?_)
       all_goals (refine WL.step (ok_assign rfl) rfl rfl rfl ?_)
       all_goals (refine WL.nil ?_)
       all_goals (repeat' (with_reducible first | refine thenP_n ?_ | refine blockP_n ?_))
       all_goals (refine WC.sub [(4, _)] ⟨rfl, trivial⟩ ?_)
       all_goals (refine WC.ret ?_)
       all_goals (repeat' (with_reducible first | refine thenP_r ?_ | refine blockP_r ?_))
       all_goals (refine retP_1 _ ⟨rfl, trivial⟩ ?_)
       all_goals (first | exact ⟨by rw [decide_eq_false (fun e => by have := congrArg List.length e; simp at this; omega)], rfl⟩ | exact ⟨by rw [decide_eq_false (map_ne hc1 hc2 (by simp_all [Cel.pl]))], rfl⟩ | exact ⟨by rw [decide_eq_true (by rw [List.take_of_length_le (by omega), List.take_of_length_le (by omega)] at hn; exact hn)], rfl⟩)
       skip))
  all_goals (first
    | (fail_if_success (refine Br.mk (i := 6) ?_))
    | (refine Br.mk (i := 6) ?_
       all_goals (refine WC.skip ?_)
       skip))
  all_goals (first | (refine Br.keep ?_) | (repeat' (with_reducible first | refine thenP_n ?_ | refine blockP_n ?_)))
  all_goals (first | (refine Br.keep ?_) | (refine WC.region ?_))
  all_goals (first | (refine Br.keep ?_) | (refine WL.step (ok_move rfl) rfl rfl rfl ?_))
  all_goals (first | (refine Br.keep ?_) | (first | (refine WL.step (ok_addI rfl rfl (by omega)) rfl rfl rfl ?_) | (refine WL.step (ok_add rfl rfl) rfl rfl rfl ?_)))
  all_goals (first | (refine Br.keep ?_) | (refine WL.step (ok_assign rfl) rfl rfl rfl ?_))
  all_goals (first | (refine Br.keep ?_) | (refine WL.nil ?_))
  all_goals (first | (refine Br.keep ?_) | (repeat' (with_reducible first | refine thenP_n ?_ | refine blockP_n ?_)))
  all_goals (first | (refine Br.keep ?_) | (exact ⟨k + 1, ⟨rfl, rfl, rfl, trivial⟩, (by exact ⟨rfl, by omega, map_take hn hc1 hc2 (by simp_all [Cel.pl])⟩), (by omega)⟩))
  all_goals (try (refine Br.mk (i := 1000) ?_))
  all_goals (repeat' (with_reducible first | refine thenP_n ?_ | refine blockP_n ?_))
  all_goals (refine WC.sub [] trivial ?_)
  all_goals (refine WC.seq ?_)
  all_goals (refine WC.region ?_)
  all_goals (refine WL.step (ok_assign rfl) rfl rfl rfl ?_)
  all_goals (refine WL.nil ?_)
  all_goals (repeat' (with_reducible first | refine thenP_n ?_ | refine blockP_n ?_))
  all_goals (refine WC.ret ?_)
  all_goals (repeat' (with_reducible first | refine thenP_r ?_ | refine blockP_r ?_))
  all_goals (refine retP_1 _ ⟨rfl, trivial⟩ ?_)
  all_goals (first | exact ⟨by rw [decide_eq_false (fun e => by have := congrArg List.length e; simp at this; omega)], rfl⟩ | exact ⟨by rw [decide_eq_false (map_ne hc1 hc2 (by simp_all [Cel.pl]))], rfl⟩ | exact ⟨by rw [decide_eq_true (by rw [List.take_of_length_le (by omega), List.take_of_length_le (by omega)] at hn; exact hn)], rfl⟩)
end Go.Proofs.YtkpgnhhidnkmcaaGreatDoor

