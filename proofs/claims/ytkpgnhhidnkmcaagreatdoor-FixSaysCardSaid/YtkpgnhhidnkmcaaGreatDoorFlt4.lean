/-
  FIX (layer 25): a fault's bytes; the law's awake.
-/
import Derived.Test.YtkpgnhhidnkmcaaGreatDoorFlt3
import Derived.Test.YtkpgnhhidnkmcaaGreatDoorNum
namespace Go.Proofs.YtkpgnhhidnkmcaaGreatDoor
open Go Go.RK

/-- A writer at block b, all of it made since the heap g: what it has written. -/
structure Wr (g h : Heap) (b : Nat) (v : Value) (l : List UInt8) : Prop where
  blk : h[b]? = some (.cells ⟨[v]⟩ 109 (0, 0))
  own : Own h v 5 1 l.length (bys l)
  lo : g.size ≤ b ∧ ∀ q, v.ownBlock = some q → g.size ≤ q
  ext : Ext No g h
def WS_ (b : Nat) (v : Value) (q : Nat) : Prop := q = b ∨ v.ownBlock = some q
section
variable {g h : Heap} {b : Nat} {v : Value} {l : List UInt8}
theorem Wr.ne (w : Wr g h b v l) : v.ownBlock ≠ some b := fun e => by obtain ⟨_, z⟩ := own_kind w.own e; rw [w.blk] at z; simp at z
theorem Wr.stay {h' : Heap} (w : Wr g h b v l) (x : Ext No h h') : Wr g h' b v l := ⟨x.obj w.blk nos, w.own.ext x (fun _ _ => nos), w.lo, w.ext.trans x⟩
set_option maxRecDepth 100000 in
theorem text_w (w : Wr g h b v l) (s : List UInt8) (hl : l.length + s.length ≤ 1000000000) : CallsH Tryz.prog 77 ⟨[.pointer (some ⟨b, 0, none⟩), St s]⟩ h fun _ h' => ∃ v', Wr g h' b v' (l ++ s ++ [0]) ∧ Ext (WS_ b v) h h' ∧ ∀ q, v'.ownBlock = some q → v.ownBlock = some q ∨ h.size ≤ q := by
  have hne := w.ne
  have hB0 := w.blk
  have hbl := lt_of_some hB0
  have ho := w.own
  have lo := w.lo
  have hxg := w.ext
  have hsg := hxg.size
  refine calls [(0, _), (1, _)] Tryz.func77 rfl Tryz.ntmps77 rfl ⟨rfl, rfl, trivial⟩ ?_
  all_goals (refine WC.region ?_)
  all_goals (refine WL.step (ok_move rfl) rfl rfl rfl ?_)
  all_goals (refine WL.step (ok_move rfl) rfl rfl rfl ?_)
  all_goals (refine WL.step (ok_nilCheck rfl) rfl rfl rfl ?_)
  all_goals (refine WL.step (ok_fieldAddr rfl Tryz.underlying109 rfl (fun w => Tryz.sizeOf24 w)) rfl rfl rfl ?_)
  all_goals (refine WL.step (ok_load (fun w => Tryz.isAgg24 w) rfl (by first | exact cell_blk hB0 rfl | assumption | exact cell_blk (by assumption) rfl)) rfl rfl rfl ?_)
  all_goals (refine WL.step (ok_move rfl) rfl rfl rfl ?_)
  all_goals (refine WL.stepR (okE_appendS rfl Tryz.underlying24 Tryz.underlying9 (show Tryz.prog.info? 5 = some Tryz.t5 by kernel_rfl) rfl rfl rfl rfl rfl ho (by omega)) rfl rfl rfl ?_
             rintro v1 h1 ⟨ho1, hx1, hl1, _⟩)
  all_goals (refine WL.stepR (okE_buildSlice (vs := [_]) (cs := [_]) (fun | [a0] => [a0] | _ => []) Tryz.underlying24 rfl rfl (by kernel_rfl)) rfl rfl rfl ?_
             rintro _ h2 ⟨b2, rfl, hg2, hb2, hx2⟩)
  all_goals (refine WL.stepR (ok_append (sz := 1) (bytes := 1) rfl Tryz.underlying24 (show Tryz.prog.info? 5 = some Tryz.t5 by kernel_rfl) rfl rfl rfl rfl (by decide) rfl rfl (ho1.ext hx2 (fun _ _ => nos)) (rd_blk hb2 rfl) (by simp [Value.oneCell']) (by simp only [maxLen]; omega) (by omega)) rfl rfl rfl ?_
             rintro v3 h3 ⟨ho3, hx3, hl3⟩)
  all_goals (have hf1 : ∀ q, v1.ownBlock = some q → v.ownBlock = some q ∨ h.size ≤ q := hl1
             have s1 := hx1.size
             have s2 := hx2.size
             have hf3 : ∀ q, v3.ownBlock = some q → v.ownBlock = some q ∨ h.size ≤ q := fun q hq => hl3.elim (fun e => hf1 q (e ▸ hq)) (fun e => .inr (by rw [e] at hq; cases hq; omega))
             have hX3 : Ext (fun q => v.ownBlock = some q) h h3 := (hx1.trans (hx2.mono fun _ _ e => e.elim)).trans' hx3 (fun q hq e => (hf1 q e).elim id (fun z => by omega))
             obtain ⟨A3, c3, rfl, _⟩ := ho3.slice
             have hb3 := hX3.obj hB0 hne)
  all_goals (refine WL.step (ok_nilCheck rfl) rfl rfl rfl ?_)
  all_goals (refine WL.step (ok_fieldAddr rfl Tryz.underlying109 rfl (fun w => Tryz.sizeOf24 w)) rfl rfl rfl ?_)
  all_goals (refine WL.stepR0 (okE_store (fun w => Tryz.sizeOf24 w) rfl rfl hb3 (Nat.le_of_ble_eq_true rfl) rfl rfl) rfl rfl ?_
             rintro _ h4 ⟨hb4, hx4⟩)
  all_goals (refine WL.nil ?_)
  all_goals (repeat' (with_reducible first | refine thenP_n ?_ | refine blockP_n ?_))
  all_goals (refine retP_n [] trivial ?_)
  all_goals (refine ⟨_, ⟨hb4, ?_, ⟨lo.1, fun q hq => ?_⟩, ?_⟩, (hX3.mono fun q _ e => .inr e).trans (hx4.mono fun q _ e => .inl e), hf3⟩
             · rw [show (l ++ s ++ [(0 : UInt8)]).length = l.length + s.length + 1 by simp [Nat.add_assoc], show bys (l ++ s ++ [0]) = bys l ++ bys s ++ [Value.int .u8 0] by simp only [bys, List.map_append, List.map_cons, List.map_nil]; rfl]; exact ho3.ext hx4 (fun q hq e => by obtain ⟨_, z⟩ := own_kind ho3 hq; rw [e, hb3] at z; simp at z)
             · exact (hf3 q hq).elim (fun e => lo.2 q e) (fun e => by omega)
             · exact (hxg.trans' hX3 (fun q hq e => by have := lo.2 q e; omega)).trans' hx4 (fun q hq e => by have := lo.1; omega))
end
def encF (F : List FieldD) : List UInt8 := F.flatMap fun f => [UInt8.ofNat f.k.toNat] ++ f.t ++ [0]
theorem byK {k : Int} (h0 : 0 ≤ k) (h1 : k ≤ 255) : By (UInt8.ofNat k.toNat) = .int .u8 k := by
  show Value.int .u8 ((UInt8.ofNat k.toNat).toNat : Int) = .int .u8 k
  rw [UInt8.toNat_ofNat']
  congr 1
  omega
theorem encF_snoc {F : List FieldD} {k : Nat} {y : FieldD} (hy : F[k]? = some y) : encF (F.take (k + 1)) = encF (F.take k) ++ [UInt8.ofNat y.k.toNat] ++ y.t ++ [0] := by
  unfold encF
  rw [List.take_add_one, hy, List.flatMap_append]
  simp
theorem encF_len (F : List FieldD) (n : Nat) (hF : ∀ f ∈ F, f.t.length ≤ n) : (encF F).length ≤ F.length * (n + 2) := by
  induction F with
  | nil => simp [encF]
  | cons a F ih =>
    have h1 := ih (fun f hf => hF f (by simp [hf]))
    have h2 := hF a (by simp)
    have : encF (a :: F) = [UInt8.ofNat a.k.toNat] ++ a.t ++ [0] ++ encF F := by simp [encF]
    rw [this]
    simp only [List.length_append, List.length_cons, List.length_nil] at *
    rw [Nat.add_mul]
    omega
set_option maxRecDepth 100000 in
theorem fields_w {g h : Heap} {b : Nat} {v : Value} (F : List FieldD) (w : Wr g h b nilV []) (hr : Rd g v 2 F.length (F.flatMap FieldD.cells)) (hF : ∀ f ∈ F, f.t.length ≤ 200000 ∧ 0 ≤ f.k ∧ f.k ≤ 255) (hm : F.length ≤ 100) :
    CallsH Tryz.prog 80 ⟨[.pointer (some ⟨b, 0, none⟩), v]⟩ h fun _ h' => ∃ v', Wr g h' b v' (encF F ++ [0]) ∧ Ext (fun q => q = b) h h' := by
  obtain ⟨A, c, rfl, _⟩ := id hr
  have hlen : ∀ k, (encF (F.take k)).length ≤ 100 * 200002 := fun k => Nat.le_trans (encF_len (F.take k) 200000 (fun f hf => (hF f (List.mem_of_mem_take hf)).1)) (Nat.mul_le_mul (by rw [List.length_take]; omega) (Nat.le_refl _))
  refine calls [(0, _), (1, _)] Tryz.func80 rfl Tryz.ntmps80 rfl ⟨rfl, rfl, trivial⟩ ?_
  all_goals (refine WC.seq ?_)
  all_goals (refine WC.seq ?_)
  all_goals (refine WC.region ?_)
  all_goals (refine WL.step (ok_move rfl) rfl rfl rfl ?_)
  all_goals (refine WL.step (ok_lenL rfl Tryz.underlying30 rfl) rfl rfl rfl ?_)
  all_goals (refine WL.step (ok_move rfl) rfl rfl rfl ?_)
  all_goals (refine WL.nil ?_)
  all_goals (repeat' (with_reducible first | refine thenP_n ?_ | refine blockP_n ?_))
  all_goals (refine WC.block ?_)
  -- loop 0: slots that turn [8], that stay [0, 6, 7]
  all_goals (refine WC.loopG (X := Nat × Value) (fun x => ([(8, In (x.1 : Int))] : Fr)) [(0, _), (6, _), (7, _)] (fun y h' => y.1 ≤ F.length ∧ Wr g h' b y.2 (encF (F.take y.1)) ∧ Ext (fun q => q = b) h h' ∧ ∀ q, y.2.ownBlock = some q → h.size ≤ q) (fun y => F.length - y.1) ((0, nilV)) ⟨rfl, rfl, rfl, rfl, trivial⟩ (by exact ⟨Nat.zero_le _, w, .refl _ _, by simp [Value.ownBlock]⟩) ?_)
  all_goals (rintro ⟨k, u⟩ h1 ⟨hk, w1, hx1, hf1⟩
             dsimp only at hk w1 hf1)
  all_goals (refine WC.sub [(8, _), (0, _), (6, _), (7, _)] ⟨rfl, rfl, rfl, rfl, trivial⟩ ?_)
  all_goals (dsimp only)
  all_goals (refine WC.seq ?_)
  all_goals (refine WC.region ?_)
  all_goals (first | (refine WL.step (OkP.bool_t (by omega) (ok_lss rfl rfl)) rfl rfl rfl ?_) | (refine WL.step (OkP.bool_f (by omega) (ok_lss rfl rfl)) rfl rfl rfl ?_) | (refine WL.step (ok_lss rfl rfl) rfl rfl rfl ?_))
  all_goals (refine WL.nil ?_)
  all_goals (repeat' (with_reducible first | refine thenP_n ?_ | refine blockP_n ?_))
  all_goals (refine WC.seq ?_)
  all_goals (first | refine WC.condB_t 1 rfl ?_ | refine WC.condB_f 2 rfl ?_ | (refine WC.condB 1 2 rfl (fun hb => ?_) (fun hb => ?_) <;> (first | replace hb := of_decide_eq_true hb | replace hb := of_decide_eq_false hb | replace hb := of_decide_eq_false (nt hb) | replace hb := of_decide_eq_true (nf hb) | skip)))
  all_goals (first
    | (fail_if_success (refine Br.mk (i := 1) ?_))
    | (refine Br.mk (i := 1) ?_
       all_goals (refine WC.skip ?_)
       skip))
  all_goals (first
    | (fail_if_success (refine Br.mk (i := 2) ?_))
    | (refine Br.mk (i := 2) ?_
       all_goals (refine WC.exit ?_)
       all_goals (repeat' (with_reducible first | refine thenP_x ?_ | refine blockP_miss rfl ?_ | refine blockP_hit ?_ | refine blockP_n ?_ | refine thenP_n ?_))
       all_goals (refine Br.out (i := 1000) ?_)
       skip))
  all_goals (first | (refine Br.keep ?_) | (repeat' (with_reducible first | refine thenP_n ?_ | refine blockP_n ?_)))
  all_goals (first | (refine Br.keep ?_) | (refine WC.seq ?_))
  all_goals (first | (refine Br.keep ?_) | (refine WC.block ?_))
  all_goals (first | (refine Br.keep ?_) | (refine WC.seq ?_))
  all_goals (first | (refine Br.keep ?_) | (refine WC.region ?_))
  all_goals (first
               | (refine Br.keep ?_)
               | (obtain ⟨bL, oL, hA, hbL, hat⟩ := Rd.at_ hr (by omega)
                  obtain ⟨⟨yk, yt⟩, hy⟩ : ∃ y, F[k]? = some y := ⟨_, List.getElem?_eq_getElem (by omega)⟩
                  have hyF := hF _ (List.mem_of_getElem? hy)
                  dsimp only at hyF
                  have hcd : At h1 bL (oL + k * 2) [.int .u8 yk, St yt] := At.elem FieldD.len (hat.ext w1.ext nos) hy
                  have hlk := hlen k))
  all_goals (first | (refine Br.keep ?_) | (refine WL.step (ok_idxAddrA Tryz.underlying30 (fun w => Tryz.sizeOf60 w) rfl rfl rfl (by omega) (by first | rfl | assumption)) rfl rfl rfl ?_))
  all_goals (first | (refine Br.keep ?_) | (refine WL.step (ok_loadN (fun w => Tryz.isAgg60 w) (fun w => Tryz.sizeOf60 w) rfl rfl (by exact hcd)) rfl rfl rfl ?_))
  all_goals (first
               | (refine Br.keep ?_)
               | (refine WL.stepR (okE_alloc (fun w => Tryz.zeroValue60 w)) rfl rfl rfl ?_
                  rintro _ h2 ⟨b5, rfl, hg5, hb5, hx2⟩))
  all_goals (first
               | (refine Br.keep ?_)
               | (refine WL.stepR0 (okE_storeW (fun w => Tryz.sizeOf60 w) rfl rfl rfl hb5 rfl (by simp [Value.oneCell'])) rfl rfl ?_
                  rintro _ h3 ⟨hb53, hx3⟩))
  all_goals (first
               | (refine Br.keep ?_)
               | (have hX3 : Ext No h1 h3 := hx2.trans' hx3 (fun q hq e => by omega)
                  have w3 := w1.stay hX3
                  have n3 := w3.ne
                  have n5 : ¬ u.ownBlock = some b5 := fun e => by have := w1.own.lt e; omega
                  have l1 := lt_of_some w1.blk
                  have s3 := hX3.size
                  have sh := hx1.size))
  all_goals (first | (refine Br.keep ?_) | (refine WL.nil ?_))
  all_goals (first | (refine Br.keep ?_) | (repeat' (with_reducible first | refine thenP_n ?_ | refine blockP_n ?_)))
  all_goals (first | (refine Br.keep ?_) | (refine WC.seq ?_))
  all_goals (first | (refine Br.keep ?_) | (refine WC.drawH (fun h' => Ext (fun q => u.ownBlock = some q) h3 h') 9 12 rfl fol ?_))
  all_goals (first | (refine Br.keep ?_) | (refine WH.take 0 rfl (by kernel_rfl) (by kernel_rfl) (by kernel_rfl) (by kernel_rfl) rfl (by first | exact Ext.refl _ _ | assumption) (fun hq hC => ok_move rfl) rfl rfl rfl ?_))
  all_goals (first | (refine Br.keep ?_) | (refine WH.take 1 rfl (by kernel_rfl) (by kernel_rfl) (by kernel_rfl) (by kernel_rfl) rfl (by first | exact Ext.refl _ _ | assumption) (fun hq hC => ok_move rfl) rfl rfl rfl ?_))
  all_goals (first | (refine Br.keep ?_) | (refine WH.take 2 rfl (by kernel_rfl) (by kernel_rfl) (by kernel_rfl) (by kernel_rfl) rfl (by first | exact Ext.refl _ _ | assumption) (fun hq hC => ok_nilCheck rfl) rfl rfl rfl ?_))
  all_goals (first | (refine Br.keep ?_) | (refine WH.take 3 rfl (by kernel_rfl) (by kernel_rfl) (by kernel_rfl) (by kernel_rfl) rfl (by first | exact Ext.refl _ _ | assumption) (fun hq hC => ok_fieldAddr rfl Tryz.underlying109 rfl (fun w => Tryz.sizeOf24 w)) rfl rfl rfl ?_))
  all_goals (first | (refine Br.keep ?_) | (refine WH.take 4 rfl (by kernel_rfl) (by kernel_rfl) (by kernel_rfl) (by kernel_rfl) rfl (by first | exact Ext.refl _ _ | assumption) (fun hq hC => ok_load (fun w => Tryz.isAgg24 w) rfl (by first | exact hC.cell (by first | exact cell_blk w3.blk rfl | assumption | exact cell_blk (by assumption) rfl) (by first | exact n3 | exact n5))) rfl rfl rfl ?_))
  all_goals (first | (refine Br.keep ?_) | (refine WH.take 5 rfl (by kernel_rfl) (by kernel_rfl) (by kernel_rfl) (by kernel_rfl) rfl (by first | exact Ext.refl _ _ | assumption) (fun hq hC => ok_fieldAddr rfl Tryz.underlying60 rfl (fun w => Tryz.sizeOf5 w)) rfl rfl rfl ?_))
  all_goals (first | (refine Br.keep ?_) | (refine WH.take 6 rfl (by kernel_rfl) (by kernel_rfl) (by kernel_rfl) (by kernel_rfl) rfl (by first | exact Ext.refl _ _ | assumption) (fun hq hC => ok_load (fun w => Tryz.isAgg5 w) rfl (by first | exact hC.cell (by first | exact cell_blk hb53 rfl | assumption | exact cell_blk (by assumption) rfl) (by first | exact n3 | exact n5))) rfl rfl rfl ?_))
  all_goals (first | (refine Br.keep ?_) | (refine WH.one 7 (by kernel_rfl) ?_))
  all_goals (first
               | (refine Br.keep ?_)
               | (refine Comes1.run rfl (okE_buildSlice (vs := [_]) (cs := [_]) (fun | [a0] => [a0] | _ => []) Tryz.underlying24 rfl rfl (by kernel_rfl)) rfl rfl rfl ?_ (fun _ => by kernel_rfl)
                  rintro _ h7 ⟨b7, rfl, hg7, hb7, hx7⟩))
  all_goals (first | (refine Br.keep ?_) | (refine ⟨fun _ => hx7.mono fun _ _ e => e.elim, ?_⟩))
  all_goals (first | (refine Br.keep ?_) | (have hC7 : Ext (fun q => u.ownBlock = some q) h3 h7 := hx7.mono fun _ _ e => e.elim))
  all_goals (first | (refine Br.keep ?_) | (refine WH.one 8 (by kernel_rfl) ?_))
  all_goals (first
               | (refine Br.keep ?_)
               | (refine Comes1.run rfl (ok_append (sz := 1) (bytes := 1) rfl Tryz.underlying24 (show Tryz.prog.info? 5 = some Tryz.t5 by kernel_rfl) rfl rfl rfl rfl (by decide) rfl rfl (w3.own.ext hx7 (fun _ _ => nos)) (rd_blk hb7 rfl) (by simp [Value.oneCell']) (by simp only [maxLen]; omega) (by omega)) rfl rfl rfl ?_ (fun _ => by kernel_rfl)
                  rintro v8 h8 ⟨ho8, hx8, hl8⟩))
  all_goals (first | (refine Br.keep ?_) | (refine ⟨fun _ => hC7.trans hx8, ?_⟩))
  all_goals (first
               | (refine Br.keep ?_)
               | (have hC8 := hC7.trans hx8
                  have hb8 := hC8.obj w3.blk n3
                  obtain ⟨A8, c8, rfl, _⟩ := ho8.slice))
  all_goals (first | (refine Br.keep ?_) | (refine WH.one 9 (by kernel_rfl) ?_))
  all_goals (first
               | (refine Br.keep ?_)
               | (refine Comes1.run rfl (OkP.r (ok_nilCheck rfl)) rfl rfl rfl ?_ (fun _ => by kernel_rfl)
                  rintro _ hz ⟨rfl, _⟩
                  subst hz))
  all_goals (first | (refine Br.keep ?_) | (refine ⟨fun e => (by cases e), ?_⟩))
  all_goals (first | (refine Br.keep ?_) | (refine WH.one 10 (by kernel_rfl) ?_))
  all_goals (first
               | (refine Br.keep ?_)
               | (refine Comes1.run rfl (OkP.r (ok_fieldAddr rfl Tryz.underlying109 rfl (fun w => Tryz.sizeOf24 w))) rfl rfl rfl ?_ (fun _ => by kernel_rfl)
                  rintro _ hz ⟨rfl, _⟩
                  subst hz))
  all_goals (first | (refine Br.keep ?_) | (refine ⟨fun e => (by cases e), ?_⟩))
  all_goals (first | (refine Br.keep ?_) | (refine WH.one 11 (by kernel_rfl) ?_))
  all_goals (first
               | (refine Br.keep ?_)
               | (refine Comes1.run0 rfl (okE_store (fun w => Tryz.sizeOf24 w) rfl rfl hb8 (Nat.le_of_ble_eq_true rfl) rfl rfl) rfl rfl ?_ (fun _ => by kernel_rfl)
                  rintro _ h9 ⟨hb9, hx9⟩))
  all_goals (first | (refine Br.keep ?_) | (refine ⟨fun e => (by cases e), ?_⟩))
  all_goals (first
               | (refine Br.keep ?_)
               | (have s7 := hx7.size
                  have hf8 : ∀ q, (Value.slice A8 ((encF (F.take k)).length + 1) c8).ownBlock = some q → u.ownBlock = some q ∨ h3.size ≤ q := fun q hq => hl8.elim (fun e => .inl (e ▸ hq)) (fun e => .inr (by rw [e] at hq; cases hq; omega))
                  have w9 : Wr g h9 b (.slice A8 ((encF (F.take k)).length + 1) c8) (encF (F.take k) ++ [UInt8.ofNat yk.toNat]) := ⟨hb9, by rw [show (encF (F.take k) ++ [UInt8.ofNat yk.toNat]).length = (encF (F.take k)).length + 1 by simp, show bys (encF (F.take k) ++ [UInt8.ofNat yk.toNat]) = bys (encF (F.take k)) ++ [Value.int .u8 yk] by simp only [bys, List.map_append, List.map_cons, List.map_nil]; rw [byK hyF.2.1 hyF.2.2]]; exact ho8.ext hx9 (fun q hq e => by obtain ⟨_, z⟩ := own_kind ho8 hq; rw [e, hb8] at z; simp at z), ⟨w1.lo.1, fun q hq => (hf8 q hq).elim (fun e => w1.lo.2 q e) (fun e => by have := w1.ext.size; omega)⟩, (w3.ext.trans' hC8 (fun q hq e => by have := w1.lo.2 q e; omega)).trans' hx9 (fun q hq e => by have := w1.lo.1; omega)⟩
                  have n5b : b5 ≠ b := by omega
                  have hb59 := hx9.obj (hC8.obj hb53 n5) n5b))
  all_goals (first | (refine Br.keep ?_) | (refine WH.done (by kernel_rfl) ?_))
  all_goals (first | (refine Br.keep ?_) | (repeat' (with_reducible first | refine thenP_n ?_ | refine blockP_n ?_)))
  all_goals (first | (refine Br.keep ?_) | (refine WC.sub [(0, _), (5, _), (6, _), (7, _), (8, _)] ⟨rfl, rfl, rfl, rfl, rfl, trivial⟩ ?_))
  all_goals (first | (refine Br.keep ?_) | (refine WC.region ?_))
  all_goals (first | (refine Br.keep ?_) | (refine WL.step (ok_move rfl) rfl rfl rfl ?_))
  all_goals (first | (refine Br.keep ?_) | (refine WL.step (ok_fieldAddr rfl Tryz.underlying60 rfl (fun w => Tryz.sizeOf9 w)) rfl rfl rfl ?_))
  all_goals (first | (refine Br.keep ?_) | (refine WL.step (ok_load (fun w => Tryz.isAgg9 w) rfl (by first | exact cell_blk hb59 rfl | assumption | exact cell_blk (by assumption) rfl)) rfl rfl rfl ?_))
  all_goals (first
               | (refine Br.keep ?_)
               | (refine WL.call (vs := [_, _]) rfl (fun a w => Tryz.call77 a w) rfl (text_w w9 yt (by simp only [List.length_append, List.length_cons, List.length_nil]; omega)) rfl rfl rfl ?_
                  rintro _ h10 ⟨v10, w10, hx10, hf10⟩))
  all_goals (first | (refine Br.keep ?_) | (refine WL.nil ?_))
  all_goals (first | (refine Br.keep ?_) | (repeat' (with_reducible first | refine thenP_n ?_ | refine blockP_n ?_)))
  all_goals (first | (refine Br.keep ?_) | (refine WC.sub [(0, _), (6, _), (7, _), (8, _)] ⟨rfl, rfl, rfl, rfl, trivial⟩ ?_))
  all_goals (first | (refine Br.keep ?_) | (refine WC.region ?_))
  all_goals (first | (refine Br.keep ?_) | (first | (refine WL.step (ok_addI rfl rfl (by omega)) rfl rfl rfl ?_) | (refine WL.step (ok_add rfl rfl) rfl rfl rfl ?_)))
  all_goals (first | (refine Br.keep ?_) | (refine WL.step (ok_move rfl) rfl rfl rfl ?_))
  all_goals (first | (refine Br.keep ?_) | (refine WL.nil ?_))
  all_goals (first | (refine Br.keep ?_) | (repeat' (with_reducible first | refine thenP_n ?_ | refine blockP_n ?_)))
  all_goals (first | (refine Br.keep ?_) | (exact ⟨(k + 1, _), ⟨rfl, rfl, rfl, rfl, trivial⟩, (by exact ⟨by omega, by rw [encF_snoc hy]; exact w10, (((hx1.trans' hX3 (fun q hq e => e.elim)).trans' hC8 (fun q hq e => by have := hf1 q e; omega)).trans' hx9 (fun q hq e => e)).trans' hx10 (fun q hq e => e.elim id (fun z => (hf8 q z).elim (fun z => by have := hf1 q z; omega) (fun z => by omega))), fun q hq => (hf10 q hq).elim (fun z => (hf8 q z).elim (fun z => hf1 q z) (fun z => by omega)) (fun z => by have := hC8.size; have := hx9.size; omega)⟩), (by simp; omega)⟩))
  all_goals (try (refine Br.mk (i := 1000) ?_))
  all_goals (repeat' (with_reducible first | refine thenP_n ?_ | refine blockP_n ?_))
  all_goals (refine WC.sub [(0, _)] ⟨rfl, trivial⟩ ?_)
  all_goals (refine WC.region ?_)
  all_goals (have hkF : k = F.length := by omega
             have hlk := hlen k
             have sh := hx1.size
             have n1 := w1.ne)
  all_goals (refine WL.step (ok_move rfl) rfl rfl rfl ?_)
  all_goals (refine WL.step (ok_move rfl) rfl rfl rfl ?_)
  all_goals (refine WL.step (ok_nilCheck rfl) rfl rfl rfl ?_)
  all_goals (refine WL.step (ok_fieldAddr rfl Tryz.underlying109 rfl (fun w => Tryz.sizeOf24 w)) rfl rfl rfl ?_)
  all_goals (refine WL.step (ok_load (fun w => Tryz.isAgg24 w) rfl (by first | exact cell_blk w1.blk rfl | assumption | exact cell_blk (by assumption) rfl)) rfl rfl rfl ?_)
  all_goals (refine WL.stepR (okE_buildSlice (vs := [_]) (cs := [_]) (fun | [a0] => [a0] | _ => []) Tryz.underlying24 rfl rfl (by kernel_rfl)) rfl rfl rfl ?_
             rintro _ h2 ⟨b2, rfl, hg2, hb2, hx2⟩)
  all_goals (refine WL.stepR (ok_append (sz := 1) (bytes := 1) rfl Tryz.underlying24 (show Tryz.prog.info? 5 = some Tryz.t5 by kernel_rfl) rfl rfl rfl rfl (by decide) rfl rfl (w1.own.ext hx2 (fun _ _ => nos)) (rd_blk hb2 rfl) (by simp [Value.oneCell']) (by simp only [maxLen]; omega) (by omega)) rfl rfl rfl ?_
             rintro v3 h3 ⟨ho3, hx3, hl3⟩)
  all_goals (have hC3 : Ext (fun q => u.ownBlock = some q) h1 h3 := (hx2.mono fun _ _ e => e.elim).trans hx3
             have hb3 := hC3.obj w1.blk n1
             obtain ⟨A3, c3, rfl, _⟩ := ho3.slice
             have s2 := hx2.size)
  all_goals (refine WL.step (ok_nilCheck rfl) rfl rfl rfl ?_)
  all_goals (refine WL.step (ok_fieldAddr rfl Tryz.underlying109 rfl (fun w => Tryz.sizeOf24 w)) rfl rfl rfl ?_)
  all_goals (refine WL.stepR0 (okE_store (fun w => Tryz.sizeOf24 w) rfl rfl hb3 (Nat.le_of_ble_eq_true rfl) rfl rfl) rfl rfl ?_
             rintro _ h4 ⟨hb4, hx4⟩)
  all_goals (refine WL.nil ?_)
  all_goals (repeat' (with_reducible first | refine thenP_n ?_ | refine blockP_n ?_))
  all_goals (refine retP_n [] trivial ?_)
  all_goals (have hf3 : ∀ q, (Value.slice A3 ((encF (F.take k)).length + 1) c3).ownBlock = some q → u.ownBlock = some q ∨ h1.size ≤ q := fun q hq => hl3.elim (fun e => .inl (e ▸ hq)) (fun e => .inr (by rw [e] at hq; cases hq; omega))
             have e0 : F.take k = F := List.take_of_length_le (by omega)
             refine ⟨_, ⟨hb4, ?_, ⟨w1.lo.1, fun q hq => (hf3 q hq).elim (fun e => w1.lo.2 q e) (fun e => by have := w1.ext.size; omega)⟩, (w1.ext.trans' hC3 (fun q hq e => by have := w1.lo.2 q e; omega)).trans' hx4 (fun q hq e => by have := w1.lo.1; omega)⟩, (hx1.trans' hC3 (fun q hq e => by have := hf1 q e; omega)).trans hx4⟩
             rw [e0] at ho3 ⊢
             rw [show (encF F ++ [(0 : UInt8)]).length = (encF F).length + 1 by simp, show bys (encF F ++ [0]) = bys (encF F) ++ [Value.int .u8 0] by simp only [bys, List.map_append, List.map_cons, List.map_nil]; rfl]
             exact ho3.ext hx4 (fun q hq e => by obtain ⟨_, z⟩ := own_kind ho3 hq; rw [e, hb3] at z; simp at z))
end Go.Proofs.YtkpgnhhidnkmcaaGreatDoor

