/-
  SEVERAL TEXTS IN ONE: Port2, Port3, K18, Srl, Shelf, K15, Port4, Port5, Back, FmB, Sx, Pred, K27, Sx2, Dx1, Dx2, Dx3.
-/
import Derived.Test.YtbokngiajfdanaaGreatDoorPSessSkips1
import Derived.Maps.RangeRun
import Derived.Shelf.Sort.Plain
import Derived.Shelf.Slices.In.SortNone
import Derived.Shelf.Strings.Search1
import Derived.Shelf.Strings.OnBuilder
import Derived.Shelf.Small.Strs
import Derived.Shelf.Bytes.IndexByte
import Derived.Shelf.LaysM
import Derived.Test.YtbokngiajfdanaaGreatDoorProg
import Derived.Sort.Grow
import Derived.WideLaws
/-
  PORTAL (layer 28): a set of portals: Put, Ran, Fetch; what the document compares.
-/
namespace Go.Proofs.YtbokngiajfdanaaGreatDoor
open Go Go.RK

/-- A portal's data. -/
structure PD where
  text : List UInt8
  vo : Value
  oids : List Int
  vp : Value
  ps : List Cel
  vr : Value
  rs : List Rw
  ran : Bool
  over : Bool
def PD.cells (p : PD) : List Value := [St p.text, p.vo, p.vp, p.vr, .bool p.ran, .bool p.over]
structure PD.ok (h : Heap) (p : PD) : Prop where
  oids : Rd h p.vo 1 p.oids.length (ints p.oids)
  lo : p.oids.length * 8 ≤ reachBytes
  ps : Cels h p.vp p.ps
  rs : Rws h p.vr p.rs
def PD.F (p : PD) (b : Nat) : Prop := (0 < p.oids.length ∧ p.vo.ownBlock = some b) ∨ CelsF p.vp p.ps b ∨ RwsF p.vr p.rs b
def PD.pl (p : PD) := (p.text, p.oids, p.ps.map Cel.pl, p.rs.map Rw.pl, p.ran, p.over)
theorem PD.ok.ext {h h' : Heap} {S : Nat → Prop} {p : PD} (k : p.ok h) (a : Ext S h h') (hS : ∀ b, p.F b → ¬ S b) : p.ok h' :=
  ⟨k.oids.ext' a fun b h1 h2 => hS b (.inl ⟨h1, h2⟩), k.lo, k.ps.ext a fun b hb => hS b (.inr (.inl hb)), k.rs.ext a fun b hb => hS b (.inr (.inr hb))⟩
theorem PD.ok.lt {h : Heap} {p : PD} {b : Nat} (k : p.ok h) (hb : p.F b) : b < h.size := by
  rcases hb with ⟨h1, h2⟩ | hb | hb
  · exact k.oids.lt h1 h2
  · exact k.ps.lt hb
  · exact k.rs.lt hb
theorem own_end {h h1 h2 h3 h4 h5 h6 h7 h8 h9 : Heap} {b1 b2 c3 : Nat} {A3 : Option Addr} {text : List UInt8} {oids : List Int} {ps l5 : List Cel} {rs L6 : List Rw} {v5 v6 : Value} {ran over : Bool} {T0 : TypeId}
    (_hb9 : h9[b2]? = some (.cells ⟨[St text, .slice A3 oids.length c3, v5, v6, .bool ran, .bool over]⟩ T0 (0, 0)))
    (hx3 : Ext No h2 h3) (hx4 : Ext (fun k => k = b1) h3 h4) (hx5 : Ext No h4 h5) (hx6 : Ext No h5 h6) (hx7 : Ext (fun k => k = b1) h6 h7) (hx8 : Ext (fun k => k = b1) h7 h8) (hx9 : Ext (fun k => k = b2) h8 h9) (E4 : Ext No h h4)
    (ho3 : Own h3 (.slice A3 oids.length c3) 3 1 oids.length (ints oids)) (hf3 : ∀ k, (Value.slice A3 oids.length c3).ownBlock = some k → h2.size ≤ k) (hlo : oids.length * 8 ≤ reachBytes)
    (hc5 : Cels h5 v5 l5) (hp5 : l5.map Cel.pl = ps.map Cel.pl) (hf5 : ∀ b, CelsF v5 l5 b → h4.size ≤ b) (hc6 : Rws h6 v6 L6) (hp6 : L6.map Rw.pl = rs.map Rw.pl) (hf6 : ∀ b, RwsF v6 L6 b → h5.size ≤ b)
    (hlt1 : b1 < h1.size) (hlt2 : b2 < h2.size) (hg1 : h.size ≤ b1) (hg2 : h1.size ≤ b2) (h12 : h1.size ≤ h2.size) :
    ∃ p' : PD, Value.agg ⟨[St text, .slice A3 oids.length c3, v5, v6, .bool ran, .bool over]⟩ = .agg ⟨p'.cells⟩ ∧ p'.ok h9 ∧ p'.pl = (text, oids, ps.map Cel.pl, rs.map Rw.pl, ran, over) ∧ Ext No h h9 ∧ ∀ b, p'.F b → h.size ≤ b := by
  have s3 := hx3.size
  have s4 := hx4.size
  have s5 := hx5.size
  have X69 : Ext (fun b => b = b1 ∨ b = b2) h6 h9 := ((hx7.mono fun _ _ e => .inl e).trans (hx8.mono fun _ _ e => .inl e)).trans (hx9.mono fun _ _ e => .inr e)
  have X59 : Ext (fun b => b = b1 ∨ b = b2) h5 h9 := (hx6.mono fun _ _ e => e.elim).trans X69
  have X39 : Ext (fun b => b = b1 ∨ b = b2) h3 h9 := ((hx4.mono fun _ _ e => .inl e).trans (hx5.mono fun _ _ e => e.elim)).trans X59
  have X49 : Ext (fun b => b = b1 ∨ b = b2) h4 h9 := (hx5.mono fun _ _ e => e.elim).trans X59
  refine ⟨⟨text, .slice A3 oids.length c3, oids, v5, l5, v6, L6, ran, over⟩, rfl, ⟨?_, hlo, ?_, ?_⟩, by simp [PD.pl, hp5, hp6], E4.trans' X49 fun b hb e => by omega, ?_⟩
  · exact ho3.rd.ext' X39 fun b _ e eb => by have := hf3 b e; omega
  · exact hc5.ext X59 fun b e eb => by have := hf5 b e; omega
  · exact hc6.ext X69 fun b e eb => by have := hf6 b e; omega
  · rintro b (⟨_, e⟩ | e | e)
    · have := hf3 b e; omega
    · have := hf5 b e; omega
    · have := hf6 b e; omega
set_option maxHeartbeats 2000000 in
set_option maxRecDepth 100000 in
theorem own_port {h : Heap} (p : PD) (hp : p.ok h) :
    CallsH Tryz.prog 134 ⟨[.agg ⟨p.cells⟩]⟩ h fun u h' => ∃ p' : PD, u = .agg ⟨p'.cells⟩ ∧ p'.ok h' ∧ p'.pl = p.pl ∧ Ext No h h' ∧ ∀ b, p'.F b → h.size ≤ b := by
  obtain ⟨text, vo, oids, vp, ps, vr, rs, ran, over⟩ := p
  obtain ⟨ho, hlo, hps, hrs⟩ := hp
  simp only at ho hlo hps hrs
  obtain ⟨Ao, co, rfl, _⟩ := id ho
  obtain ⟨_, ⟨_, Ap, cp, rfl, _⟩, _⟩ := id hps
  obtain ⟨_, ⟨_, Ar, cr, rfl, _⟩, _⟩ := id hrs
  dsimp only [PD.cells]
  refine calls [(0, _)] Tryz.func134 rfl Tryz.ntmps134 rfl ⟨rfl, trivial⟩ ?_
  all_goals (refine WC.sr ?_)
  all_goals (refine WL.stepR (okE_box rfl) rfl rfl rfl ?_
             rintro _ h1 ⟨b1, rfl, hg1, hb1, hx1⟩)
  all_goals (refine WL.stepR (okE_alloc (fun w => Tryz.zeroValue147 w)) rfl rfl rfl ?_
             rintro _ h2 ⟨b2, rfl, hg2, hb2, hx2⟩)
  all_goals (have hb1' := hx2.obj hb1 nos
             have hlt1 := lt_of_some hb1
             have hx12 := hx1.trans hx2)
  all_goals (refine Gn ?_)
  all_goals (refine WC.sr ?_)
  all_goals (refine Go ?_)
  all_goals (refine Ld ?_)
  all_goals (refine WL.call (vs := [_]) rfl (fun a w => Tryz.call81 a w) rfl (clone_ints oids (ho.ext0 hx12) hlo) rfl rfl rfl ?_
             rintro v3 h3 ⟨ho3, hx3, hf3⟩)
  all_goals (obtain ⟨A3, c3, rfl, _⟩ := ho3.slice
             have hb13 := hx3.obj hb1' nos)
  all_goals (refine Go ?_)
  all_goals (refine WL.stepR0 (okE_store (fun w => Tryz.sizeOf29 w) rfl rfl hb13 (Nat.le_of_ble_eq_true rfl) rfl rfl) rfl rfl ?_
             rintro _ h4 ⟨hb14, hx4⟩)
  all_goals (have hb14 : h4[b1]? = some (.cells ⟨[St text, .slice A3 oids.length c3, .slice Ap ps.length cp, .slice Ar rs.length cr, .bool ran, .bool over]⟩ 147 (0, 0)) := hb14
             have E4 : Ext No h h4 := (hx12.trans hx3).trans' hx4 (fun b hb e => by omega))
  all_goals (refine Gn ?_)
  all_goals (refine Gs [(1, _), (2, _)] ?_)
  all_goals (refine WC.seq ?_)
  all_goals (refine WC.drawH (fun h' => h'[b1]? = some (.cells ⟨[St text, .slice A3 oids.length c3, .slice Ap ps.length cp, .slice Ar rs.length cr, .bool ran, .bool over]⟩ 147 (0, 0))) 7 10 rfl fol ?_)
  all_goals (refine WH.tk 0 rfl (fun hq hC => ok_fieldAddr rfl Tryz.underlying147 rfl (fun w => Tryz.sizeOf30 w)) rfl rfl rfl ?_)
  all_goals (refine WH.tk 1 rfl (fun hq hC => ok_load (fun w => Tryz.isAgg30 w) rfl (cell_blk hC rfl)) rfl rfl rfl ?_)
  all_goals (refine WH.tk 3 rfl (fun hq hC => ok_fieldAddr rfl Tryz.underlying147 rfl (fun w => Tryz.sizeOf145 w)) rfl rfl rfl ?_)
  all_goals (refine WH.tk 4 rfl (fun hq hC => ok_load (fun w => Tryz.isAgg145 w) rfl (cell_blk hC rfl)) rfl rfl rfl ?_)
  all_goals (refine WH.one 2 (by kernel_rfl) ?_)
  all_goals (refine Comes1.call (vs := [_]) rfl rfl (fun a w => Tryz.call177 a w) rfl (row_port ps (hps.ext0 E4)) rfl rfl rfl ?_ (fun _ => by kernel_rfl)
             rintro v5 h5 ⟨l5, hc5, hp5, hx5, hf5⟩)
  all_goals (refine ⟨fun _ => hx5.obj hb14 nos, ?_⟩)
  all_goals (have hb15 := hx5.obj hb14 nos
             obtain ⟨A5, c5, rfl⟩ : ∃ A c, v5 = .slice A l5.length c := (by obtain ⟨_, ⟨_, A, c, e, _⟩, _⟩ := hc5; exact ⟨A, c, e⟩))
  all_goals (refine WH.tk 6 rfl (fun hq hC => ok_fieldAddr rfl Tryz.underlying147 rfl (fun w => Tryz.sizeOf30 w)) rfl rfl rfl ?_)
  all_goals (refine WH.one 5 (by kernel_rfl) ?_)
  all_goals (refine Comes1.call (vs := [_]) rfl rfl (fun a w => Tryz.call143 a w) rfl (table_port rs (hrs.ext0 (E4.trans hx5))) rfl rfl rfl ?_ (fun _ => by kernel_rfl)
             rintro v6 h6 ⟨L6, hc6, hp6, hx6, hf6⟩)
  all_goals (refine ⟨fun _ => hx6.obj hb15 nos, ?_⟩)
  all_goals (have hb16 := hx6.obj hb15 nos
             obtain ⟨A6, c6, rfl⟩ : ∃ A c, v6 = .slice A L6.length c := (by obtain ⟨_, ⟨_, A, c, e, _⟩, _⟩ := hc6; exact ⟨A, c, e⟩))
  all_goals (refine WH.one 7 (by kernel_rfl) ?_)
  all_goals (refine Comes1.run0 rfl (okE_store (fun w => Tryz.sizeOf30 w) rfl rfl hb16 (Nat.le_of_ble_eq_true rfl) rfl rfl) rfl rfl ?_ (fun _ => by kernel_rfl)
             rintro _ h7 ⟨hb17, hx7⟩)
  all_goals (refine ⟨fun e => (by cases e), ?_⟩)
  all_goals (refine WH.one 8 (by kernel_rfl) ?_)
  all_goals (refine Comes1.run rfl (OkP.r (ok_fieldAddr rfl Tryz.underlying147 rfl (fun w => Tryz.sizeOf145 w))) rfl rfl rfl ?_ (fun _ => by kernel_rfl)
             rintro _ hz ⟨rfl, _⟩
             subst hz)
  all_goals (refine ⟨fun e => (by cases e), ?_⟩)
  all_goals (refine WH.one 9 (by kernel_rfl) ?_)
  all_goals (refine Comes1.run0 rfl (okE_store (fun w => Tryz.sizeOf145 w) rfl rfl hb17 (Nat.le_of_ble_eq_true rfl) rfl rfl) rfl rfl ?_ (fun _ => by kernel_rfl)
             rintro _ h8 ⟨hb18, hx8⟩)
  all_goals (refine ⟨fun e => (by cases e), ?_⟩)
  all_goals (have hlt2 := lt_of_some hb2
             have hn12 : b2 ≠ b1 := by omega
             have hb28 := hx8.obj (hx7.obj (hx6.obj (hx5.obj (hx4.obj (hx3.obj hb2 nos) hn12) nos) nos) hn12) hn12)
  all_goals (refine WH.done (by kernel_rfl) ?_)
  all_goals (refine Gn ?_)
  all_goals (refine Gs [(1, _), (2, _)] ?_)
  all_goals (refine WC.sr ?_)
  all_goals (refine WL.step (ok_loadN (fun w => Tryz.isAgg147 w) (fun w => Tryz.sizeOf147 w) rfl rfl (by exact At.of_block hb18)) rfl rfl rfl ?_)
  all_goals (refine WL.stepR0 (okE_storeW (fun w => Tryz.sizeOf147 w) rfl rfl rfl hb28 rfl (by simp [Value.oneCell'])) rfl rfl ?_
             rintro _ h9 ⟨hb9, hx9⟩)
  all_goals (refine Gn ?_)
  all_goals (refine WC.ret ?_)
  all_goals (repeat' (with_reducible first | refine thenP_r ?_ | refine blockP_r ?_))
  all_goals (refine retP_1 _ ⟨⟨_, rfl, ld_blk (fun w => Tryz.isAgg147 w) (fun w => Tryz.sizeOf147 w) (by assumption) rfl⟩, trivial⟩ ?_)
  all_goals (exact own_end (text := text) (ran := ran) (over := over) hb9 hx3 hx4 hx5 hx6 hx7 hx8 hx9 E4 ho3 hf3 hlo hc5 hp5 hf5 hc6 hp6 hf6 hlt1 hlt2 hg1 hg2 hx2.size)
end Go.Proofs.YtbokngiajfdanaaGreatDoor


/-
  PORTAL (layer 28): a set that holds one portal: New, Put, Ran, Fetch.
-/
namespace Go.Proofs.YtbokngiajfdanaaGreatDoor
open Go Go.RK

set_option maxHeartbeats 2000000 in
set_option maxRecDepth 100000 in
theorem new_port {h : Heap} : CallsH Tryz.prog 20 ⟨[]⟩ h fun u h' => ∃ b m, u = .pointer (some ⟨b, 0, none⟩) ∧ h'[b]? = some (.cells ⟨[.map (some m)]⟩ 98 (0, 0)) ∧ Mp .string St h' m ([] : List (List UInt8 × Value)) ∧ h.size ≤ b ∧ h.size ≤ m ∧ Ext No h h' := by
  refine calls [] Tryz.func20 rfl Tryz.ntmps20 rfl trivial ?_
  all_goals (refine WC.sr ?_)
  all_goals (refine Go ?_)
  all_goals (refine WC.sr ?_)
  all_goals (refine WL.stepR okE_makeMap rfl rfl rfl ?_
             rintro _ h1 ⟨m1, rfl, hgm, hm1, hxm⟩)
  all_goals (refine WL.step (ok_buildF (vs := [_]) (cs := [_]) (fun | [a0] => [a0] | _ => []) rfl rfl (by kernel_rfl)) rfl rfl rfl ?_)
  all_goals (refine WL.stepR (okE_box rfl) rfl rfl rfl ?_
             rintro _ h2 ⟨b1, rfl, hg1, hb1, hx1⟩)
  all_goals (refine Go ?_)
  all_goals (refine Gt ?_)
  all_goals (exact ⟨_, _, rfl, hb1, ⟨_, _, hx1.obj hm1 id, MapKept.stamped_empty 0, rfl⟩, Nat.le_trans hxm.size hg1, hgm, hxm.trans hx1⟩)

/-- A set at block b, its map at m, its one portal of that name at p, with that data. -/
structure P1 (h : Heap) (b m p : Nat) (name : List UInt8) (d : PD) : Prop where
  set : h[b]? = some (.cells ⟨[.map (some m)]⟩ 98 (0, 0))
  map : Mp .string St h m [(name, .pointer (some ⟨p, 0, none⟩))]
  blk : h[p]? = some (.cells ⟨d.cells⟩ 147 (0, 0))
  ok : d.ok h
  apart : ∀ k, d.F k → k ≠ p
theorem P1.ne {h : Heap} {b m p : Nat} {name : List UInt8} {d : PD} (r : P1 h b m p name d) : b ≠ p ∧ m ≠ p := by
  constructor
  · rintro rfl
    have := r.set
    rw [r.blk] at this
    simp only [Option.some.injEq, Obj.cells.injEq] at this
    exact absurd this.2.1 (by decide)
  · rintro rfl
    obtain ⟨_, _, e, _⟩ := r.map
    rw [r.blk] at e
    cases e
theorem P1.ext {h h' : Heap} {b m p : Nat} {name : List UInt8} {d : PD} {S : Nat → Prop} (r : P1 h b m p name d) (a : Ext S h h') (h1 : ¬ S b) (h2 : ¬ S m) (h3 : ¬ S p) (h4 : ∀ k, d.F k → ¬ S k) : P1 h' b m p name d :=
  ⟨a.obj r.set h1, r.map.ext a h2, a.obj r.blk h3, r.ok.ext a h4, r.apart⟩
theorem pd_one {h : Heap} {d : PD} (k : d.ok h) : ∀ v ∈ d.cells, v.oneCell' = true := by
  obtain ⟨_, _, e1, _⟩ := k.oids
  obtain ⟨_, ⟨_, _, _, e2, _⟩, _⟩ := k.ps
  obtain ⟨_, ⟨_, _, _, e3, _⟩, _⟩ := k.rs
  intro v hv
  simp only [PD.cells, List.mem_cons, List.not_mem_nil, or_false] at hv
  rcases hv with rfl | rfl | rfl | rfl | rfl | rfl
  · rfl
  · rw [e1]; rfl
  · rw [e2]; rfl
  · rw [e3]; rfl
  · rfl
  · rfl
theorem rd_shut {h : Heap} {A : Option Addr} {n c sz : Nat} {xs : List Value} (r : Rd h (.slice A n c) sz n xs) : Rd h (.slice A n n) sz n xs := by
  obtain ⟨A', c', e, _, hl, hp⟩ := r
  simp only [Value.slice.injEq] at e
  obtain ⟨rfl, _, rfl⟩ := e
  exact ⟨A, n, rfl, Nat.le_refl _, hl, hp⟩
theorem rws_take {h : Heap} {A : Option Addr} {c n : Nat} {L : List Rw} (r : Rws h (.slice A L.length c) L) (hn : n ≤ L.length) : Rws h (.slice A n n) (L.take n) ∧ ∀ k, RwsF (.slice A n n) (L.take n) k → RwsF (.slice A L.length c) L k := by
  obtain ⟨r1, ⟨r2, A', c', e, hc⟩, r3⟩ := r
  simp only [Value.slice.injEq] at e
  obtain ⟨rfl, _, rfl⟩ := e
  have hl : (L.take n).length = n := by rw [List.length_take]; omega
  have hcn : c ≥ L.length := by
    obtain ⟨_, _, e, hc, _⟩ := r1
    simp only [Value.slice.injEq] at e
    omega
  refine ⟨⟨?_, ⟨by rw [hl]; omega, _, _, by rw [hl], by omega⟩, fun q hq => r3 q (List.mem_of_mem_take hq)⟩, ?_⟩
  · have := rd_shut (r1.take hn)
    rw [Nat.mul_one, ← List.map_take] at this
    rw [hl]
    exact this
  · rintro k (⟨h1, h2⟩ | ⟨q, hq, h2⟩)
    · refine .inl ⟨by omega, ?_⟩
      cases A with
      | none => cases h2
      | some a => exact h2
    · exact .inr ⟨q, List.mem_of_mem_take hq, h2⟩
theorem rws_drop {h : Heap} {A : Option Addr} {c n : Nat} {L : List Rw} (r : Rws h (.slice A L.length c) L) (hn : n ≤ L.length) : Rws h (.slice (if c = n then A else A.map (·.add (n * 1))) (L.length - n) (c - n)) (L.drop n) ∧ ∀ k, RwsF (.slice (if c = n then A else A.map (·.add (n * 1))) (L.length - n) (c - n)) (L.drop n) k → RwsF (.slice A L.length c) L k := by
  obtain ⟨r1, ⟨r2, A', c', e, hc⟩, r3⟩ := r
  simp only [Value.slice.injEq] at e
  obtain ⟨rfl, _, rfl⟩ := e
  have hl : (L.drop n).length = L.length - n := List.length_drop
  refine ⟨⟨?_, ⟨by rw [hl]; omega, _, _, by rw [hl], by omega⟩, fun q hq => r3 q (List.mem_of_mem_drop hq)⟩, ?_⟩
  · have := r1.drop hn
    rw [Nat.mul_one, ← List.map_drop] at this
    rw [hl]
    simpa using this
  · rintro k (⟨h1, h2⟩ | ⟨q, hq, h2⟩)
    · refine .inl ⟨by omega, ?_⟩
      obtain ⟨_, _, e, hcn, _⟩ := r1
      simp only [Value.slice.injEq] at e
      rw [if_neg (by omega)] at h2
      cases A with
      | none => cases h2
      | some a =>
        simp only [Option.map_some, Value.ownBlock, Option.some.injEq] at h2 ⊢
        rw [← h2]
        unfold Addr.add
        split <;> rfl
    · exact .inr ⟨q, List.mem_of_mem_drop hq, h2⟩
def PD0 : PD := ⟨[], .slice none 0 0, [], .slice none 0 0, [], .slice none 0 0, [], false, false⟩
theorem cels_zero (h : Heap) (A : Option Addr) : Cels h (.slice A 0 0) [] := ⟨⟨_, _, rfl, Nat.le_refl _, rfl, fun h => absurd h (by decide)⟩, ⟨by simp, _, _, rfl, by decide⟩, by simp⟩
theorem pd0_ok (h : Heap) : PD0.ok h := ⟨Rd.nil _ _, by simp [PD0], cels_zero h _, ⟨Rd.nil _ _, ⟨by simp [PD0], _, _, rfl, by decide⟩, by simp [PD0]⟩⟩
end Go.Proofs.YtbokngiajfdanaaGreatDoor


/-
  RANGES OVER MAPS: an iterator, what has come out of it so far, in whatever order. No program is named here.
-/
namespace Go.RK
open Go Go.MapKept Go.ChangeMaps

/-- Block r goes over the map in block m, that holds es; ds has come out so far. -/
structure ItA {κ : Type} (enc : κ → Value) (h : Heap) (r m : Nat) (es ds : List (κ × Value)) (arr : Array MapEntry) (clock since c0 : Nat) (seen : Array Nat) : Prop where
  it : h[r]? = some (.mapIter (some m) since seen c0)
  mp : h[m]? = some (.map arr clock)
  st : Stamped arr clock
  kv : arr.toList.map (fun e => (e.key, e.val)) = es.map fun p => (enc p.1, p.2)
  old : ∀ x ∈ arr.toList, x.born < since
  le : since ≤ c0
  le2 : since ≤ clock
  seen : ∀ x ∈ arr.toList, (seen.contains x.born = true ↔ ∃ p ∈ ds, (x.key, x.val) = (enc p.1, p.2))
  sub : ∀ p ∈ ds, p ∈ es
  nd : ds.Nodup
def It {κ : Type} (enc : κ → Value) (h : Heap) (r m : Nat) (es ds : List (κ × Value)) : Prop := ∃ arr clock since c0 seen, ItA enc h r m es ds arr clock since c0 seen
/-- p came out last. -/
def ItL {κ : Type} (enc : κ → Value) (h : Heap) (r m : Nat) (p : κ × Value) : Prop := ∃ arr clock since seen e, h[r]? = some (.mapIter (some m) since (Array.push seen e.born) clock) ∧ h[m]? = some (.map arr clock) ∧ (arr.toList.map (·.born)).Nodup ∧ e ∈ arr.toList ∧ e.key = enc p.1 ∧ e.val = p.2
/-- An iterator over no map. -/
def ItN (h : Heap) (r : Nat) : Prop := ∃ a s c, h[r]? = some (.mapIter Option.none a s c)
theorem key_inj {l : List MapEntry} (hn : (l.map (·.key)).Nodup) {x e : MapEntry} (hx : x ∈ l) (he : e ∈ l) (h : x.key = e.key) : x = e := by
  induction l with
  | nil => cases hx
  | cons a l ih =>
    simp only [List.map_cons, List.nodup_cons, List.mem_map, not_exists, not_and] at hn
    rcases List.mem_cons.1 hx with h1 | h1
    · rcases List.mem_cons.1 he with h2 | h2
      · rw [h1, h2]
      · exact absurd (h1 ▸ h).symm (hn.1 e h2)
    · rcases List.mem_cons.1 he with h2 | h2
      · exact absurd (h2 ▸ h) (hn.1 x h1)
      · exact ih hn.2 h1 h2

section
variable {P : Program} {f : Fr} {h h' : Heap} {d : Option Tmp} {ty : TypeId} {pos : String} {af : Array Edge} {g : Option (Nat × Bool)}
variable {κ : Type} {dsc : TypeDesc} {enc : κ → Value} {r m : Nat} {es ds : List (κ × Value)}
theorem It.ext {S : Nat → Prop} (i : It enc h r m es ds) (a : Ext S h h') (hr : ¬ S r) (hm : ¬ S m) : It enc h' r m es ds := by
  obtain ⟨arr, clock, since, c0, seen, k⟩ := i
  exact ⟨arr, clock, since, c0, seen, ⟨a.obj k.it hr, a.obj k.mp hm, k.st, k.kv, k.old, k.le, k.le2, k.seen, k.sub, k.nd⟩⟩
theorem ItL.ext {S : Nat → Prop} {p : κ × Value} (i : ItL enc h r m p) (a : Ext S h h') (hr : ¬ S r) (hm : ¬ S m) : ItL enc h' r m p := by
  obtain ⟨arr, clock, since, seen, e, h1, h2, h3⟩ := i
  exact ⟨arr, clock, since, seen, e, a.obj h1 hr, a.obj h2 hm, h3⟩
theorem It.map (i : It enc h r m es ds) : Mp dsc enc h m es := by
  obtain ⟨arr, clock, since, c0, seen, k⟩ := i
  exact ⟨arr, clock, k.mp, k.st, k.kv⟩
theorem It.lt (i : It enc h r m es ds) : r < h.size := by
  obtain ⟨arr, clock, since, c0, seen, k⟩ := i
  exact lt_of_some k.it
theorem It.sub (i : It enc h r m es ds) : ∀ p ∈ ds, p ∈ es := by
  obtain ⟨arr, clock, since, c0, seen, k⟩ := i
  exact k.sub
theorem It.nd (i : It enc h r m es ds) : ds.Nodup := by
  obtain ⟨arr, clock, since, c0, seen, k⟩ := i
  exact k.nd
theorem nodup_fst {α β : Type} {l : List (α × β)} (h : (l.map (·.1)).Nodup) : l.Nodup := by
  induction l with
  | nil => simp
  | cons a l ih =>
    simp only [List.map_cons, List.nodup_cons, List.mem_map, not_exists, not_and] at h ⊢
    exact ⟨fun ha => h.1 a ha rfl, ih h.2⟩
theorem sub_len {α : Type} {l m : List α} (h : l.Nodup) (hs : ∀ x ∈ l, x ∈ m) : l.length ≤ m.length := by
  have _inst : DecidableEq α := fun a b => Classical.propDecidable (a = b)
  induction l generalizing m with
  | nil => simp
  | cons a l ih =>
    have ha := hs a List.mem_cons_self
    have h1 := (List.nodup_cons.1 h)
    have := ih (m := m.erase a) h1.2 fun x hx => (List.mem_erase_of_ne (by intro e; subst e; exact h1.1 hx)).2 (hs x (List.mem_cons_of_mem _ hx))
    rw [List.length_erase_of_mem ha] at this
    have := List.length_pos_of_mem ha
    simp
    omega
theorem okE_range {t kt et : TypeId} {x : Operand} (hu : P.underlying t = some (.map kt et)) (hx : f.ev x = some (.map (some m))) (hm : Mp dsc enc h m es) :
    OkR P f ⟨d, .range t x, ty, pos, af, g⟩ h (fun v h' => ∃ r, v = .pointer (some ⟨r, 0, Option.none⟩) ∧ h.size ≤ r ∧ It enc h' r m es [] ∧ Ext No h h') := fun ρ w ha hw => by
  subst hw
  obtain ⟨arr, clock, hb, hs, hkv⟩ := hm
  have hr := run_range_map (P := P) w t kt et m arr clock hu hb
  refine ⟨_, w.alloc (.mapIter (some m) clock #[] clock), ⟨rfl, rfl, rfl, trivial⟩, ⟨w.heap.size, rfl, Nat.le_refl _, ⟨arr, clock, clock, clock, #[], ?_⟩, Ext.push _ _ _⟩, .inl ?_⟩
  · exact ⟨push_new _ _, (Ext.push No _ _).obj hb nos, hs, hkv, hs.1, Nat.le_refl _, Nat.le_refl _, fun x hx => by simp, by simp, by simp⟩
  · simp [execOp, ha _ _ hx, hr]
theorem okE_next (E : KeyEnc κ dsc enc) {x : Operand} (hx : f.ev x = some (.pointer (some ⟨r, 0, Option.none⟩))) (hi : It enc h r m es ds) :
    OkR P f ⟨d, .next x false, ty, pos, af, g⟩ h (fun v h' => (v = .tuple ⟨[.bool false]⟩ ∧ h' = h ∧ ds.Perm es) ∨ ∃ p, v = .tuple ⟨[.bool true, enc p.1, p.2]⟩ ∧ p ∈ es ∧ p ∉ ds ∧ It enc h' r m es (ds ++ [p]) ∧ ItL enc h' r m p ∧ Ext (fun k => k = r) h h') := fun ρ w ha hw => by
  subst hw
  obtain ⟨arr, clock, since, c0, seen, k⟩ := hi
  have hrm : r ≠ m := fun e => by have := k.it; rw [e, k.mp] at this; cases this
  have hes : es.Nodup := nodup_fst (Mp.nodup E ⟨arr, clock, k.mp, k.st, k.kv⟩)
  rcases run_next_at (P := P) w ty r m since c0 seen arr clock k.it k.mp k.old k.le with ⟨h0, hr⟩ | ⟨e, he, w1, hw1, hr⟩
  · refine ⟨_, w, .refl w, .inl ⟨rfl, rfl, ?_⟩, .inl (by simp [execOp, ha _ _ hx, hr])⟩
    refine (List.perm_ext_iff_of_nodup k.nd hes).2 fun p => ⟨k.sub p, fun hp => ?_⟩
    have : (enc p.1, p.2) ∈ arr.toList.map (fun e => (e.key, e.val)) := by rw [k.kv]; exact List.mem_map.2 ⟨p, hp, rfl⟩
    obtain ⟨x, hx1, hx2⟩ := List.mem_map.1 this
    obtain ⟨q, hq, hq2⟩ := (k.seen x hx1).1 (all_seen arr seen h0 x hx1)
    rw [hx2] at hq2
    simp only [Prod.mk.injEq] at hq2
    obtain rfl : p = q := Prod.ext (E.inj _ _ hq2.1) hq2.2
    exact hq
  · obtain ⟨he1, he2⟩ := mem_left he
    have : (e.key, e.val) ∈ es.map fun p => (enc p.1, p.2) := by rw [← k.kv]; exact List.mem_map.2 ⟨e, he1, rfl⟩
    obtain ⟨p, hp, hpe⟩ := List.mem_map.1 this
    simp only [Prod.mk.injEq] at hpe
    have hnp : p ∉ ds := fun hin => by
      have := (k.seen e he1).2 ⟨p, hin, by rw [hpe.1, hpe.2]⟩
      rw [he2] at this
      cases this
    have hheap : (setBlock w1 r (.mapIter (some m) since (seen.push e.born) clock)).heap = w.heap.setIfInBounds r (.mapIter (some m) since (seen.push e.born) clock) := by
      rcases hw1 with rfl | rfl <;> rfl
    have hlt := lt_of_some k.it
    have hit : (w.heap.setIfInBounds r (.mapIter (some m) since (seen.push e.born) clock))[r]? = some (.mapIter (some m) since (seen.push e.born) clock) := by simp [hlt]
    have hmp : (w.heap.setIfInBounds r (.mapIter (some m) since (seen.push e.born) clock))[m]? = some (.map arr clock) := by
      rw [Array.getElem?_setIfInBounds_ne hrm]
      exact k.mp
    refine ⟨_, setBlock w1 r (.mapIter (some m) since (seen.push e.born) clock), ?_, .inr ⟨p, rfl, hp, hnp, ?_, ?_, ?_⟩, .inl (by simp [execOp, ha _ _ hx, hr, hpe.1, hpe.2])⟩
    · rcases hw1 with rfl | rfl <;> exact ⟨rfl, rfl, rfl, trivial⟩
    · rw [hheap]
      refine ⟨arr, clock, since, clock, seen.push e.born, ⟨hit, hmp, k.st, k.kv, k.old, k.le2, k.le2, fun x hx1 => ?_, fun q hq => ?_, ?_⟩⟩
      · rw [contains_push]
        constructor
        · intro hc
          rw [Bool.or_eq_true] at hc
          rcases hc with hc | hc
          · obtain ⟨q, hq, hq2⟩ := (k.seen x hx1).1 hc
            exact ⟨q, List.mem_append_left _ hq, hq2⟩
          · obtain rfl := born_inj k.st.2.1 hx1 he1 (by simpa using hc)
            exact ⟨p, by simp, by rw [hpe.1, hpe.2]⟩
        · rintro ⟨q, hq, hq2⟩
          rw [Bool.or_eq_true]
          rcases List.mem_append.1 hq with hq | hq
          · exact .inl ((k.seen x hx1).2 ⟨q, hq, hq2⟩)
          · obtain rfl := List.mem_singleton.1 hq
            simp only [Prod.mk.injEq] at hq2
            obtain rfl := key_inj k.st.2.2 hx1 he1 (by rw [hq2.1, hpe.1])
            exact .inr (by simp)
      · rcases List.mem_append.1 hq with hq | hq
        · exact k.sub q hq
        · obtain rfl := List.mem_singleton.1 hq
          exact hp
      · exact List.nodup_append.2 ⟨k.nd, by simp, fun a ha b hb e => hnp (by simp at hb; subst hb; subst e; exact ha)⟩
    · rw [hheap]
      exact ⟨arr, clock, since, seen, e, hit, hmp, k.st.2.1, he1, hpe.1.symm, hpe.2.symm⟩
    · rw [hheap]
      exact Ext.set _ _ _ rfl
theorem ok_entry {x : Operand} {p : κ × Value} (hx : f.ev x = some (.pointer (some ⟨r, 0, Option.none⟩))) (hi : ItL enc h r m p) :
    OkP P f ⟨d, .entry x, ty, pos, af, g⟩ h (.tuple ⟨[enc p.1, p.2]⟩) := fun ρ w ha hw => by
  subst hw
  obtain ⟨arr, clock, since, seen, e, h1, h2, h3, h4, h5, h6⟩ := hi
  have hr := run_entry_at (P := P) w r m since seen arr clock e h1 h2 h4 h3
  simp [execOp, ha _ _ hx, hr, h5, h6]
end
end Go.RK

/-
  LISTS SORTED BY A TEXT, AND MAPS, in plain Lean: what is set, let go and found is alike in both; names sorted.
-/
namespace Go.Proofs.YtbokngiajfdanaaGreatDoor
open Go Go.RK

theorem lt_tri {a b : List UInt8} (h1 : ¬ a < b) (h2 : ¬ b < a) : a = b := List.le_antisymm (List.not_lt.1 h2) (List.not_lt.1 h1)

section
variable {α β : Type}
/-- Rising, each key once. -/
def Rise (L : List (List UInt8 × α)) : Prop := L.Pairwise fun a b => a.1 < b.1
def setL : List (List UInt8 × α) → List UInt8 → α → List (List UInt8 × α)
  | [], n, v => [(n, v)]
  | (m, w) :: L, n, v => if m < n then (m, w) :: setL L n v else if m = n then (n, v) :: L else (n, v) :: (m, w) :: L
def delL (L : List (List UInt8 × α)) (n : List UInt8) : List (List UInt8 × α) := L.filter fun p => decide (p.1 ≠ n)
def getL (L : List (List UInt8 × α)) (n : List UInt8) : Option α := (L.find? fun p => decide (p.1 = n)).map (·.2)
theorem Rise.nd {L : List (List UInt8 × α)} (h : Rise L) : (L.map (·.1)).Nodup := by
  refine List.pairwise_map.2 (h.imp fun {a b} hab e => ?_)
  rw [e] at hab
  exact List.lt_irrefl _ hab
theorem mem_setL {L : List (List UInt8 × α)} {n : List UInt8} {v : α} {p : List UInt8 × α} (h : p ∈ setL L n v) : p = (n, v) ∨ p ∈ L := by
  induction L with
  | nil => simpa [setL] using h
  | cons a L ih =>
    obtain ⟨m, w⟩ := a
    unfold setL at h
    split at h
    · rcases List.mem_cons.1 h with rfl | h
      · exact .inr List.mem_cons_self
      · exact (ih h).imp id (List.mem_cons_of_mem _)
    · split at h
      · rcases List.mem_cons.1 h with rfl | h
        · exact .inl rfl
        · exact .inr (List.mem_cons_of_mem _ h)
      · rcases List.mem_cons.1 h with rfl | h
        · exact .inl rfl
        · exact .inr h
theorem Rise.set {L : List (List UInt8 × α)} (h : Rise L) (n : List UInt8) (v : α) : Rise (setL L n v) := by
  induction L with
  | nil => simp [setL, Rise]
  | cons a L ih =>
    obtain ⟨m, w⟩ := a
    obtain ⟨h1, h2⟩ := List.pairwise_cons.1 h
    unfold setL
    split
    · rename_i hlt
      refine List.pairwise_cons.2 ⟨fun p hp => ?_, ih h2⟩
      rcases mem_setL hp with rfl | hp
      · exact hlt
      · exact h1 p hp
    · rename_i hlt
      split
      · rename_i he
        subst he
        exact List.pairwise_cons.2 ⟨h1, h2⟩
      · rename_i hne
        have hnm : n < m := by
          rcases Decidable.em (n < m) with h | h
          · exact h
          · exact absurd (lt_tri hlt h) hne
        refine List.pairwise_cons.2 ⟨fun p hp => ?_, h⟩
        rcases List.mem_cons.1 hp with rfl | hp
        · exact hnm
        · exact List.lt_trans hnm (h1 p hp)
/-! ### maps -/
def encE (f : α → Value) (E : List (List UInt8 × α)) : List (List UInt8 × Value) := E.map fun p => (p.1, f p.2)
/-- What the map has behind a set. -/
def putE (E : List (List UInt8 × α)) (n : List UInt8) (v : α) : List (List UInt8 × α) := if (getL E n).isSome = true then E.map (fun p => if p.1 = n then (n, v) else p) else E ++ [(n, v)]
/-- The names of a list, sorted. -/
def srtS (l : List (List UInt8)) : List (List UInt8) := l.mergeSort fun x y => decide (x ≤ y)
end
end Go.Proofs.YtbokngiajfdanaaGreatDoor


/-
  DERIVED: THE SHELF's CONTRACTS AT THIS DUMP, IN PLAIN WORDS (tools/lay-plain.mjs out of 'TryzShelf.lean', which tools/lay-shelf.mjs wrote): THE SAME DECLARATIONS UNDER THE SAME NAMES: 'import', 'namespace', 'open', 'def', 'theorem' AND NOTHING ELSE: no command of the shelf's: FOR A HAND-IN. Each laying: the table of numbers ('.._ren') and one theorem, a field a fact of the dump's own or the kernel's comparison; each contract: ONE APPLICATION.
-/
namespace Go.Proofs
open Go.Shelf
def Tryz.lays156_ren : Go.Shelf.Ren := ⟨fun | 156 => 171 | 165 => 202 | 166 => 203 | 169 => 176 | 240 => 204 | 241 => 214 | 276 => 215 | 277 => 222 | n => n, fun | 31 => 35 | 9 => 9 | 3 => 3 | 4 => 4 | 0 => 0 | 20 => 20 | 72 => 247 | 76 => 271 | 70 => 245 | 37 => 85 | 75 => 65 | 127 => 273 | 164 => 99 | 5 => 5 | 80 => 243 | n => n, fun | n => n⟩
theorem Tryz.lays156 : Go.Proofs.Lays.n156 Tryz.prog Tryz.lays156_ren := {
  mixed := by kernel_rfl
  f156 := Tryz.func171.trans (congrArg some (by kernel_rfl))
  f165 := Tryz.func202.trans (congrArg some (by kernel_rfl))
  f166 := Tryz.func203.trans (congrArg some (by kernel_rfl))
  f169 := Tryz.func176.trans (congrArg some (by kernel_rfl))
  f240 := Tryz.func204.trans (congrArg some (by kernel_rfl))
  f241 := Tryz.func214.trans (congrArg some (by kernel_rfl))
  f276 := Tryz.func215.trans (congrArg some (by kernel_rfl))
  f277 := Tryz.func222.trans (congrArg some (by kernel_rfl))
  t0 := Tryz.underlying0
  a0 := Tryz.isAgg0
  z0 := Tryz.sizeOf0
  v0 := Tryz.zeroValue0
  t3 := Tryz.underlying3
  a3 := Tryz.isAgg3
  z3 := Tryz.sizeOf3
  v3 := Tryz.zeroValue3
  t4 := Tryz.underlying4
  a4 := Tryz.isAgg4
  z4 := Tryz.sizeOf4
  v4 := Tryz.zeroValue4
  t9 := Tryz.underlying9
  a9 := Tryz.isAgg9
  z9 := Tryz.sizeOf9
  v9 := Tryz.zeroValue9
  t20 := Tryz.underlying20
  a20 := Tryz.isAgg20
  z20 := Tryz.sizeOf20
  v20 := Tryz.zeroValue20
  t31 := Tryz.underlying35
  a31 := Tryz.isAgg35
  z31 := Tryz.sizeOf35
  v31 := Tryz.zeroValue35
  t37 := Tryz.underlying85
  a37 := Tryz.isAgg85
  z37 := Tryz.sizeOf85
  v37 := Tryz.zeroValue85
  t70 := Tryz.underlying245
  a70 := Tryz.isAgg245
  z70 := Tryz.sizeOf245
  v70 := Tryz.zeroValue245
  t72 := Tryz.underlying247
  a72 := Tryz.isAgg247
  z72 := Tryz.sizeOf247
  v72 := Tryz.zeroValue247
  t75 := Tryz.underlying65
  a75 := Tryz.isAgg65
  z75 := Tryz.sizeOf65
  v75 := Tryz.zeroValue65
  t76 := Tryz.underlying271
  a76 := Tryz.isAgg271
  z76 := Tryz.sizeOf271
  v76 := Tryz.zeroValue271
  t127 := Tryz.underlying273
  a127 := Tryz.isAgg273
  z127 := Tryz.sizeOf273
  v127 := Tryz.zeroValue273
  t164 := Tryz.underlying99
  a164 := Tryz.isAgg99
  z164 := Tryz.sizeOf99
  v164 := Tryz.zeroValue99 }
theorem Tryz.Builder_Extra_156 : Builder.Extra Tryz.prog Tryz.lays156_ren := {
  sizeBuilder := by kernel_rfl
  liesBuilder := by kernel_rfl
  t5 := Tryz.underlying5
  a5 := Tryz.isAgg5
  z5 := Tryz.sizeOf5
  v5 := Tryz.zeroValue5
  infoByte := by kernel_rfl
  cellsByte := by kernel_rfl
  sizeByte := by kernel_rfl
  neB5 := by decide }
open Go.RowKit in
/-- strings.Join: "Join concatenates the elements of its first argument to create a single string. The separator string sep is placed between elements in the resulting string.": HOWEVER MANY ELEMENTS. Below the heap's end the world is as it was. (LAID: no walk: one application.) -/
theorem Tryz.strings_Join (bk o c : Nat) (xs : List ByteArray) (sep : ByteArray) (w : World) (hcells : ∀ (j : Nat) x, xs[j]? = some x → w.cell? ⟨bk, o + j, none⟩ = some (.string x)) (hbk : bk < w.heap.size) (hN : xs.length ≤ 140737488355328) (hcap : xs.length ≤ c) (hlen : (Lib.join (xs.map (·.data.toList)) sep.data.toList).length ≤ 140737488355328) :
    Calls Tryz.prog 171 #[.slice (some ⟨bk, o, none⟩) xs.length c, .string sep] w fun e w' => e = .returned (.string ⟨(Lib.join (xs.map (·.data.toList)) sep.data.toList).toArray⟩) ∧ Below w.heap.size w w' := Any.strings_Join Tryz.lays156 Tryz.Builder_Extra_156 bk o c xs sep w hcells hbk hN hcap hlen
def Tryz.lays137_ren : Go.Shelf.Ren := ⟨fun | 137 => 61 | 217 => 116 | 266 => 161 | n => n, fun | 9 => 9 | 5 => 5 | 3 => 3 | n => n, fun | n => n⟩
open Go.RowKit in
def Tryz.lays217_ren : Go.Shelf.Ren := ⟨fun | 217 => 116 | 266 => 161 | n => n, fun | 9 => 9 | 5 => 5 | 3 => 3 | n => n, fun | n => n⟩
theorem Tryz.lays217 : Go.Proofs.Lays.n217 Tryz.prog Tryz.lays217_ren := {
  mixed := by kernel_rfl
  f217 := Tryz.func116.trans (congrArg some (by kernel_rfl))
  f266 := Tryz.func161.trans (congrArg some (by kernel_rfl))
  t3 := Tryz.underlying3
  a3 := Tryz.isAgg3
  z3 := Tryz.sizeOf3
  v3 := Tryz.zeroValue3
  t5 := Tryz.underlying5
  a5 := Tryz.isAgg5
  z5 := Tryz.sizeOf5
  v5 := Tryz.zeroValue5
  t9 := Tryz.underlying9
  a9 := Tryz.isAgg9
  z9 := Tryz.sizeOf9
  v9 := Tryz.zeroValue9 }
open Go.RowKit Go.Lib in
/-- internal/stringslite.IndexByte (what strings.IndexByte calls): IT RETURNS 'Lib.indexByte s c'; the world is as it was. (LAID: no walk: one application.) -/
theorem Tryz.stringslite_IndexByte (s : ByteArray) (c : Int) (w : World) :
    Calls Tryz.prog 116 #[.string s, .int .u8 c] w fun e w' => e = .returned (.int .i64 (Lib.indexByte s.data.toList c.toNat.toUInt8)) ∧ w' = w := Any.stringslite_IndexByte Tryz.lays217 s c w
def Tryz.lays190_ren : Go.Shelf.Ren := ⟨fun | 190 => 26 | 125 => 59 | 258 => 58 | 128 => 113 | 129 => 114 | 302 => 104 | 303 => 105 | 304 => 106 | 305 => 107 | 306 => 108 | 307 => 109 | 308 => 110 | 309 => 111 | 310 => 112 | 333 => 155 | 329 => 156 | 330 => 157 | 334 => 158 | 335 => 159 | 336 => 160 | 344 => 198 | n => n, fun | 31 => 35 | 9 => 9 | 3 => 3 | 46 => 115 | 0 => 0 | 51 => 188 | 53 => 190 | 4 => 4 | 183 => 180 | 182 => 179 | 131 => 185 | 5 => 5 | 218 => 228 | 222 => 232 | 228 => 266 | 229 => 267 | n => n, fun | n => n⟩
theorem Tryz.lays190 : Go.Proofs.Lays.n190 Tryz.prog Tryz.lays190_ren := {
  mixed := by kernel_rfl
  f125 := Tryz.func59.trans (congrArg some (by kernel_rfl))
  f128 := Tryz.func113.trans (congrArg some (by kernel_rfl))
  f129 := Tryz.func114.trans (congrArg some (by kernel_rfl))
  f190 := Tryz.func26.trans (congrArg some (by kernel_rfl))
  f258 := Tryz.func58.trans (congrArg some (by kernel_rfl))
  f302 := Tryz.func104.trans (congrArg some (by kernel_rfl))
  f303 := Tryz.func105.trans (congrArg some (by kernel_rfl))
  f304 := Tryz.func106.trans (congrArg some (by kernel_rfl))
  f305 := Tryz.func107.trans (congrArg some (by kernel_rfl))
  f306 := Tryz.func108.trans (congrArg some (by kernel_rfl))
  f307 := Tryz.func109.trans (congrArg some (by kernel_rfl))
  f308 := Tryz.func110.trans (congrArg some (by kernel_rfl))
  f309 := Tryz.func111.trans (congrArg some (by kernel_rfl))
  f310 := Tryz.func112.trans (congrArg some (by kernel_rfl))
  f329 := Tryz.func156.trans (congrArg some (by kernel_rfl))
  f330 := Tryz.func157.trans (congrArg some (by kernel_rfl))
  f333 := Tryz.func155.trans (congrArg some (by kernel_rfl))
  f334 := Tryz.func158.trans (congrArg some (by kernel_rfl))
  f335 := Tryz.func159.trans (congrArg some (by kernel_rfl))
  f336 := Tryz.func160.trans (congrArg some (by kernel_rfl))
  f344 := Tryz.func198.trans (congrArg some (by kernel_rfl))
  t0 := Tryz.underlying0
  a0 := Tryz.isAgg0
  z0 := Tryz.sizeOf0
  v0 := Tryz.zeroValue0
  t3 := Tryz.underlying3
  a3 := Tryz.isAgg3
  z3 := Tryz.sizeOf3
  v3 := Tryz.zeroValue3
  t4 := Tryz.underlying4
  a4 := Tryz.isAgg4
  z4 := Tryz.sizeOf4
  v4 := Tryz.zeroValue4
  t5 := Tryz.underlying5
  a5 := Tryz.isAgg5
  z5 := Tryz.sizeOf5
  v5 := Tryz.zeroValue5
  t9 := Tryz.underlying9
  a9 := Tryz.isAgg9
  z9 := Tryz.sizeOf9
  v9 := Tryz.zeroValue9
  t31 := Tryz.underlying35
  a31 := Tryz.isAgg35
  z31 := Tryz.sizeOf35
  v31 := Tryz.zeroValue35
  t46 := Tryz.underlying115
  a46 := Tryz.isAgg115
  z46 := Tryz.sizeOf115
  v46 := Tryz.zeroValue115
  t51 := Tryz.underlying188
  a51 := Tryz.isAgg188
  z51 := Tryz.sizeOf188
  v51 := Tryz.zeroValue188
  t53 := Tryz.underlying190
  a53 := Tryz.isAgg190
  z53 := Tryz.sizeOf190
  v53 := Tryz.zeroValue190
  t131 := Tryz.underlying185
  a131 := Tryz.isAgg185
  z131 := Tryz.sizeOf185
  v131 := Tryz.zeroValue185
  t182 := Tryz.underlying179
  a182 := Tryz.isAgg179
  z182 := Tryz.sizeOf179
  v182 := Tryz.zeroValue179
  t183 := Tryz.underlying180
  a183 := Tryz.isAgg180
  z183 := Tryz.sizeOf180
  v183 := Tryz.zeroValue180
  t218 := Tryz.underlying228
  a218 := Tryz.isAgg228
  z218 := Tryz.sizeOf228
  v218 := Tryz.zeroValue228
  t222 := Tryz.underlying232
  a222 := Tryz.isAgg232
  z222 := Tryz.sizeOf232
  v222 := Tryz.zeroValue232
  t228 := Tryz.underlying266
  a228 := Tryz.isAgg266
  z228 := Tryz.sizeOf266
  v228 := Tryz.zeroValue266
  t229 := Tryz.underlying267
  a229 := Tryz.isAgg267
  z229 := Tryz.sizeOf267
  v229 := Tryz.zeroValue267 }
open Go.Sort Go.RowKit in
theorem Tryz.slices_Sort_string (blk off cap : Nat) (ss : List (List UInt8)) (w : World) (hH : Holds encStr w blk off ss.toArray) (hblk : blk < w.heap.size) (hsz : ss.length < 4611686018427387904) :
    Calls Tryz.prog 26 #[.slice (some ⟨blk, off, none⟩) ss.length cap] w fun e w' =>
      e = .returned (.tuple #[]) ∧ ∃ n os, w' = grow (putRow encStr (Sort.ahead w n) blk off (ss.mergeSort fun x y => decide (x ≤ y)).toArray) os := Any.slices_Sort_string Tryz.lays190 blk off cap ss w hH hblk hsz
open Go.RowKit Go.Sort in
/-- .. and plain. (LAID: no walk: one application.) -/
theorem Tryz.slices_Sort_string_none (p : Option Addr) (cap : Nat) (w : World) :
    Calls Tryz.prog 26 #[.slice p 0 cap] w fun e w' => e = .returned (.tuple #[]) ∧ w' = w := Any.slices_Sort_string_none Tryz.lays190 p cap w
def Tryz.lays187_ren : Go.Shelf.Ren := ⟨fun | 187 => 60 | 255 => 115 | n => n, fun | 37 => 85 | 5 => 5 | 3 => 3 | n => n, fun | n => n⟩
end Go.Proofs

/-
  ROWS THAT ARE TURNED IN PLACE BY THE LIBRARY's SORT AND COMPACT. No program is named here.
-/
namespace Go.RK
open Go

section
variable {h : Heap}
/-- What the library's contracts ask of a row of one's own. -/
theorem Own.holds {α : Type} [Inhabited α] (enc : α → Value) {w : World} {g n cap : Nat} {e : TypeId} {l : List α} (ho : Own w.heap (.slice (some ⟨g, 0, none⟩) n cap) e 1 n (l.map enc)) : Go.Sort.Holds enc w g 0 l.toArray := by
  obtain ⟨hl, ⟨hv, _⟩ | ⟨g0, cap0, cur, hv, hg, hn, hc, hs, htk⟩⟩ := ho
  · cases hv
  · simp only [Value.slice.injEq, Option.some.injEq, Addr.mk.injEq] at hv
    obtain ⟨⟨rfl, _, _⟩, _, rfl⟩ := hv
    intro j hj
    have hj' : j < l.length := by simpa using hj
    refine ⟨?_, ?_⟩
    · rw [cell_eq, cell_of hg, Nat.zero_add]
      have e1 : (cur.toList.take (n * 1))[j]? = (l.map enc)[j]? := by rw [htk]
      have e2 : j < n * 1 := by
        have := congrArg List.length htk
        simp at this hl
        omega
      rw [List.getElem?_take, if_pos e2, List.getElem?_map, List.getElem?_eq_getElem hj'] at e1
      rw [← Array.getElem?_toList, e1]
      simp [hj']
    · unfold World.frozen?
      simp only [hg]
      simp
theorem sorted_heap {α : Type} [Inhabited α] (enc : α → Value) {w : World} {g n cap q : Nat} {e : TypeId} {l l' : List α} {os : Array Obj} (ho : Own w.heap (.slice (some ⟨g, 0, none⟩) n cap) e 1 n (l.map enc)) (hl : l'.length = n) :
    Own (Go.Sort.grow (Go.Sort.putRow enc (Go.Sort.ahead w q) g 0 l'.toArray) os).heap (.slice (some ⟨g, 0, none⟩) n cap) e 1 n (l'.map enc) ∧ Ext (fun k => k = g) w.heap (Go.Sort.grow (Go.Sort.putRow enc (Go.Sort.ahead w q) g 0 l'.toArray) os).heap := by
  obtain ⟨hl0, ⟨hv, _⟩ | ⟨g0, cap0, cur, hv, hg, hn, hc, hs, htk⟩⟩ := ho
  · cases hv
  · simp only [Value.slice.injEq, Option.some.injEq, Addr.mk.injEq] at hv
    obtain ⟨⟨rfl, _, _⟩, _, rfl⟩ := hv
    have hlt := lt_of_some hg
    have hm : (w.heap.modify g (Go.Sort.onCells (Go.Sort.putCells enc 0 l'.toArray)) ++ os)[g]? = some (.cells (Go.Sort.putCells enc 0 l'.toArray cur) e (0, 0)) := by
      rw [Array.getElem?_append, if_pos (by simpa using hlt), Array.getElem?_modify, if_pos rfl, hg]
      rfl
    refine ⟨⟨by simp [hl], .inr ⟨g, cap, _, rfl, hm, hn, hc, by simp [Go.Sort.putCells, hs], ?_⟩⟩, ⟨by show w.heap.size ≤ (w.heap.modify g _ ++ os).size; simp, fun b hb hne => ?_⟩⟩
    · apply List.ext_getElem?
      intro j
      simp only [Nat.mul_one, List.getElem?_take, Array.getElem?_toList, Go.Sort.putCells, Array.getElem?_mapIdx, List.getElem?_map]
      by_cases hj : j < n
      · have hjc : j < cur.size := by omega
        have hjl : j < l'.length := by omega
        simp [hj, hjc, hjl]
      · rw [if_neg hj, List.getElem?_eq_none (by omega)]
        rfl
    · show (w.heap.modify g _ ++ os)[b]? = _
      rw [Array.getElem?_append, if_pos (by simpa using hb), Array.getElem?_modify, if_neg (fun e => hne e.symm)]
theorem Own.slice' {v : Value} {e : TypeId} {sz n : Nat} {xs : List Value} (ho : Own h v e sz n xs) : (v = .slice none 0 0 ∧ n = 0) ∨ ∃ g cap, v = .slice (some ⟨g, 0, none⟩) n cap := by
  obtain ⟨_, h0 | ⟨g, cap, cur, hv, _⟩⟩ := ho
  · exact .inl h0
  · exact .inr ⟨g, cap, hv⟩
end
end Go.RK

/-
  PORTAL (layer 28): one portal among those of a set: found by its name.
-/
namespace Go.Proofs.YtbokngiajfdanaaGreatDoor
open Go Go.RK

/-- A set at block b, its map at m, of entries es; its portal of that name at p, with that data. -/
structure Pe (h : Heap) (b m : Nat) (es : List (List UInt8 × Value)) (p : Nat) (name : List UInt8) (d : PD) : Prop where
  set : h[b]? = some (.cells ⟨[.map (some m)]⟩ 98 (0, 0))
  map : Mp .string St h m es
  look : alook es name = some (.pointer (some ⟨p, 0, none⟩))
  blk : h[p]? = some (.cells ⟨d.cells⟩ 147 (0, 0))
  ok : d.ok h
  apart : ∀ k, d.F k → k ≠ p
theorem Pe.ne {es : List (List UInt8 × Value)} {h : Heap} {b m p : Nat} {name : List UInt8} {d : PD} (r : Pe h b m es p name d) : b ≠ p ∧ m ≠ p := by
  constructor
  · rintro rfl
    have := r.set
    rw [r.blk] at this
    simp only [Option.some.injEq, Obj.cells.injEq] at this
    exact absurd this.2.1 (by decide)
  · rintro rfl
    obtain ⟨_, _, e, _⟩ := r.map
    rw [r.blk] at e
    cases e
set_option maxHeartbeats 2000000 in
set_option maxRecDepth 100000 in
theorem of_e {es : List (List UInt8 × Value)} {h : Heap} {b m p : Nat} {name : List UInt8} {d : PD} (r : Pe h b m es p name d) :
    CallsH Tryz.prog 142 ⟨[.pointer (some ⟨b, 0, none⟩), St name]⟩ h fun u h' => u = .tuple ⟨[.pointer (some ⟨p, 0, none⟩), .bool true]⟩ ∧ h' = h := by
  obtain ⟨hb, hm, hv, _⟩ := r
  refine calls [(0, _), (1, _)] Tryz.func142 rfl Tryz.ntmps142 rfl ⟨rfl, rfl, trivial⟩ ?_
  all_goals (refine WC.sr ?_)
  all_goals (refine Go ?_)
  all_goals (refine WC.seq ?_)
  all_goals (refine WC.sr ?_)
  all_goals (refine Go ?_)
  all_goals (refine WL.step (ok_eqlPn Tryz.underlying51 rfl rfl) rfl rfl rfl ?_)
  all_goals (refine Go ?_)
  all_goals (refine goP 10 ?_ ?_ <;> first | exact ⟨⟩ | refine Hb.mk fun hb => ?_ | skip)
  all_goals (refine Gg ?_)
  all_goals (first | (refine WL.pass rfl rfl rfl ?_) | (refine WL.step (ok_nilCheck rfl) rfl rfl rfl ?_))
  all_goals (refine Gg ?_)
  all_goals (first | (refine WL.pass rfl rfl rfl ?_) | (refine Ld ?_))
  all_goals (first | (refine WL.pass rfl rfl rfl ?_) | (refine WL.step (ok_eqlMn Tryz.underlying96 rfl rfl) rfl rfl rfl ?_))
  all_goals (refine Go ?_)
  all_goals (refine Gs [(0, _), (1, _), (16, _)] ?_)
  all_goals (refine goC 1 2 ?_ ?_ <;> first | exact ⟨⟩ | refine Hb.mk fun hb => ?_ | skip)
  all_goals (first | (fail_if_success refine goB 1 ?_) | (
  refine goB 1 ?_
  all_goals (refine WC.sr ?_)
  all_goals (refine Go ?_)
  all_goals (refine Gt ?_)
  all_goals (exact ⟨rfl, rfl⟩)
  skip))
  all_goals (first | (fail_if_success refine goB 2 ?_) | (
  refine goB 2 ?_
  all_goals (refine WC.skip ?_)
  skip))
  all_goals (refine Gn ?_)
  all_goals (refine WC.sr ?_)
  all_goals (refine Go ?_)
  all_goals (refine WL.step (ok_nilCheck rfl) rfl rfl rfl ?_)
  all_goals (refine Go ?_)
  all_goals (refine Ld ?_)
  all_goals (refine Go ?_)
  all_goals (first | (refine WL.step ((ok_lookup keyS Tryz.underlying96 Tryz.underlying9 rfl rfl (by assumption) (by assumption)).1) rfl rfl rfl ?_) | (refine WL.step ((ok_lookup_no keyS Tryz.underlying96 Tryz.underlying9 (fun w => Tryz.zeroValue208 w) rfl rfl (by assumption) (by assumption)).1) rfl rfl rfl ?_) | (refine WL.step ((ok_lookup_nil keyS Tryz.underlying96 Tryz.underlying9 (fun w => Tryz.zeroValue208 w) rfl rfl).1) rfl rfl rfl ?_))
  all_goals (refine Go ?_)
  all_goals (refine Gs [(6, _), (7, _)] ?_)
  all_goals (refine WC.sr ?_)
  all_goals (refine Go ?_)
  all_goals (refine Gs [(4, _), (5, _)] ?_)
  all_goals (refine Gt ?_)
  all_goals (exact ⟨rfl, rfl⟩)
set_option maxHeartbeats 2000000 in
set_option maxRecDepth 100000 in
theorem ran_e {es : List (List UInt8 × Value)} {h : Heap} {b m p : Nat} {name : List UInt8} {d : PD} {v : Value} (r : Pe h b m es p name d) (L : List Rw) (hd : d.ran = false) (hL : Rws h v L) :
    CallsH Tryz.prog 91 ⟨[.pointer (some ⟨b, 0, none⟩), St name, v]⟩ h fun u h' => u = .bool true ∧ ∃ v' L', Pe h' b m es p name { d with vr := v', rs := L', ran := true } ∧ L'.map Rw.pl = L.map Rw.pl ∧ (∀ k, RwsF v' L' k → h.size ≤ k) ∧ Ext (fun k => k = p) h h' := by
  have hne := r.ne
  have hdF := r.apart
  have hof := of_e r
  obtain ⟨hb, hm, hlk, hp, hok, _⟩ := r
  have hpl := lt_of_some hp
  obtain ⟨text, vo, oids, vp, ps, vr, rs, ran, over⟩ := d
  simp only at hd
  subst hd
  dsimp only [PD.cells] at hp
  refine calls [(0, _), (1, _), (2, _)] Tryz.func91 rfl Tryz.ntmps91 rfl ⟨rfl, rfl, rfl, trivial⟩ ?_
  all_goals (refine WC.sr ?_)
  all_goals (refine Go ?_)
  all_goals (refine WC.sr ?_)
  all_goals (refine Go ?_)
  all_goals (refine WL.call (vs := [_, _]) rfl (fun a w => Tryz.call142 a w) rfl (hof) rfl rfl rfl ?_
             rintro _ hz ⟨rfl, _⟩
             subst hz)
  all_goals (refine Go ?_)
  all_goals (refine Gs [(2, _), (7, _), (8, _)] ?_)
  all_goals (refine WC.seq ?_)
  all_goals (refine WC.sr ?_)
  all_goals (refine Go ?_)
  all_goals (refine goP 17 ?_ ?_ <;> first | exact ⟨⟩ | refine Hb.mk fun hb => ?_ | skip)
  all_goals (refine Gg ?_)
  all_goals (first | (refine WL.pass rfl rfl rfl ?_) | (refine WL.step (ok_nilCheck rfl) rfl rfl rfl ?_))
  all_goals (refine Gg ?_)
  all_goals (first | (refine WL.pass rfl rfl rfl ?_) | (refine Ld ?_))
  all_goals (refine Go ?_)
  all_goals (refine Gs [(2, _), (7, _), (22, _)] ?_)
  all_goals (refine goC 1 2 ?_ ?_ <;> first | exact ⟨⟩ | refine Hb.mk fun hb => ?_ | skip)
  all_goals (first | (fail_if_success refine goB 1 ?_) | (
  refine goB 1 ?_
  all_goals (refine WC.sr ?_)
  all_goals (refine Go ?_)
  all_goals (refine Gt ?_)
  all_goals (exact ⟨rfl, _, L2, ⟨hx04.obj hb hne.1, hm.ext hx04 hne.2, hlk, hb4, ⟨hok.oids.ext' hx04 (fun k h1 h2 e => hdF k (.inl ⟨h1, h2⟩) e), hok.lo, hok.ps.ext hx04 (fun k hk e => hdF k (.inr (.inl hk)) e), hR2.ext hx24 (fun k hk e => by have := hf2 k hk; omega)⟩, fun k hk e => by rcases hk with hk | hk | hk; exact hdF k (.inl hk) e; exact hdF k (.inr (.inl hk)) e; have := hf2 k hk; omega⟩, hp2, hf2, hx04⟩)
  skip))
  all_goals (first | (fail_if_success refine goB 2 ?_) | (
  refine goB 2 ?_
  all_goals (refine WC.skip ?_)
  skip))
  all_goals (refine Gn ?_)
  all_goals (refine WC.sr ?_)
  all_goals (refine Go ?_)
  all_goals (refine WL.call (vs := [_]) rfl (fun a w => Tryz.call143 a w) rfl (table_port L hL) rfl rfl rfl ?_
             rintro v2 h2 ⟨L2, hR2, hp2, hx2, hf2⟩)
  all_goals (obtain ⟨A2, c2, rfl⟩ : ∃ A c, v2 = .slice A L2.length c := (by obtain ⟨_, ⟨_, A, c, e, _⟩, _⟩ := hR2; exact ⟨A, c, e⟩))
  all_goals (refine WL.step (ok_nilCheck rfl) rfl rfl rfl ?_)
  all_goals (refine Go ?_)
  all_goals (refine WL.stepR0 (okE_store (fun w => Tryz.sizeOf4 w) rfl rfl (hx2.obj hp nos) (Nat.le_of_ble_eq_true rfl) rfl rfl) rfl rfl ?_
             rintro _ h3 ⟨hb3, hx3⟩)
  all_goals (refine WL.step (ok_nilCheck rfl) rfl rfl rfl ?_)
  all_goals (refine Go ?_)
  all_goals (refine WL.stepR0 (okE_store (fun w => Tryz.sizeOf145 w) rfl rfl hb3 (Nat.le_of_ble_eq_true rfl) rfl rfl) rfl rfl ?_
             rintro _ h4 ⟨hb4, hx4⟩)
  all_goals (have hx24 := hx3.trans hx4
             have hx04 := (hx2.mono (S' := fun k => k = p) (fun _ _ e => e.elim)).trans hx24)
  all_goals (refine Gn ?_)
  all_goals (refine Gs [] ?_)
  all_goals (refine WC.sr ?_)
  all_goals (refine Go ?_)
  all_goals (refine Gt ?_)
  all_goals (exact ⟨rfl, _, L2, ⟨hx04.obj hb hne.1, hm.ext hx04 hne.2, hlk, hb4, ⟨hok.oids.ext' hx04 (fun k h1 h2 e => hdF k (.inl ⟨h1, h2⟩) e), hok.lo, hok.ps.ext hx04 (fun k hk e => hdF k (.inr (.inl hk)) e), hR2.ext hx24 (fun k hk e => by have := hf2 k hk; omega)⟩, fun k hk e => by rcases hk with hk | hk | hk; exact hdF k (.inl hk) e; exact hdF k (.inr (.inl hk)) e; have := hf2 k hk; omega⟩, hp2, hf2, hx04⟩)
set_option maxHeartbeats 2000000 in
set_option maxRecDepth 100000 in
theorem ran_eno {es : List (List UInt8 × Value)} {h : Heap} {b m p : Nat} {name : List UInt8} {d : PD} {v : Value} (r : Pe h b m es p name d) (hd : d.ran = true) :
    CallsH Tryz.prog 91 ⟨[.pointer (some ⟨b, 0, none⟩), St name, v]⟩ h fun u h' => u = .bool false ∧ h' = h := by
  have hof := of_e r
  obtain ⟨hb, hm, hlk, hp, hok, _⟩ := r
  obtain ⟨text, vo, oids, vp, ps, vr, rs, ran, over⟩ := d
  simp only at hd
  subst hd
  dsimp only [PD.cells] at hp
  refine calls [(0, _), (1, _), (2, _)] Tryz.func91 rfl Tryz.ntmps91 rfl ⟨rfl, rfl, rfl, trivial⟩ ?_
  all_goals (refine WC.sr ?_)
  all_goals (refine Go ?_)
  all_goals (refine WC.sr ?_)
  all_goals (refine Go ?_)
  all_goals (refine WL.call (vs := [_, _]) rfl (fun a w => Tryz.call142 a w) rfl (hof) rfl rfl rfl ?_
             rintro _ hz ⟨rfl, _⟩
             subst hz)
  all_goals (refine Go ?_)
  all_goals (refine Gs [(2, _), (7, _), (8, _)] ?_)
  all_goals (refine WC.seq ?_)
  all_goals (refine WC.sr ?_)
  all_goals (refine Go ?_)
  all_goals (refine goP 17 ?_ ?_ <;> first | exact ⟨⟩ | refine Hb.mk fun hb => ?_ | skip)
  all_goals (refine Gg ?_)
  all_goals (first | (refine WL.pass rfl rfl rfl ?_) | (refine WL.step (ok_nilCheck rfl) rfl rfl rfl ?_))
  all_goals (refine Gg ?_)
  all_goals (first | (refine WL.pass rfl rfl rfl ?_) | (refine Ld ?_))
  all_goals (refine Go ?_)
  all_goals (refine Gs [(2, _), (7, _), (22, _)] ?_)
  all_goals (refine goC 1 2 ?_ ?_ <;> first | exact ⟨⟩ | refine Hb.mk fun hb => ?_ | skip)
  all_goals (first | (fail_if_success refine goB 1 ?_) | (
  refine goB 1 ?_
  all_goals (refine WC.sr ?_)
  all_goals (refine Go ?_)
  all_goals (refine Gt ?_)
  all_goals (exact ⟨rfl, rfl⟩)
  skip))
  all_goals (first | (fail_if_success refine goB 2 ?_) | (
  refine goB 2 ?_
  all_goals (refine WC.skip ?_)
  skip))
  all_goals (refine Gn ?_)
  all_goals (refine WC.sr ?_)
  all_goals (refine Go ?_)
  all_goals (fail "no contract for call of remuda/portal.table at 4.3")
  all_goals (refine WL.step (ok_nilCheck rfl) rfl rfl rfl ?_)
  all_goals (refine Go ?_)
  all_goals (refine WL.stepR0 (okE_store (fun w => Tryz.sizeOf4 w) rfl rfl (by assumption) (Nat.le_of_ble_eq_true rfl) rfl rfl) rfl rfl ?_
             rintro _ h1 ⟨hb1, hx1⟩)
  all_goals (refine WL.step (ok_nilCheck rfl) rfl rfl rfl ?_)
  all_goals (refine Go ?_)
  all_goals (refine WL.stepR0 (okE_store (fun w => Tryz.sizeOf145 w) rfl rfl (by assumption) (Nat.le_of_ble_eq_true rfl) rfl rfl) rfl rfl ?_
             rintro _ h1 ⟨hb1, hx1⟩)
  all_goals (refine Gn ?_)
  all_goals (refine Gs [] ?_)
  all_goals (refine WC.sr ?_)
  all_goals (refine Go ?_)
  all_goals (refine Gt ?_)
  all_goals (exact ⟨rfl, rfl⟩)
theorem fetch_endE {es : List (List UInt8 × Value)} {h h' : Heap} {b m p n c0 : Nat} {A0 : Option Addr} {name text : List UInt8} {vo vp : Value} {oids : List Int} {ps : List Cel} {rs : List Rw} (hb : h[b]? = some (.cells ⟨[.map (some m)]⟩ 98 (0, 0))) (hm : Mp .string St h m es) (hlk : alook es name = some (.pointer (some ⟨p, 0, none⟩))) (hne : b ≠ p ∧ m ≠ p)
    (hdF : ∀ k, PD.F ⟨text, vo, oids, vp, ps, .slice A0 rs.length c0, rs, true, false⟩ k → k ≠ p) (hok : PD.ok h ⟨text, vo, oids, vp, ps, .slice A0 rs.length c0, rs, true, false⟩) (hn : n ≤ rs.length) (hx : Ext (fun k => k = p) h h')
    (hb4 : h'[p]? = some (.cells ⟨[St text, vo, vp, .slice (if c0 = n then A0 else A0.map (·.add (n * 1))) (rs.length - n) (c0 - n), .bool true, .bool (decide (((rs.length - n : Nat) : Int) = 0))]⟩ 147 (0, 0))) :
    ∃ wo vr', Value.tuple ⟨[.slice A0 n n, .bool (!decide (((rs.length - n : Nat) : Int) = 0))]⟩ = .tuple ⟨[wo, .bool (!decide (((rs.length - n : Nat) : Int) = 0))]⟩ ∧ Rws h' wo (rs.take n) ∧ Pe h' b m es p name ⟨text, vo, oids, vp, ps, vr', rs.drop n, true, decide (((rs.length - n : Nat) : Int) = 0)⟩ ∧ (∀ k, RwsF wo (rs.take n) k → RwsF (.slice A0 rs.length c0) rs k) ∧ (∀ k, RwsF vr' (rs.drop n) k → RwsF (.slice A0 rs.length c0) rs k) ∧ Ext (fun k => k = p) h h' := by
  obtain ⟨t1, t2⟩ := rws_take hok.rs hn
  obtain ⟨d1, d2⟩ := rws_drop hok.rs hn
  refine ⟨_, _, rfl, t1.ext hx fun k hk e => hdF k (.inr (.inr (t2 k hk))) e, ⟨hx.obj hb hne.1, hm.ext hx hne.2, hlk, hb4, ⟨hok.oids.ext' hx (fun k h1 h2 e => hdF k (.inl ⟨h1, h2⟩) e), hok.lo, hok.ps.ext hx (fun k hk e => hdF k (.inr (.inl hk)) e), d1.ext hx fun k hk e => hdF k (.inr (.inr (d2 k hk))) e⟩, fun k hk e => ?_⟩, t2, d2, hx⟩
  rcases hk with hk | hk | hk
  · exact hdF k (.inl hk) e
  · exact hdF k (.inr (.inl hk)) e
  · exact hdF k (.inr (.inr (d2 k hk))) e
set_option maxHeartbeats 2000000 in
set_option maxRecDepth 100000 in
theorem fetch_allE {es : List (List UInt8 × Value)} {h : Heap} {b m p : Nat} {name : List UInt8} {d : PD} (r : Pe h b m es p name d) (most : Int) (hmo : ¬ 0 < most) (hd : d.ran = true) (hv : d.over = false) :
    CallsH Tryz.prog 94 ⟨[.pointer (some ⟨b, 0, none⟩), St name, In most]⟩ h fun u h' => ∃ vo vr', u = .tuple ⟨[vo, .bool (!decide (((d.rs.length - d.rs.length : Nat) : Int) = 0))]⟩ ∧ Rws h' vo (d.rs.take d.rs.length) ∧ Pe h' b m es p name { d with vr := vr', rs := d.rs.drop d.rs.length, over := decide (((d.rs.length - d.rs.length : Nat) : Int) = 0) } ∧ (∀ k, RwsF vo (d.rs.take d.rs.length) k → RwsF d.vr d.rs k) ∧ (∀ k, RwsF vr' (d.rs.drop d.rs.length) k → RwsF d.vr d.rs k) ∧ Ext (fun k => k = p) h h' := by
  have hne := r.ne
  have hdF := r.apart
  have hof := of_e r
  obtain ⟨hb, hm, hlk, hp, hok, _⟩ := r
  obtain ⟨text, vo, oids, vp, ps, vr, rs, ran, over⟩ := d
  simp only at hd hv
  subst hd
  subst hv
  obtain ⟨A0, c0, rfl, _⟩ : ∃ A c, vr = .slice A rs.length c ∧ c ≤ maxLen := hok.rs.2.1.2
  dsimp only [PD.cells] at hp
  have hlr := hok.rs.2.1.1
  simp only at hlr
  unfold reachBytes at hlr
  have hcn : rs.length ≤ c0 := by
    obtain ⟨A', c', e, hc, _⟩ := hok.rs.1
    simp only [Value.slice.injEq] at e
    obtain ⟨_, _, rfl⟩ := e
    exact hc
  refine calls [(0, _), (1, _), (2, _)] Tryz.func94 rfl Tryz.ntmps94 rfl ⟨rfl, rfl, rfl, trivial⟩ ?_
  all_goals (refine WC.sr ?_)
  all_goals (refine Go ?_)
  all_goals (refine WC.sr ?_)
  all_goals (refine Go ?_)
  all_goals (refine WL.call (vs := [_, _]) rfl (fun a w => Tryz.call142 a w) rfl (hof) rfl rfl rfl ?_
             rintro _ hz ⟨rfl, _⟩
             subst hz)
  all_goals (refine Go ?_)
  all_goals (refine Gs [(2, _), (8, _), (9, _)] ?_)
  all_goals (refine WC.seq ?_)
  all_goals (refine WC.sr ?_)
  all_goals (refine Go ?_)
  all_goals (refine goP 20 ?_ ?_ <;> first | exact ⟨⟩ | refine Hb.mk fun hb => ?_ | skip)
  all_goals (refine Gg ?_)
  all_goals (first | (refine WL.pass rfl rfl rfl ?_) | (refine WL.step (ok_nilCheck rfl) rfl rfl rfl ?_))
  all_goals (refine Gg ?_)
  all_goals (first | (refine WL.pass rfl rfl rfl ?_) | (refine Ld ?_))
  all_goals (refine Gg ?_)
  all_goals (refine Go ?_)
  all_goals (refine goP 27 ?_ ?_ <;> first | exact ⟨⟩ | refine Hb.mk fun hb => ?_ | skip)
  all_goals (refine Gg ?_)
  all_goals (first | (refine WL.pass rfl rfl rfl ?_) | (refine WL.step (ok_nilCheck rfl) rfl rfl rfl ?_))
  all_goals (refine Gg ?_)
  all_goals (first | (refine WL.pass rfl rfl rfl ?_) | (refine Ld ?_))
  all_goals (refine Go ?_)
  all_goals (refine Gs [(2, _), (8, _), (32, _)] ?_)
  all_goals (refine goC 1 2 ?_ ?_ <;> first | exact ⟨⟩ | refine Hb.mk fun hb => ?_ | skip)
  all_goals (first | (fail_if_success refine goB 1 ?_) | (
  refine goB 1 ?_
  all_goals (refine WC.sr ?_)
  all_goals (refine Go ?_)
  all_goals (refine Gt ?_)
  all_goals (exact fetch_endE (n := rs.length) hb hm hlk hne hdF hok (by omega) (hx3.trans hx4) hb4)
  skip))
  all_goals (first | (fail_if_success refine goB 2 ?_) | (
  refine goB 2 ?_
  all_goals (refine WC.skip ?_)
  skip))
  all_goals (refine Gn ?_)
  all_goals (refine WC.sr ?_)
  all_goals (refine Go ?_)
  all_goals (refine WL.step (ok_nilCheck rfl) rfl rfl rfl ?_)
  all_goals (refine Go ?_)
  all_goals (refine Ld ?_)
  all_goals (refine Go ?_)
  all_goals (refine Gs [(2, _), (8, _), (10, _)] ?_)
  all_goals (refine WC.seq ?_)
  all_goals (refine WC.sr ?_)
  all_goals (refine Go ?_)
  all_goals (refine goC 3 4 ?_ ?_ <;> first | exact ⟨⟩ | refine Hb.mk fun hb => ?_ | skip)
  all_goals (first | (fail_if_success refine goB 3 ?_) | (
  refine goB 3 ?_
  all_goals (refine WC.region ?_)
  all_goals (refine Go ?_)
  all_goals (refine WL.step (ok_min2 rfl rfl) rfl rfl rfl ?_)
  all_goals (refine Go ?_)
  skip))
  all_goals (first | (fail_if_success refine goB 4 ?_) | (
  refine goB 4 ?_
  all_goals (refine WC.skip ?_)
  skip))
  all_goals (refine Gn ?_)
  all_goals (refine WC.sr ?_)
  all_goals (refine Go ?_)
  all_goals (refine WL.step (ok_nilCheck rfl) rfl rfl rfl ?_)
  all_goals (refine Go ?_)
  all_goals (refine Ld ?_)
  all_goals (refine Go ?_)
  all_goals (first | (refine WL.step (ok_slice_hmN Tryz.underlying145 (fun w => Tryz.sizeOf30 w) rfl rfl rfl (by omega)) rfl rfl rfl ?_) | (refine WL.step (ok_slice_hm Tryz.underlying145 (fun w => Tryz.sizeOf30 w) rfl rfl rfl (by omega)) rfl rfl rfl ?_))
  all_goals (refine Go ?_)
  all_goals (refine Gs [(8, _), (10, _), (11, _)] ?_)
  all_goals (refine WC.sr ?_)
  all_goals (refine Go ?_)
  all_goals (refine WL.step (ok_nilCheck rfl) rfl rfl rfl ?_)
  all_goals (refine Go ?_)
  all_goals (refine Ld ?_)
  all_goals (refine Go ?_)
  all_goals (first | (refine WL.step (ok_slice_lN Tryz.underlying145 (fun w => Tryz.sizeOf30 w) rfl rfl (by omega)) rfl rfl rfl ?_) | (refine WL.step (ok_slice_lS Tryz.underlying145 (fun w => Tryz.sizeOf30 w) rfl rfl (by omega)) rfl rfl rfl ?_) | (refine WL.step (ok_slice_l Tryz.underlying145 (fun w => Tryz.sizeOf30 w) rfl rfl (by omega)) rfl rfl rfl ?_))
  all_goals (refine WL.step (ok_nilCheck rfl) rfl rfl rfl ?_)
  all_goals (refine Go ?_)
  all_goals (refine WL.stepR0 (okE_store (fun w => Tryz.sizeOf145 w) rfl rfl hp (Nat.le_of_ble_eq_true rfl) rfl rfl) rfl rfl ?_
             rintro _ h3 ⟨hb3, hx3⟩)
  all_goals (refine Gn ?_)
  all_goals (refine Gs [(8, _), (11, _)] ?_)
  all_goals (refine WC.sr ?_)
  all_goals (refine Go ?_)
  all_goals (refine WL.step (ok_nilCheck rfl) rfl rfl rfl ?_)
  all_goals (refine Go ?_)
  all_goals (refine Ld ?_)
  all_goals (refine WL.step (ok_lenL rfl Tryz.underlying145 rfl) rfl rfl rfl ?_)
  all_goals (refine WL.step (ok_eql rfl rfl) rfl rfl rfl ?_)
  all_goals (refine WL.step (ok_nilCheck rfl) rfl rfl rfl ?_)
  all_goals (refine Go ?_)
  all_goals (refine WL.stepR0 (okE_store (fun w => Tryz.sizeOf4 w) rfl rfl hb3 (Nat.le_of_ble_eq_true rfl) rfl rfl) rfl rfl ?_
             rintro _ h4 ⟨hb4, hx4⟩)
  all_goals (refine Gn ?_)
  all_goals (refine Gs [(8, _), (11, _)] ?_)
  all_goals (refine WC.seq ?_)
  all_goals (refine WC.drawE fol (by kernel_rfl) ?_)
  all_goals (refine WQ.stepE (ok_move rfl) rfl rfl rfl ?_)
  all_goals (refine WQ.stepE (ok_move rfl) rfl rfl rfl ?_)
  all_goals (refine WQ.stepE (ok_nilCheck rfl) rfl rfl rfl ?_)
  all_goals (refine WQ.stepE (ok_fieldAddr rfl Tryz.underlying147 rfl (fun w => Tryz.sizeOf4 w)) rfl rfl rfl ?_)
  all_goals (refine WQ.stepE (ok_load (fun w => Tryz.isAgg4 w) rfl (by first | assumption | exact cell_blk (by assumption) rfl)) rfl rfl rfl ?_)
  all_goals (refine WQ.stepE (ok_not rfl) rfl rfl rfl ?_)
  all_goals (refine WQ.stepE (ok_assign rfl) rfl rfl rfl ?_)
  all_goals (refine WQ.stepE (ok_assign rfl) rfl rfl rfl ?_)
  all_goals (refine WQ.nil ?_)
  all_goals (refine Gn ?_)
  all_goals (refine Gs [(6, _), (7, _)] ?_)
  all_goals (refine Gt ?_)
  all_goals (exact fetch_endE (n := rs.length) hb hm hlk hne hdF hok (by omega) (hx3.trans hx4) hb4)
set_option maxHeartbeats 2000000 in
set_option maxRecDepth 100000 in
theorem fetch_someE {es : List (List UInt8 × Value)} {h : Heap} {b m p n : Nat} {name : List UInt8} {d : PD} (r : Pe h b m es p name d) (most : Int) (hmo : 0 < most) (hn : min (d.rs.length : Int) most = (n : Int)) (hd : d.ran = true) (hv : d.over = false) :
    CallsH Tryz.prog 94 ⟨[.pointer (some ⟨b, 0, none⟩), St name, In most]⟩ h fun u h' => ∃ vo vr', u = .tuple ⟨[vo, .bool (!decide (((d.rs.length - n : Nat) : Int) = 0))]⟩ ∧ Rws h' vo (d.rs.take n) ∧ Pe h' b m es p name { d with vr := vr', rs := d.rs.drop n, over := decide (((d.rs.length - n : Nat) : Int) = 0) } ∧ (∀ k, RwsF vo (d.rs.take n) k → RwsF d.vr d.rs k) ∧ (∀ k, RwsF vr' (d.rs.drop n) k → RwsF d.vr d.rs k) ∧ Ext (fun k => k = p) h h' := by
  have hne := r.ne
  have hdF := r.apart
  have hof := of_e r
  obtain ⟨hb, hm, hlk, hp, hok, _⟩ := r
  obtain ⟨text, vo, oids, vp, ps, vr, rs, ran, over⟩ := d
  simp only at hd hv hn
  subst hd
  subst hv
  obtain ⟨A0, c0, rfl, _⟩ : ∃ A c, vr = .slice A rs.length c ∧ c ≤ maxLen := hok.rs.2.1.2
  dsimp only [PD.cells] at hp
  have hlr := hok.rs.2.1.1
  simp only at hlr
  unfold reachBytes at hlr
  have hcn : rs.length ≤ c0 := by
    obtain ⟨A', c', e, hc, _⟩ := hok.rs.1
    simp only [Value.slice.injEq] at e
    obtain ⟨_, _, rfl⟩ := e
    exact hc
  refine calls [(0, _), (1, _), (2, _)] Tryz.func94 rfl Tryz.ntmps94 rfl ⟨rfl, rfl, rfl, trivial⟩ ?_
  all_goals (refine WC.sr ?_)
  all_goals (refine Go ?_)
  all_goals (refine WC.sr ?_)
  all_goals (refine Go ?_)
  all_goals (refine WL.call (vs := [_, _]) rfl (fun a w => Tryz.call142 a w) rfl (hof) rfl rfl rfl ?_
             rintro _ hz ⟨rfl, _⟩
             subst hz)
  all_goals (refine Go ?_)
  all_goals (refine Gs [(2, _), (8, _), (9, _)] ?_)
  all_goals (refine WC.seq ?_)
  all_goals (refine WC.sr ?_)
  all_goals (refine Go ?_)
  all_goals (refine goP 20 ?_ ?_ <;> first | exact ⟨⟩ | refine Hb.mk fun hb => ?_ | skip)
  all_goals (refine Gg ?_)
  all_goals (first | (refine WL.pass rfl rfl rfl ?_) | (refine WL.step (ok_nilCheck rfl) rfl rfl rfl ?_))
  all_goals (refine Gg ?_)
  all_goals (first | (refine WL.pass rfl rfl rfl ?_) | (refine Ld ?_))
  all_goals (refine Gg ?_)
  all_goals (refine Go ?_)
  all_goals (refine goP 27 ?_ ?_ <;> first | exact ⟨⟩ | refine Hb.mk fun hb => ?_ | skip)
  all_goals (refine Gg ?_)
  all_goals (first | (refine WL.pass rfl rfl rfl ?_) | (refine WL.step (ok_nilCheck rfl) rfl rfl rfl ?_))
  all_goals (refine Gg ?_)
  all_goals (first | (refine WL.pass rfl rfl rfl ?_) | (refine Ld ?_))
  all_goals (refine Go ?_)
  all_goals (refine Gs [(2, _), (8, _), (32, _)] ?_)
  all_goals (refine goC 1 2 ?_ ?_ <;> first | exact ⟨⟩ | refine Hb.mk fun hb => ?_ | skip)
  all_goals (first | (fail_if_success refine goB 1 ?_) | (
  refine goB 1 ?_
  all_goals (refine WC.sr ?_)
  all_goals (refine Go ?_)
  all_goals (refine Gt ?_)
  all_goals (exact fetch_endE (n := n) hb hm hlk hne hdF hok (by omega) (hx3.trans hx4) hb4)
  skip))
  all_goals (first | (fail_if_success refine goB 2 ?_) | (
  refine goB 2 ?_
  all_goals (refine WC.skip ?_)
  skip))
  all_goals (refine Gn ?_)
  all_goals (refine WC.sr ?_)
  all_goals (refine Go ?_)
  all_goals (refine WL.step (ok_nilCheck rfl) rfl rfl rfl ?_)
  all_goals (refine Go ?_)
  all_goals (refine Ld ?_)
  all_goals (refine Go ?_)
  all_goals (refine Gs [(2, _), (8, _), (10, _)] ?_)
  all_goals (refine WC.seq ?_)
  all_goals (refine WC.sr ?_)
  all_goals (refine Go ?_)
  all_goals (refine goC 3 4 ?_ ?_ <;> first | exact ⟨⟩ | refine Hb.mk fun hb => ?_ | skip)
  all_goals (first | (fail_if_success refine goB 3 ?_) | (
  refine goB 3 ?_
  all_goals (refine WC.region ?_)
  all_goals (refine Go ?_)
  all_goals (refine WL.step (ok_min2 rfl rfl) rfl rfl rfl ?_)
  all_goals (rw [show (if most < (rs.length : Int) then most else (rs.length : Int)) = (n : Int) by (split <;> omega)])
  all_goals (refine Go ?_)
  skip))
  all_goals (first | (fail_if_success refine goB 4 ?_) | (
  refine goB 4 ?_
  all_goals (refine WC.skip ?_)
  skip))
  all_goals (refine Gn ?_)
  all_goals (refine WC.sr ?_)
  all_goals (refine Go ?_)
  all_goals (refine WL.step (ok_nilCheck rfl) rfl rfl rfl ?_)
  all_goals (refine Go ?_)
  all_goals (refine Ld ?_)
  all_goals (refine Go ?_)
  all_goals (first | (refine WL.step (ok_slice_hmN Tryz.underlying145 (fun w => Tryz.sizeOf30 w) rfl rfl rfl (by omega)) rfl rfl rfl ?_) | (refine WL.step (ok_slice_hm Tryz.underlying145 (fun w => Tryz.sizeOf30 w) rfl rfl rfl (by omega)) rfl rfl rfl ?_))
  all_goals (refine Go ?_)
  all_goals (refine Gs [(8, _), (10, _), (11, _)] ?_)
  all_goals (refine WC.sr ?_)
  all_goals (refine Go ?_)
  all_goals (refine WL.step (ok_nilCheck rfl) rfl rfl rfl ?_)
  all_goals (refine Go ?_)
  all_goals (refine Ld ?_)
  all_goals (refine Go ?_)
  all_goals (first | (refine WL.step (ok_slice_lN Tryz.underlying145 (fun w => Tryz.sizeOf30 w) rfl rfl (by omega)) rfl rfl rfl ?_) | (refine WL.step (ok_slice_lS Tryz.underlying145 (fun w => Tryz.sizeOf30 w) rfl rfl (by omega)) rfl rfl rfl ?_) | (refine WL.step (ok_slice_l Tryz.underlying145 (fun w => Tryz.sizeOf30 w) rfl rfl (by omega)) rfl rfl rfl ?_))
  all_goals (refine WL.step (ok_nilCheck rfl) rfl rfl rfl ?_)
  all_goals (refine Go ?_)
  all_goals (refine WL.stepR0 (okE_store (fun w => Tryz.sizeOf145 w) rfl rfl hp (Nat.le_of_ble_eq_true rfl) rfl rfl) rfl rfl ?_
             rintro _ h3 ⟨hb3, hx3⟩)
  all_goals (refine Gn ?_)
  all_goals (refine Gs [(8, _), (11, _)] ?_)
  all_goals (refine WC.sr ?_)
  all_goals (refine Go ?_)
  all_goals (refine WL.step (ok_nilCheck rfl) rfl rfl rfl ?_)
  all_goals (refine Go ?_)
  all_goals (refine Ld ?_)
  all_goals (refine WL.step (ok_lenL rfl Tryz.underlying145 rfl) rfl rfl rfl ?_)
  all_goals (refine WL.step (ok_eql rfl rfl) rfl rfl rfl ?_)
  all_goals (refine WL.step (ok_nilCheck rfl) rfl rfl rfl ?_)
  all_goals (refine Go ?_)
  all_goals (refine WL.stepR0 (okE_store (fun w => Tryz.sizeOf4 w) rfl rfl hb3 (Nat.le_of_ble_eq_true rfl) rfl rfl) rfl rfl ?_
             rintro _ h4 ⟨hb4, hx4⟩)
  all_goals (refine Gn ?_)
  all_goals (refine Gs [(8, _), (11, _)] ?_)
  all_goals (refine WC.seq ?_)
  all_goals (refine WC.drawE fol (by kernel_rfl) ?_)
  all_goals (refine WQ.stepE (ok_move rfl) rfl rfl rfl ?_)
  all_goals (refine WQ.stepE (ok_move rfl) rfl rfl rfl ?_)
  all_goals (refine WQ.stepE (ok_nilCheck rfl) rfl rfl rfl ?_)
  all_goals (refine WQ.stepE (ok_fieldAddr rfl Tryz.underlying147 rfl (fun w => Tryz.sizeOf4 w)) rfl rfl rfl ?_)
  all_goals (refine WQ.stepE (ok_load (fun w => Tryz.isAgg4 w) rfl (by first | assumption | exact cell_blk (by assumption) rfl)) rfl rfl rfl ?_)
  all_goals (refine WQ.stepE (ok_not rfl) rfl rfl rfl ?_)
  all_goals (refine WQ.stepE (ok_assign rfl) rfl rfl rfl ?_)
  all_goals (refine WQ.stepE (ok_assign rfl) rfl rfl rfl ?_)
  all_goals (refine WQ.nil ?_)
  all_goals (refine Gn ?_)
  all_goals (refine Gs [(6, _), (7, _)] ?_)
  all_goals (refine Gt ?_)
  all_goals (exact fetch_endE (n := n) hb hm hlk hne hdF hok (by omega) (hx3.trans hx4) hb4)
set_option maxHeartbeats 2000000 in
set_option maxRecDepth 100000 in
theorem fetch_overE {es : List (List UInt8 × Value)} {h : Heap} {b m p : Nat} {name : List UInt8} {d : PD} (r : Pe h b m es p name d) (most : Int) (hd : d.ran = true) (hv : d.over = true) :
    CallsH Tryz.prog 94 ⟨[.pointer (some ⟨b, 0, none⟩), St name, In most]⟩ h fun u h' => u = .tuple ⟨[.slice none 0 0, .bool false]⟩ ∧ h' = h := by
  have hof := of_e r
  obtain ⟨hb, hm, hlk, hp, hok, _⟩ := r
  obtain ⟨text, vo, oids, vp, ps, vr, rs, ran, over⟩ := d
  simp only at hd hv
  subst hd
  subst hv
  dsimp only [PD.cells] at hp
  refine calls [(0, _), (1, _), (2, _)] Tryz.func94 rfl Tryz.ntmps94 rfl ⟨rfl, rfl, rfl, trivial⟩ ?_
  all_goals (refine WC.sr ?_)
  all_goals (refine Go ?_)
  all_goals (refine WC.sr ?_)
  all_goals (refine Go ?_)
  all_goals (refine WL.call (vs := [_, _]) rfl (fun a w => Tryz.call142 a w) rfl (hof) rfl rfl rfl ?_
             rintro _ hz ⟨rfl, _⟩
             subst hz)
  all_goals (refine Go ?_)
  all_goals (refine Gs [(2, _), (8, _), (9, _)] ?_)
  all_goals (refine WC.seq ?_)
  all_goals (refine WC.sr ?_)
  all_goals (refine Go ?_)
  all_goals (refine goP 20 ?_ ?_ <;> first | exact ⟨⟩ | refine Hb.mk fun hb => ?_ | skip)
  all_goals (refine Gg ?_)
  all_goals (first | (refine WL.pass rfl rfl rfl ?_) | (refine WL.step (ok_nilCheck rfl) rfl rfl rfl ?_))
  all_goals (refine Gg ?_)
  all_goals (first | (refine WL.pass rfl rfl rfl ?_) | (refine Ld ?_))
  all_goals (refine Gg ?_)
  all_goals (refine Go ?_)
  all_goals (refine goP 27 ?_ ?_ <;> first | exact ⟨⟩ | refine Hb.mk fun hb => ?_ | skip)
  all_goals (refine Gg ?_)
  all_goals (first | (refine WL.pass rfl rfl rfl ?_) | (refine WL.step (ok_nilCheck rfl) rfl rfl rfl ?_))
  all_goals (refine Gg ?_)
  all_goals (first | (refine WL.pass rfl rfl rfl ?_) | (refine Ld ?_))
  all_goals (refine Go ?_)
  all_goals (refine Gs [(2, _), (8, _), (32, _)] ?_)
  all_goals (refine goC 1 2 ?_ ?_ <;> first | exact ⟨⟩ | refine Hb.mk fun hb => ?_ | skip)
  all_goals (first | (fail_if_success refine goB 1 ?_) | (
  refine goB 1 ?_
  all_goals (refine WC.sr ?_)
  all_goals (refine Go ?_)
  all_goals (refine Gt ?_)
  all_goals (exact ⟨rfl, rfl⟩)
  skip))
  all_goals (first | (fail_if_success refine goB 2 ?_) | (
  refine goB 2 ?_
  all_goals (refine WC.skip ?_)
  skip))
  all_goals (refine Gn ?_)
  all_goals (refine WC.sr ?_)
  all_goals (refine Go ?_)
  all_goals (refine WL.step (ok_nilCheck rfl) rfl rfl rfl ?_)
  all_goals (refine Go ?_)
  all_goals (refine Ld ?_)
  all_goals (refine Go ?_)
  all_goals (refine Gs [(2, _), (8, _), (10, _)] ?_)
  all_goals (refine WC.seq ?_)
  all_goals (refine WC.sr ?_)
  all_goals (refine Go ?_)
  all_goals (refine goC 3 4 ?_ ?_ <;> first | exact ⟨⟩ | refine Hb.mk fun hb => ?_ | skip)
  all_goals (first | (fail_if_success refine goB 3 ?_) | (
  refine goB 3 ?_
  all_goals (refine WC.region ?_)
  all_goals (refine Go ?_)
  all_goals (refine WL.step (ok_min2 rfl rfl) rfl rfl rfl ?_)
  all_goals (refine Go ?_)
  skip))
  all_goals (first | (fail_if_success refine goB 4 ?_) | (
  refine goB 4 ?_
  all_goals (refine WC.skip ?_)
  skip))
  all_goals (refine Gn ?_)
  all_goals (refine WC.sr ?_)
  all_goals (refine Go ?_)
  all_goals (refine WL.step (ok_nilCheck rfl) rfl rfl rfl ?_)
  all_goals (refine Go ?_)
  all_goals (refine Ld ?_)
  all_goals (refine Go ?_)
  all_goals (first | (refine WL.step (ok_slice_hmN Tryz.underlying145 (fun w => Tryz.sizeOf30 w) rfl rfl rfl (by omega)) rfl rfl rfl ?_) | (refine WL.step (ok_slice_hm Tryz.underlying145 (fun w => Tryz.sizeOf30 w) rfl rfl rfl (by omega)) rfl rfl rfl ?_))
  all_goals (refine Go ?_)
  all_goals (refine Gs [(8, _), (10, _), (11, _)] ?_)
  all_goals (refine WC.sr ?_)
  all_goals (refine Go ?_)
  all_goals (refine WL.step (ok_nilCheck rfl) rfl rfl rfl ?_)
  all_goals (refine Go ?_)
  all_goals (refine Ld ?_)
  all_goals (refine Go ?_)
  all_goals (first | (refine WL.step (ok_slice_lN Tryz.underlying145 (fun w => Tryz.sizeOf30 w) rfl rfl (by omega)) rfl rfl rfl ?_) | (refine WL.step (ok_slice_lS Tryz.underlying145 (fun w => Tryz.sizeOf30 w) rfl rfl (by omega)) rfl rfl rfl ?_) | (refine WL.step (ok_slice_l Tryz.underlying145 (fun w => Tryz.sizeOf30 w) rfl rfl (by omega)) rfl rfl rfl ?_))
  all_goals (refine WL.step (ok_nilCheck rfl) rfl rfl rfl ?_)
  all_goals (refine Go ?_)
  all_goals (refine WL.stepR0 (okE_store (fun w => Tryz.sizeOf145 w) rfl rfl (by assumption) (Nat.le_of_ble_eq_true rfl) rfl rfl) rfl rfl ?_
             rintro _ h1 ⟨hb1, hx1⟩)
  all_goals (refine Gn ?_)
  all_goals (refine Gs [(8, _), (11, _)] ?_)
  all_goals (refine WC.sr ?_)
  all_goals (refine Go ?_)
  all_goals (refine WL.step (ok_nilCheck rfl) rfl rfl rfl ?_)
  all_goals (refine Go ?_)
  all_goals (refine Ld ?_)
  all_goals (refine Go ?_)
  all_goals (refine WL.step (ok_nilCheck rfl) rfl rfl rfl ?_)
  all_goals (refine Go ?_)
  all_goals (refine WL.stepR0 (okE_store (fun w => Tryz.sizeOf4 w) rfl rfl (by assumption) (Nat.le_of_ble_eq_true rfl) rfl rfl) rfl rfl ?_
             rintro _ h1 ⟨hb1, hx1⟩)
  all_goals (refine Gn ?_)
  all_goals (refine Gs [(8, _), (11, _)] ?_)
  all_goals (refine WC.seq ?_)
  all_goals (refine WC.drawE fol (by kernel_rfl) ?_)
  all_goals (refine WQ.stepE (ok_move rfl) rfl rfl rfl ?_)
  all_goals (refine WQ.stepE (ok_move rfl) rfl rfl rfl ?_)
  all_goals (refine WQ.stepE (ok_nilCheck rfl) rfl rfl rfl ?_)
  all_goals (refine WQ.stepE (ok_fieldAddr rfl Tryz.underlying147 rfl (fun w => Tryz.sizeOf4 w)) rfl rfl rfl ?_)
  all_goals (refine WQ.stepE (ok_load (fun w => Tryz.isAgg4 w) rfl (by first | assumption | exact cell_blk (by assumption) rfl)) rfl rfl rfl ?_)
  all_goals (refine WQ.stepE (ok_not rfl) rfl rfl rfl ?_)
  all_goals (refine WQ.stepE (ok_assign rfl) rfl rfl rfl ?_)
  all_goals (refine WQ.stepE (ok_assign rfl) rfl rfl rfl ?_)
  all_goals (refine WQ.nil ?_)
  all_goals (refine Gn ?_)
  all_goals (refine Gs [(6, _), (7, _)] ?_)
  all_goals (refine Gt ?_)
  all_goals (exact ⟨rfl, rfl⟩)
end Go.Proofs.YtbokngiajfdanaaGreatDoor


/-
  PORTAL (layer 28): a set of portals: Put, Get, Delete, Clear, Names.
-/
namespace Go.Proofs.YtbokngiajfdanaaGreatDoor
open Go Go.RK

/-- A portal among those of both sets: its block, what the code has, what the document has. -/
structure It28 where
  p : Nat
  d : PD
  e : PD
def ptE (i : It28) : Value := .pointer (some ⟨i.p, 0, none⟩)
theorem okE_clearM {P : Program} {f : Fr} {h : Heap} {dd : Option Tmp} {ty : TypeId} {pos : String} {af : Array Edge} {g : Option (Nat × Bool)} {x : Operand} {t kt et : TypeId} {ts : Array TypeId} {κ : Type} {d : TypeDesc} {enc : κ → Value} {m : Nat} {es : List (κ × Value)} (hts : ts = #[t]) (hu : P.underlying t = some (.map kt et)) (hx : f.ev x = some (.map (some m))) (hm : Mp d enc h m es) :
    OkR P f ⟨dd, .call { callee := .builtin .clear, args := #[x], argTypes := ts }, ty, pos, af, g⟩ h (fun _ h' => Mp d enc h' m ([] : List (κ × Value)) ∧ Ext (fun b => b = m) h h') := fun ρ w ha hw => by
  subst hts
  subst hw
  obtain ⟨arr, clock, hb, hs, he⟩ := hm
  refine ⟨.tuple #[], { w with heap := w.heap.setIfInBounds m (.map #[] clock) }, ⟨rfl, rfl, rfl, trivial⟩, ⟨⟨_, _, set_new hb, MapKept.stamped_empty _, rfl⟩, .set _ _ _ rfl⟩, .inl ?_⟩
  simp [execOp, resolve, invoke, builtin, ha _ _ hx, Builtin.clear_, run_underlying hu, MapKept.run_getObj_map hb, MapKept.run_setObj_map _ hb]
section
variable {h : Heap} {b m : Nat} {es : List (List UInt8 × Value)}
set_option maxHeartbeats 2000000 in
set_option maxRecDepth 100000 in
theorem of_none (name : List UInt8) (hb : h[b]? = some (.cells ⟨[.map (some m)]⟩ 98 (0, 0))) (hm : Mp .string St h m es) (hv : alook es name = none) :
    CallsH Tryz.prog 142 ⟨[.pointer (some ⟨b, 0, none⟩), St name]⟩ h fun u h' => u = .tuple ⟨[.pointer none, .bool false]⟩ ∧ h' = h := by
  refine calls [(0, _), (1, _)] Tryz.func142 rfl Tryz.ntmps142 rfl ⟨rfl, rfl, trivial⟩ ?_
  all_goals (refine WC.sr ?_)
  all_goals (refine Go ?_)
  all_goals (refine WC.seq ?_)
  all_goals (refine WC.sr ?_)
  all_goals (refine Go ?_)
  all_goals (refine WL.step (ok_eqlPn Tryz.underlying51 rfl rfl) rfl rfl rfl ?_)
  all_goals (refine Go ?_)
  all_goals (refine goP 10 ?_ ?_ <;> first | exact ⟨⟩ | refine Hb.mk fun hb => ?_ | skip)
  all_goals (refine Gg ?_)
  all_goals (first | (refine WL.pass rfl rfl rfl ?_) | (refine WL.step (ok_nilCheck rfl) rfl rfl rfl ?_))
  all_goals (refine Gg ?_)
  all_goals (first | (refine WL.pass rfl rfl rfl ?_) | (refine Ld ?_))
  all_goals (first | (refine WL.pass rfl rfl rfl ?_) | (refine WL.step (ok_eqlMn Tryz.underlying96 rfl rfl) rfl rfl rfl ?_))
  all_goals (refine Go ?_)
  all_goals (refine Gs [(0, _), (1, _), (16, _)] ?_)
  all_goals (refine goC 1 2 ?_ ?_ <;> first | exact ⟨⟩ | refine Hb.mk fun hb => ?_ | skip)
  all_goals (first | (fail_if_success refine goB 1 ?_) | (
  refine goB 1 ?_
  all_goals (refine WC.sr ?_)
  all_goals (refine Go ?_)
  all_goals (refine Gt ?_)
  all_goals (exact ⟨rfl, rfl⟩)
  skip))
  all_goals (first | (fail_if_success refine goB 2 ?_) | (
  refine goB 2 ?_
  all_goals (refine WC.skip ?_)
  skip))
  all_goals (refine Gn ?_)
  all_goals (refine WC.sr ?_)
  all_goals (refine Go ?_)
  all_goals (refine WL.step (ok_nilCheck rfl) rfl rfl rfl ?_)
  all_goals (refine Go ?_)
  all_goals (refine Ld ?_)
  all_goals (refine Go ?_)
  all_goals (first | (refine WL.step ((ok_lookup keyS Tryz.underlying96 Tryz.underlying9 rfl rfl (by assumption) (by assumption)).1) rfl rfl rfl ?_) | (refine WL.step ((ok_lookup_no keyS Tryz.underlying96 Tryz.underlying9 (fun w => Tryz.zeroValue208 w) rfl rfl (by assumption) (by assumption)).1) rfl rfl rfl ?_) | (refine WL.step ((ok_lookup_nil keyS Tryz.underlying96 Tryz.underlying9 (fun w => Tryz.zeroValue208 w) rfl rfl).1) rfl rfl rfl ?_))
  all_goals (refine Go ?_)
  all_goals (refine Gs [(6, _), (7, _)] ?_)
  all_goals (refine WC.sr ?_)
  all_goals (refine Go ?_)
  all_goals (refine Gs [(4, _), (5, _)] ?_)
  all_goals (refine Gt ?_)
  all_goals (exact ⟨rfl, rfl⟩)
theorem set_ne (hb : h[b]? = some (.cells ⟨[.map (some m)]⟩ 98 (0, 0))) (hm : Mp .string St h m es) : b ≠ m := by
  rintro rfl
  obtain ⟨_, _, e, _⟩ := hm
  rw [hb] at e
  cases e
set_option maxHeartbeats 2000000 in
set_option maxRecDepth 100000 in
theorem put_e (name : List UInt8) (d : PD) (hb : h[b]? = some (.cells ⟨[.map (some m)]⟩ 98 (0, 0))) (hm : Mp .string St h m es) (hd : d.ok h) (hn : name = [] ∨ alook es name = none) :
    CallsH Tryz.prog 85 ⟨[.pointer (some ⟨b, 0, none⟩), St name, .agg ⟨d.cells⟩]⟩ h fun u h' => u = In 0 ∧ ∃ p d', Mp .string St h' m (aput es name (.pointer (some ⟨p, 0, none⟩))) ∧ h'[p]? = some (.cells ⟨PD.cells d'⟩ 147 (0, 0)) ∧ d'.ok h' ∧ d'.pl = d.pl ∧ h.size ≤ p ∧ (∀ k, d'.F k → h.size ≤ k ∧ k ≠ p) ∧ Ext (fun k => k = m) h h' := by
  have hbm := set_ne hb hm
  have hml := hm.lt
  have hcs : alook es name = none ∨ ∃ v, alook es name = some v ∧ name = [] := by
    rcases hv : alook es name with _ | v
    · exact .inl rfl
    · rcases hn with e | e
      · exact .inr ⟨v, rfl, e⟩
      · rw [hv] at e; cases e
  rcases hcs with hv | ⟨v0, hv, rfl⟩
  all_goals
    refine calls [(0, _), (1, _), (2, _)] Tryz.func85 rfl Tryz.ntmps85 rfl ⟨rfl, rfl, rfl, trivial⟩ ?_
    all_goals (refine WC.sr ?_)
    all_goals (refine WL.stepR (okE_box rfl) rfl rfl rfl ?_
               rintro _ h1 ⟨b5, rfl, hg5, hb5, hx5⟩)
    all_goals (have hb' := hx5.obj hb nos
               have hm' := hm.ext hx5 nos
               have hd' := hd.ext hx5 (fun _ _ => nos))
    all_goals (refine Go ?_)
    all_goals (refine WC.seq ?_)
    all_goals (refine WC.sr ?_)
    all_goals (refine Go ?_)
    all_goals (refine WL.step (ok_eqlPn Tryz.underlying51 rfl rfl) rfl rfl rfl ?_)
    all_goals (refine Go ?_)
    all_goals (refine goP 12 ?_ ?_ <;> first | exact ⟨⟩ | refine Hb.mk fun hb => ?_ | skip)
    all_goals (refine Gg ?_)
    all_goals (first | (refine WL.pass rfl rfl rfl ?_) | (refine WL.step (ok_nilCheck rfl) rfl rfl rfl ?_))
    all_goals (refine Gg ?_)
    all_goals (first | (refine WL.pass rfl rfl rfl ?_) | (refine Ld ?_))
    all_goals (first | (refine WL.pass rfl rfl rfl ?_) | (refine WL.step (ok_eqlMn Tryz.underlying96 rfl rfl) rfl rfl rfl ?_))
    all_goals (refine Go ?_)
    all_goals (refine Gs [(0, _), (1, _), (5, _), (18, _)] ?_)
    all_goals (refine goC 1 2 ?_ ?_ <;> first | exact ⟨⟩ | refine Hb.mk fun hb => ?_ | skip)
    all_goals (first | (fail_if_success refine goB 1 ?_) | (
    refine goB 1 ?_
    all_goals (refine WC.sr ?_)
    all_goals (refine Go ?_)
    all_goals (refine Gs [(6, _)] ?_)
    all_goals (refine Gt ?_)
    all_goals (exact ⟨rfl, b3, d2, hm6, hx6.obj hb4 (fun e => by have := hx5.size; have := hx2.size; omega), (ok2.ext (hx3.trans' hx4 (S := No) (fun k hk e => by omega)) (fun _ _ => nos)).ext hx6 (fun k hk e => by have := hf2 k hk; have := hx5.size; omega), pl2, by have := hx5.size; have := hx2.size; omega, fun k hk => ⟨by have := hf2 k hk; have := hx5.size; omega, fun e => by have := ok2.lt hk; omega⟩, (hx5.mono (fun _ _ e => e.elim)).trans ((hx14.mono (fun _ _ e => e.elim)).trans hx6)⟩)
    skip))
    all_goals (first | (fail_if_success refine goB 2 ?_) | (
    refine goB 2 ?_
    all_goals (refine WC.skip ?_)
    skip))
    all_goals (refine Gn ?_)
    all_goals (refine WC.seq ?_)
    all_goals (refine WC.sr ?_)
    all_goals (refine Go ?_)
    all_goals (refine WL.step (ok_nilCheck rfl) rfl rfl rfl ?_)
    all_goals (refine Go ?_)
    all_goals (refine Ld ?_)
    all_goals (refine Go ?_)
    all_goals (first | (refine WL.step ((ok_lookup keyS Tryz.underlying96 Tryz.underlying9 rfl rfl (by assumption) (by assumption)).1) rfl rfl rfl ?_) | (refine WL.step ((ok_lookup_no keyS Tryz.underlying96 Tryz.underlying9 (fun w => Tryz.zeroValue208 w) rfl rfl (by assumption) (by assumption)).1) rfl rfl rfl ?_) | (refine WL.step ((ok_lookup_nil keyS Tryz.underlying96 Tryz.underlying9 (fun w => Tryz.zeroValue208 w) rfl rfl).1) rfl rfl rfl ?_))
    all_goals (refine Go ?_)
    all_goals (refine Gs [(0, _), (1, _), (5, _), (8, _)] ?_)
    all_goals (refine WC.sr ?_)
    all_goals (refine Go ?_)
    all_goals (refine goP 29 ?_ ?_ <;> first | exact ⟨⟩ | refine Hb.mk fun hb => ?_ | skip)
    all_goals (refine Gg ?_)
    all_goals (refine Go ?_)
    all_goals (refine Gs [(0, _), (1, _), (5, _), (32, _)] ?_)
    all_goals (refine goC 3 4 ?_ ?_ <;> first | exact ⟨⟩ | refine Hb.mk fun hb => ?_ | skip)
    all_goals (first | (fail_if_success refine goB 3 ?_) | (
    refine goB 3 ?_
    all_goals (refine WC.sr ?_)
    all_goals (refine Go ?_)
    all_goals (refine Gs [(6, _)] ?_)
    all_goals (refine Gt ?_)
    all_goals (exact ⟨rfl, b3, d2, hm6, hx6.obj hb4 (fun e => by have := hx5.size; have := hx2.size; omega), (ok2.ext (hx3.trans' hx4 (S := No) (fun k hk e => by omega)) (fun _ _ => nos)).ext hx6 (fun k hk e => by have := hf2 k hk; have := hx5.size; omega), pl2, by have := hx5.size; have := hx2.size; omega, fun k hk => ⟨by have := hf2 k hk; have := hx5.size; omega, fun e => by have := ok2.lt hk; omega⟩, (hx5.mono (fun _ _ e => e.elim)).trans ((hx14.mono (fun _ _ e => e.elim)).trans hx6)⟩)
    skip))
    all_goals (first | (fail_if_success refine goB 4 ?_) | (
    refine goB 4 ?_
    all_goals (refine WC.skip ?_)
    skip))
    all_goals (refine Gn ?_)
    all_goals (refine WC.sr ?_)
    all_goals (refine WL.step (ok_loadN (fun w => Tryz.isAgg147 w) (fun w => Tryz.sizeOf147 w) rfl rfl (by exact At.of_block hb5)) rfl rfl rfl ?_)
    all_goals (refine WL.call (vs := [_]) rfl (fun a w => Tryz.call134 a w) rfl (own_port d hd') rfl rfl rfl ?_
               rintro _ h2 ⟨d2, rfl, ok2, pl2, hx2, hf2⟩)
    all_goals (refine WL.stepR (okE_alloc (fun w => Tryz.zeroValue147 w)) rfl rfl rfl ?_
               rintro _ h3 ⟨b3, rfl, hg3, hb3, hx3⟩)
    all_goals (refine WL.stepR0 (okE_storeW (fun w => Tryz.sizeOf147 w) rfl rfl rfl (by assumption) rfl (pd_one ok2)) rfl rfl ?_
               rintro _ h4 ⟨hb4, hx4⟩)
    all_goals (have hx14 : Ext No h1 h4 := (hx2.trans hx3).trans' hx4 (fun k hk e => by have := hx2.size; omega)
               have hbb := hx14.obj hb' nos
               have hmm := hm'.ext hx14 nos)
    all_goals (refine Gn ?_)
    all_goals (refine Gs [(0, _), (1, _), (9, _)] ?_)
    all_goals (refine WC.sr ?_)
    all_goals (refine Go ?_)
    all_goals (refine WL.step (ok_nilCheck rfl) rfl rfl rfl ?_)
    all_goals (refine Go ?_)
    all_goals (refine Ld ?_)
    all_goals (refine Go ?_)
    all_goals (refine WL.stepR0 (ok_mapUpdate keyS Tryz.underlying96 Tryz.underlying9 rfl rfl rfl (by assumption)) rfl rfl ?_
               rintro _ h6 ⟨hm6, hx6⟩)
    all_goals (refine Gn ?_)
    all_goals (refine Gs [] ?_)
    all_goals (refine WC.sr ?_)
    all_goals (refine Go ?_)
    all_goals (refine Gt ?_)
    all_goals (exact ⟨rfl, b3, d2, hm6, hx6.obj hb4 (fun e => by have := hx5.size; have := hx2.size; omega), (ok2.ext (hx3.trans' hx4 (S := No) (fun k hk e => by omega)) (fun _ _ => nos)).ext hx6 (fun k hk e => by have := hf2 k hk; have := hx5.size; omega), pl2, by have := hx5.size; have := hx2.size; omega, fun k hk => ⟨by have := hf2 k hk; have := hx5.size; omega, fun e => by have := ok2.lt hk; omega⟩, (hx5.mono (fun _ _ e => e.elim)).trans ((hx14.mono (fun _ _ e => e.elim)).trans hx6)⟩)
set_option maxHeartbeats 2000000 in
set_option maxRecDepth 100000 in
theorem put_tw (name : List UInt8) (d : PD) (hb : h[b]? = some (.cells ⟨[.map (some m)]⟩ 98 (0, 0))) (hm : Mp .string St h m es) {v : Value} (hv : alook es name = some v) (hn : name ≠ []) :
    CallsH Tryz.prog 85 ⟨[.pointer (some ⟨b, 0, none⟩), St name, .agg ⟨d.cells⟩]⟩ h fun u h' => u = In 8 ∧ Ext No h h' := by
  refine calls [(0, _), (1, _), (2, _)] Tryz.func85 rfl Tryz.ntmps85 rfl ⟨rfl, rfl, rfl, trivial⟩ ?_
  all_goals (refine WC.sr ?_)
  all_goals (refine WL.stepR (okE_box rfl) rfl rfl rfl ?_
             rintro _ h1 ⟨b5, rfl, hg5, hb5, hx5⟩)
  all_goals (have hb' := hx5.obj hb nos
             have hm' := hm.ext hx5 nos)
  all_goals (refine Go ?_)
  all_goals (refine WC.seq ?_)
  all_goals (refine WC.sr ?_)
  all_goals (refine Go ?_)
  all_goals (refine WL.step (ok_eqlPn Tryz.underlying51 rfl rfl) rfl rfl rfl ?_)
  all_goals (refine Go ?_)
  all_goals (refine goP 12 ?_ ?_ <;> first | exact ⟨⟩ | refine Hb.mk fun hb => ?_ | skip)
  all_goals (refine Gg ?_)
  all_goals (first | (refine WL.pass rfl rfl rfl ?_) | (refine WL.step (ok_nilCheck rfl) rfl rfl rfl ?_))
  all_goals (refine Gg ?_)
  all_goals (first | (refine WL.pass rfl rfl rfl ?_) | (refine Ld ?_))
  all_goals (first | (refine WL.pass rfl rfl rfl ?_) | (refine WL.step (ok_eqlMn Tryz.underlying96 rfl rfl) rfl rfl rfl ?_))
  all_goals (refine Go ?_)
  all_goals (refine Gs [(0, _), (1, _), (5, _), (18, _)] ?_)
  all_goals (refine goC 1 2 ?_ ?_ <;> first | exact ⟨⟩ | refine Hb.mk fun hb => ?_ | skip)
  all_goals (first | (fail_if_success refine goB 1 ?_) | (
  refine goB 1 ?_
  all_goals (refine WC.sr ?_)
  all_goals (refine Go ?_)
  all_goals (refine Gs [(6, _)] ?_)
  all_goals (refine Gt ?_)
  all_goals (exact ⟨rfl, hx5⟩)
  skip))
  all_goals (first | (fail_if_success refine goB 2 ?_) | (
  refine goB 2 ?_
  all_goals (refine WC.skip ?_)
  skip))
  all_goals (refine Gn ?_)
  all_goals (refine WC.seq ?_)
  all_goals (refine WC.sr ?_)
  all_goals (refine Go ?_)
  all_goals (refine WL.step (ok_nilCheck rfl) rfl rfl rfl ?_)
  all_goals (refine Go ?_)
  all_goals (refine Ld ?_)
  all_goals (refine Go ?_)
  all_goals (first | (refine WL.step ((ok_lookup keyS Tryz.underlying96 Tryz.underlying9 rfl rfl (by assumption) (by assumption)).1) rfl rfl rfl ?_) | (refine WL.step ((ok_lookup_no keyS Tryz.underlying96 Tryz.underlying9 (fun w => Tryz.zeroValue208 w) rfl rfl (by assumption) (by assumption)).1) rfl rfl rfl ?_) | (refine WL.step ((ok_lookup_nil keyS Tryz.underlying96 Tryz.underlying9 (fun w => Tryz.zeroValue208 w) rfl rfl).1) rfl rfl rfl ?_))
  all_goals (refine Go ?_)
  all_goals (refine Gs [(0, _), (1, _), (5, _), (8, _)] ?_)
  all_goals (refine WC.sr ?_)
  all_goals (refine Go ?_)
  all_goals (refine goP 29 ?_ ?_ <;> first | exact ⟨⟩ | refine Hb.mk fun hb => ?_ | skip)
  all_goals (refine Gg ?_)
  all_goals (refine Go ?_)
  all_goals (refine Gs [(0, _), (1, _), (5, _), (32, _)] ?_)
  all_goals (refine goC 3 4 ?_ ?_ <;> first | exact ⟨⟩ | refine Hb.mk fun hb => ?_ | skip)
  all_goals (first | (fail_if_success refine goB 3 ?_) | (
  refine goB 3 ?_
  all_goals (refine WC.sr ?_)
  all_goals (refine Go ?_)
  all_goals (refine Gs [(6, _)] ?_)
  all_goals (refine Gt ?_)
  all_goals (exact ⟨rfl, hx5⟩)
  skip))
  all_goals (first | (fail_if_success refine goB 4 ?_) | (
  refine goB 4 ?_
  all_goals (refine WC.skip ?_)
  skip))
  all_goals (refine Gn ?_)
  all_goals (refine WC.sr ?_)
  all_goals (refine WL.step (ok_loadN (fun w => Tryz.isAgg147 w) (fun w => Tryz.sizeOf147 w) rfl rfl (by assumption)) rfl rfl rfl ?_)
  all_goals (fail "no contract for call of (remuda/portal.Portal).own at 6.1")
  all_goals (refine WL.stepR (okE_alloc (fun w => Tryz.zeroValue147 w)) rfl rfl rfl ?_
             rintro _ h1 ⟨b1, rfl, hg1, hb1, hx1⟩)
  all_goals (refine WL.stepR0 (okE_storeW (fun w => Tryz.sizeOf147 w) rfl rfl rfl (by assumption) rfl (by simp [Value.oneCell'])) rfl rfl ?_
             rintro _ h1 ⟨hb1, hx1⟩)
  all_goals (refine Gn ?_)
  all_goals (refine Gs [(0, _), (1, _), (9, _)] ?_)
  all_goals (refine WC.sr ?_)
  all_goals (refine Go ?_)
  all_goals (refine WL.step (ok_nilCheck rfl) rfl rfl rfl ?_)
  all_goals (refine Go ?_)
  all_goals (refine Ld ?_)
  all_goals (refine Go ?_)
  all_goals (refine WL.stepR0 (ok_mapUpdate keyS Tryz.underlying96 Tryz.underlying9 rfl rfl rfl (by assumption)) rfl rfl ?_
             rintro _ h1 ⟨hm1, hx1⟩)
  all_goals (refine Gn ?_)
  all_goals (refine Gs [] ?_)
  all_goals (refine WC.sr ?_)
  all_goals (refine Go ?_)
  all_goals (refine Gt ?_)
  all_goals (exact ⟨rfl, hx5⟩)
set_option maxHeartbeats 2000000 in
set_option maxRecDepth 100000 in
theorem get_no (name : List UInt8) (hb : h[b]? = some (.cells ⟨[.map (some m)]⟩ 98 (0, 0))) (hm : Mp .string St h m es) (hv : alook es name = none) :
    CallsH Tryz.prog 135 ⟨[.pointer (some ⟨b, 0, none⟩), St name]⟩ h fun u h' => u = .tuple ⟨[.agg ⟨PD0.cells⟩, .bool false]⟩ ∧ Ext No h h' := by
  refine calls [(0, _), (1, _)] Tryz.func135 rfl Tryz.ntmps135 rfl ⟨rfl, rfl, trivial⟩ ?_
  all_goals (refine WC.sr ?_)
  all_goals (refine WL.stepR (okE_alloc (fun w => Tryz.zeroValue147 w)) rfl rfl rfl ?_
             rintro _ h1 ⟨b1, rfl, hg1, hb1, hx1⟩)
  all_goals (refine Go ?_)
  all_goals (refine WC.sr ?_)
  all_goals (refine Go ?_)
  all_goals (refine WL.call (vs := [_, _]) rfl (fun a w => Tryz.call142 a w) rfl (of_none name (hx1.obj hb nos) (hm.ext hx1 nos) hv) rfl rfl rfl ?_
             rintro _ hz ⟨rfl, _⟩
             subst hz)
  all_goals (refine Go ?_)
  all_goals (refine Gs [(4, _), (6, _), (7, _)] ?_)
  all_goals (refine WC.seq ?_)
  all_goals (refine WC.sr ?_)
  all_goals (refine Go ?_)
  all_goals (refine goC 1 2 ?_ ?_ <;> first | exact ⟨⟩ | refine Hb.mk fun hb => ?_ | skip)
  all_goals (first | (fail_if_success refine goB 1 ?_) | (
  refine goB 1 ?_
  all_goals (refine WC.sr ?_)
  all_goals (refine WL.step (ok_buildF (vs := []) (cs := [_, _, _, _, _, _]) (fun | [] => [(St []), (.slice none 0 0), (.slice none 0 0), (.slice none 0 0), (.bool false), (.bool false)] | _ => []) rfl rfl (by kernel_rfl)) rfl rfl rfl ?_)
  all_goals (refine WL.stepR0 (okE_storeW (fun w => Tryz.sizeOf147 w) rfl rfl rfl hb1 rfl (by simp [Value.oneCell'])) rfl rfl ?_
             rintro _ h2 ⟨hb2, hx2⟩)
  all_goals (refine Go ?_)
  all_goals (refine Gs [(4, _), (5, _)] ?_)
  all_goals (refine WC.ret ?_)
  all_goals (repeat' (with_reducible first | refine thenP_r ?_ | refine blockP_r ?_))
  all_goals (refine retP_2 _ _ ⟨⟨_, rfl, ld_blk (fun w => Tryz.isAgg147 w) (fun w => Tryz.sizeOf147 w) (by assumption) rfl⟩, rfl, trivial⟩ ?_)
  all_goals (exact ⟨rfl, hx1.trans' hx2 (fun k hk e => by omega)⟩)
  skip))
  all_goals (first | (fail_if_success refine goB 2 ?_) | (
  refine goB 2 ?_
  all_goals (refine WC.skip ?_)
  skip))
  all_goals (refine Gn ?_)
  all_goals (refine WC.sr ?_)
  all_goals (refine Go ?_)
  all_goals (refine WL.step (ok_nilCheck rfl) rfl rfl rfl ?_)
  all_goals (refine WL.step (ok_loadN (fun w => Tryz.isAgg147 w) (fun w => Tryz.sizeOf147 w) rfl rfl (by assumption)) rfl rfl rfl ?_)
  all_goals (fail "no contract for call of (remuda/portal.Portal).own at 4.3")
  all_goals (refine WL.stepR0 (okE_storeW (fun w => Tryz.sizeOf147 w) rfl rfl rfl (by assumption) rfl (by simp [Value.oneCell'])) rfl rfl ?_
             rintro _ h1 ⟨hb1, hx1⟩)
  all_goals (refine Go ?_)
  all_goals (refine Gs [(4, _), (5, _)] ?_)
  all_goals (refine WC.ret ?_)
  all_goals (repeat' (with_reducible first | refine thenP_r ?_ | refine blockP_r ?_))
  all_goals (refine retP_2 _ _ ⟨⟨_, rfl, ld_blk (fun w => Tryz.isAgg147 w) (fun w => Tryz.sizeOf147 w) (by assumption) rfl⟩, rfl, trivial⟩ ?_)
  all_goals (exact ⟨rfl, hx1.trans' hx2 (fun k hk e => by omega)⟩)
theorem Pe.ext0 {h' : Heap} {p : Nat} {name : List UInt8} {d : PD} (r : Pe h b m es p name d) (a : Ext No h h') : Pe h' b m es p name d :=
  ⟨a.obj r.set nos, r.map.ext a nos, r.look, a.obj r.blk nos, r.ok.ext a (fun _ _ => nos), r.apart⟩
set_option maxHeartbeats 2000000 in
set_option maxRecDepth 100000 in
theorem del_e {p : Nat} {name : List UInt8} {d : PD} (r : Pe h b m es p name d) :
    CallsH Tryz.prog 96 ⟨[.pointer (some ⟨b, 0, none⟩), St name]⟩ h fun u h' => u = .bool true ∧ Mp .string St h' m (adel es name) ∧ Ext (fun k => k = m) h h' := by
  have hb := r.set
  have hm := r.map
  refine calls [(0, _), (1, _)] Tryz.func96 rfl Tryz.ntmps96 rfl ⟨rfl, rfl, trivial⟩ ?_
  all_goals (refine WC.sr ?_)
  all_goals (refine Go ?_)
  all_goals (refine WC.sr ?_)
  all_goals (refine Go ?_)
  all_goals (refine WL.call (vs := [_, _]) rfl (fun a w => Tryz.call142 a w) rfl (of_e r) rfl rfl rfl ?_
             rintro _ hz ⟨rfl, _⟩
             subst hz)
  all_goals (refine Go ?_)
  all_goals (refine Gs [(0, _), (1, _), (6, _)] ?_)
  all_goals (refine WC.seq ?_)
  all_goals (refine WC.sr ?_)
  all_goals (refine Go ?_)
  all_goals (refine goC 1 2 ?_ ?_ <;> first | exact ⟨⟩ | refine Hb.mk fun hb => ?_ | skip)
  all_goals (first | (fail_if_success refine goB 1 ?_) | (
  refine goB 1 ?_
  all_goals (refine WC.region ?_)
  all_goals (refine Go ?_)
  all_goals (refine WL.step (ok_nilCheck rfl) rfl rfl rfl ?_)
  all_goals (refine Go ?_)
  all_goals (refine Ld ?_)
  all_goals (refine Go ?_)
  all_goals (refine WL.stepR0 (ok_delete rfl keyS Tryz.underlying96 Tryz.underlying9 rfl rfl (by assumption)) rfl rfl ?_
             rintro _ h1 ⟨hm1, hx1⟩)
  all_goals (refine Gn ?_)
  skip))
  all_goals (first | (fail_if_success refine goB 2 ?_) | (
  refine goB 2 ?_
  all_goals (refine WC.skip ?_)
  skip))
  all_goals (refine Gn ?_)
  all_goals (refine WC.sr ?_)
  all_goals (refine Go ?_)
  all_goals (refine Gs [(4, _)] ?_)
  all_goals (refine Gt ?_)
  all_goals (exact ⟨rfl, hm1, hx1⟩)
set_option maxHeartbeats 2000000 in
set_option maxRecDepth 100000 in
theorem del_no (name : List UInt8) (hb : h[b]? = some (.cells ⟨[.map (some m)]⟩ 98 (0, 0))) (hm : Mp .string St h m es) (hv : alook es name = none) :
    CallsH Tryz.prog 96 ⟨[.pointer (some ⟨b, 0, none⟩), St name]⟩ h fun u h' => u = .bool false ∧ h' = h := by
  refine calls [(0, _), (1, _)] Tryz.func96 rfl Tryz.ntmps96 rfl ⟨rfl, rfl, trivial⟩ ?_
  all_goals (refine WC.sr ?_)
  all_goals (refine Go ?_)
  all_goals (refine WC.sr ?_)
  all_goals (refine Go ?_)
  all_goals (refine WL.call (vs := [_, _]) rfl (fun a w => Tryz.call142 a w) rfl (of_none name hb hm hv) rfl rfl rfl ?_
             rintro _ hz ⟨rfl, _⟩
             subst hz)
  all_goals (refine Go ?_)
  all_goals (refine Gs [(0, _), (1, _), (6, _)] ?_)
  all_goals (refine WC.seq ?_)
  all_goals (refine WC.sr ?_)
  all_goals (refine Go ?_)
  all_goals (refine goC 1 2 ?_ ?_ <;> first | exact ⟨⟩ | refine Hb.mk fun hb => ?_ | skip)
  all_goals (first | (fail_if_success refine goB 1 ?_) | (
  refine goB 1 ?_
  all_goals (refine WC.region ?_)
  all_goals (refine Go ?_)
  all_goals (refine WL.step (ok_nilCheck rfl) rfl rfl rfl ?_)
  all_goals (refine Go ?_)
  all_goals (refine Ld ?_)
  all_goals (refine Go ?_)
  all_goals (refine WL.stepR0 (ok_delete rfl keyS Tryz.underlying96 Tryz.underlying9 rfl rfl (by assumption)) rfl rfl ?_
             rintro _ h1 ⟨hm1, hx1⟩)
  all_goals (refine Gn ?_)
  skip))
  all_goals (first | (fail_if_success refine goB 2 ?_) | (
  refine goB 2 ?_
  all_goals (refine WC.skip ?_)
  skip))
  all_goals (refine Gn ?_)
  all_goals (refine WC.sr ?_)
  all_goals (refine Go ?_)
  all_goals (refine Gs [(4, _)] ?_)
  all_goals (refine Gt ?_)
  all_goals (exact ⟨rfl, rfl⟩)
set_option maxHeartbeats 2000000 in
set_option maxRecDepth 100000 in
theorem clear_e (hb : h[b]? = some (.cells ⟨[.map (some m)]⟩ 98 (0, 0))) (hm : Mp .string St h m es) :
    CallsH Tryz.prog 45 ⟨[.pointer (some ⟨b, 0, none⟩)]⟩ h fun u h' => u = .tuple ⟨[]⟩ ∧ Mp .string St h' m ([] : List (List UInt8 × Value)) ∧ Ext (fun k => k = m) h h' := by
  refine calls [(0, _)] Tryz.func45 rfl Tryz.ntmps45 rfl ⟨rfl, trivial⟩ ?_
  all_goals (refine WC.sr ?_)
  all_goals (refine Go ?_)
  all_goals (refine WL.step (ok_neqPn Tryz.underlying51 rfl rfl) rfl rfl rfl ?_)
  all_goals (refine Gn ?_)
  all_goals (refine goC 1 2 ?_ ?_ <;> first | exact ⟨⟩ | refine Hb.mk fun hb => ?_ | skip)
  all_goals (first | (fail_if_success refine goB 1 ?_) | (
  refine goB 1 ?_
  all_goals (refine WC.region ?_)
  all_goals (refine Go ?_)
  all_goals (refine WL.step (ok_nilCheck rfl) rfl rfl rfl ?_)
  all_goals (refine Go ?_)
  all_goals (refine Ld ?_)
  all_goals (refine WL.stepR0 (okE_clearM rfl Tryz.underlying96 rfl hm) rfl rfl ?_
             rintro _ h1 ⟨hm1, hx1⟩)
  all_goals (refine Gn ?_)
  skip))
  all_goals (first | (fail_if_success refine goB 2 ?_) | (
  refine goB 2 ?_
  all_goals (refine WC.skip ?_)
  skip))
  all_goals (refine Gn ?_)
  all_goals (refine retP_n [] trivial ?_)
  all_goals (exact ⟨rfl, hm1, hx1⟩)
end
theorem sort_str {h : Heap} {v : Value} (l : List (List UInt8)) (ho : Own h v 9 1 l.length (l.map St)) (hm : l.length ≤ 1000000) :
    CallsH Tryz.prog 26 ⟨[v]⟩ h fun u h' => u = .tuple ⟨[]⟩ ∧ Own h' v 9 1 l.length ((srtS l).map St) ∧ Ext (fun k => v.ownBlock = some k) h h' := by
  rcases ho.slice' with ⟨rfl, h0⟩ | ⟨g, cap, rfl⟩
  · obtain rfl := List.eq_nil_of_length_eq_zero h0
    exact fun w hw => (Tryz.slices_Sort_string_none none 0 w).mono fun e w' ⟨he, hb⟩ => ⟨⟨by rw [hb], by rw [hb], by rw [hb], trivial⟩, _, he, rfl, by rw [hb, hw]; simpa [srtS] using ho, by rw [hb, hw]; exact .refl _ _⟩
  · intro w hw
    subst hw
    refine (Tryz.slices_Sort_string g 0 cap l w (Own.holds St ho) (ho.lt rfl) (by omega)).mono fun e w' ⟨he, n, os, hb⟩ => ?_
    subst hb
    have := sorted_heap St (q := n) (os := os) ho (by unfold srtS; simp : (srtS l).length = l.length)
    exact ⟨⟨rfl, rfl, rfl, trivial⟩, _, he, rfl, this.1, this.2.mono fun k _ e => by rw [e]; rfl⟩
end Go.Proofs.YtbokngiajfdanaaGreatDoor


/-
  api.Back, and the document's compare of two of them.
-/
namespace Go.Proofs.YtbokngiajfdanaaGreatDoor
open Go Go.RK

structure ColD where
  nm : List UInt8
  t : Int
  a : Int
  o : Int
  s : Int
  m : Int
  f : Int
deriving DecidableEq
def ColD.sca (c : ColD) : List Sca := [.s c.nm, .i .i64 c.t, .i .i64 c.a, .i .i64 c.o, .i .i64 c.s, .i .i64 c.m, .i .i64 c.f]
def ColD.cells (c : ColD) : List Value := [St c.nm, In c.t, In c.a, In c.o, In c.s, In c.m, In c.f]
theorem ColD.len (c : ColD) : c.cells.length = 7 := rfl
theorem ColD.inj (c d : ColD) : c.sca = d.sca ↔ c = d := by cases c; cases d; simp [ColD.sca]
structure FieldD where
  k : Int
  t : List UInt8
deriving DecidableEq
def FieldD.sca (c : FieldD) : List Sca := [.i .u8 c.k, .s c.t]
def FieldD.cells (c : FieldD) : List Value := [.int .u8 c.k, St c.t]
theorem FieldD.len (c : FieldD) : c.cells.length = 2 := rfl
theorem FieldD.inj (c d : FieldD) : c.sca = d.sca ↔ c = d := by cases c; cases d; simp [FieldD.sca]
structure Bk where
  kind : Int
  status : Int
  tag : List UInt8
  name : List UInt8
  value : List UInt8
  n : Int
  m : Int
  vo : Value
  oids : List Int
  vc : Value
  cols : List ColD
  vr : Value
  row : List Cel
  vf : Value
  fields : List FieldD
def Bk.cells (b : Bk) : List Value := [.int .u8 b.kind, .int .u8 b.status, St b.tag, St b.name, St b.value, In b.n, In b.m, b.vo, b.vc, b.vr, b.vf]
structure Bk.ok (h : Heap) (b : Bk) : Prop where
  oids : Rd h b.vo 1 b.oids.length (ints b.oids) ∧ b.oids.length ≤ maxLen
  cols : Rd h b.vc 7 b.cols.length (b.cols.flatMap ColD.cells) ∧ b.cols.length ≤ maxLen
  row : Cels h b.vr b.row
  fields : Rd h b.vf 2 b.fields.length (b.fields.flatMap FieldD.cells) ∧ b.fields.length ≤ maxLen
theorem Bk.ok.ext0 {h h' : Heap} {b : Bk} (k : b.ok h) (a : Ext No h h') : b.ok h' := ⟨⟨k.1.1.ext0 a, k.1.2⟩, ⟨k.2.1.ext0 a, k.2.2⟩, k.3.ext0 a, ⟨k.4.1.ext0 a, k.4.2⟩⟩
def Bk.pl (b : Bk) := (b.kind, b.status, b.tag, b.name, b.value, b.n, b.m, b.oids, b.cols, b.row.map Cel.pl, b.fields)

end Go.Proofs.YtbokngiajfdanaaGreatDoor


/-
  MESSAGES (layer 6), alone: Front.w without the entries, and what RwF tells of them.
-/
namespace Go.Proofs.YtbokngiajfdanaaGreatDoor
open Go Go.RK

structure Fm where
  kind : Int
  what : Int
  name : List UInt8
  portal : List UInt8
  text : List UInt8
  vo : Value
  oids : List Int
  vf : Value
  formats : List Int
  vs : Value
  results : List Int
  vp : Value
  params : List Cel
  max : Int
def Fm.cells (b : Fm) : List Value := [.int .u8 b.kind, .int .u8 b.what, St b.name, St b.portal, St b.text, b.vo, b.vf, b.vs, b.vp, In b.max]
theorem Fm.len (b : Fm) : b.cells.length = 10 := rfl
structure Fm.ok (h : Heap) (b : Fm) : Prop where
  oids : Rd h b.vo 1 b.oids.length (ints b.oids) ∧ b.oids.length ≤ maxLen
  formats : Rd h b.vf 1 b.formats.length (ints b.formats) ∧ b.formats.length ≤ maxLen
  results : Rd h b.vs 1 b.results.length (ints b.results) ∧ b.results.length ≤ maxLen
  params : Cels h b.vp b.params
theorem Fm.ok.ext0 {h h' : Heap} {b : Fm} (k : b.ok h) (a : Ext No h h') : b.ok h' := ⟨⟨k.1.1.ext0 a, k.1.2⟩, ⟨k.2.1.ext0 a, k.2.2⟩, ⟨k.3.1.ext0 a, k.3.2⟩, k.4.ext0 a⟩
theorem Fm.ok.one {h : Heap} {e : Fm} (k : e.ok h) : ∀ v ∈ e.cells, v.oneCell' = true := by
  obtain ⟨A1, c1, e1, _⟩ := k.1.1
  obtain ⟨A2, c2, e2, _⟩ := k.2.1
  obtain ⟨A3, c3, e3, _⟩ := k.3.1
  obtain ⟨_, ⟨_, A4, c4, e4, _⟩, _⟩ := k.4
  simp [Fm.cells, Value.oneCell', e1, e2, e3, e4]
def Fm.pl (b : Fm) := (b.kind, b.what, b.name, b.portal, b.text, b.oids, b.formats, b.results, b.params.map Cel.pl, b.max)
def Fms (h : Heap) (v : Value) (L : List Fm) : Prop := Rd h v 10 L.length (L.flatMap Fm.cells) ∧ L.length ≤ maxLen ∧ ∀ e ∈ L, e.ok h
theorem Fms.ext0 {h h' : Heap} {v : Value} {L : List Fm} (k : Fms h v L) (a : Ext No h h') : Fms h' v L := ⟨k.1.ext0 a, k.2.1, fun r hr => (k.2.2 r hr).ext0 a⟩

theorem wf_u8f {n : Int} (h : (Lit.int .u8 n).wf = true) : 0 ≤ n ∧ n ≤ 255 := by simpa [Lit.wf, IntKind.min, IntKind.max, IntKind.signed, IntKind.bits] using h
theorem wf_i64f {n : Int} (h : (Lit.int .i64 n).wf = true) : -9223372036854775808 ≤ n ∧ n ≤ 9223372036854775807 := by simpa [Lit.wf, IntKind.min, IntKind.max, IntKind.signed, IntKind.bits] using h
theorem opens_fm (w : World) : Opens Tryz.prog w 32 Fm.cells (fun b => b.ok w.heap ∧ (0 ≤ b.kind ∧ b.kind ≤ 255) ∧ -9223372036854775808 ≤ b.max ∧ b.max ≤ 9223372036854775807) := by
  have hi : ∀ {v : Value} {l : List Int}, Rd w.heap v 1 l.length (l.flatMap fun n : Int => [In n]) → Rd w.heap v 1 l.length (ints l) := fun h => by rwa [flat_one] at h
  have h10 := opensF_cons (P := Tryz.prog) (w := w) (o := 9) (f := ⟨ "Max", 3, 9, false, "", "", 152⟩) rfl (opens_int Tryz.underlying3) (by kernel_rfl) (fun _ => rfl) opensF_nil
  have h9 := opensF_cons (P := Tryz.prog) (w := w) (o := 8) (f := ⟨ "Params", 30, 8, false, "", "", 128⟩) rfl (opens_cells w) (by kernel_rfl) (fun _ => rfl) h10
  have h8 := opensF_cons (P := Tryz.prog) (w := w) (o := 7) (f := ⟨ "Results", 29, 7, false, "", "", 104⟩) rfl (opens_slice (sz := 1) (F := fun n : Int => [In n]) Tryz.underlying29 (by kernel_rfl) (by decide) (fun _ => rfl) (opens_int Tryz.underlying3)) (by kernel_rfl) (fun _ => rfl) h9
  have h7 := opensF_cons (P := Tryz.prog) (w := w) (o := 6) (f := ⟨ "Formats", 29, 6, false, "", "", 80⟩) rfl (opens_slice (sz := 1) (F := fun n : Int => [In n]) Tryz.underlying29 (by kernel_rfl) (by decide) (fun _ => rfl) (opens_int Tryz.underlying3)) (by kernel_rfl) (fun _ => rfl) h8
  have h6 := opensF_cons (P := Tryz.prog) (w := w) (o := 5) (f := ⟨ "OIDs", 29, 5, false, "", "", 56⟩) rfl (opens_slice (sz := 1) (F := fun n : Int => [In n]) Tryz.underlying29 (by kernel_rfl) (by decide) (fun _ => rfl) (opens_int Tryz.underlying3)) (by kernel_rfl) (fun _ => rfl) h7
  have h5 := opensF_cons (P := Tryz.prog) (w := w) (o := 4) (f := ⟨ "Text", 9, 4, false, "", "", 40⟩) rfl (opens_string Tryz.underlying9) (by kernel_rfl) (fun _ => rfl) h6
  have h4 := opensF_cons (P := Tryz.prog) (w := w) (o := 3) (f := ⟨ "Portal", 9, 3, false, "", "", 24⟩) rfl (opens_string Tryz.underlying9) (by kernel_rfl) (fun _ => rfl) h5
  have h3 := opensF_cons (P := Tryz.prog) (w := w) (o := 2) (f := ⟨ "Name", 9, 2, false, "", "", 8⟩) rfl (opens_string Tryz.underlying9) (by kernel_rfl) (fun _ => rfl) h4
  have h2 := opensF_cons (P := Tryz.prog) (w := w) (o := 1) (f := ⟨ "What", 5, 1, false, "", "", 1⟩) rfl (opens_int Tryz.underlying5) (by kernel_rfl) (fun _ => rfl) h3
  have h1 := opensF_cons (P := Tryz.prog) (w := w) (o := 0) (f := ⟨ "Kind", 5, 0, false, "", "", 0⟩) rfl (opens_int Tryz.underlying5) (by kernel_rfl) (fun _ => rfl) h2
  have h0 := opens_struct Tryz.underlying32 (by kernel_rfl) h1
  refine h0.map (fun p => (⟨p.1, p.2.1, p.2.2.1, p.2.2.2.1, p.2.2.2.2.1, p.2.2.2.2.2.1.1, p.2.2.2.2.2.1.2, p.2.2.2.2.2.2.1.1, p.2.2.2.2.2.2.1.2, p.2.2.2.2.2.2.2.1.1, p.2.2.2.2.2.2.2.1.2, p.2.2.2.2.2.2.2.2.1.1, p.2.2.2.2.2.2.2.2.1.2, p.2.2.2.2.2.2.2.2.2.1⟩ : Fm)) (fun _ => rfl) (fun p q => ?_)
  obtain ⟨q1, q2, q3, q4, q5, q6, q7, q8, q9, q10, _⟩ := q
  exact ⟨⟨⟨hi q6.1, q6.2.1⟩, ⟨hi q7.1, q7.2.1⟩, ⟨hi q8.1, q8.2.1⟩, q9⟩, wf_u8f q1, wf_i64f q10⟩
end Go.Proofs.YtbokngiajfdanaaGreatDoor


/-
  SESSIONS (layer 30): what a session holds; New; of one that no call made nothing is said.
-/
namespace Go.Proofs.YtbokngiajfdanaaGreatDoor
open Go Go.RK

/-- A session at bs: its statements L, its portals P, its engine's refused texts R. -/
structure Se (h : Heap) (bs ms bp mp be me : Nat) (st : Int) (sk ov : Bool) (cnt : Int) (L P R : List (List UInt8 × Value)) : Prop where
  blk : h[bs]? = some (.cells ⟨[.map (some ms), .pointer (some ⟨bp, 0, none⟩), .pointer (some ⟨be, 0, none⟩), .int .u8 st, .bool sk, .bool ov]⟩ 54 (0, 0))
  stm : Mp .string St h ms L
  pb : h[bp]? = some (.cells ⟨[.map (some mp)]⟩ 98 (0, 0))
  pm : Mp .string St h mp P
  eb : h[be]? = some (.cells ⟨[.map (some me), In cnt]⟩ 62 (0, 0))
  em : Mp .string St h me R
  ne : ms ≠ mp ∧ ms ≠ me ∧ mp ≠ me
theorem Se.ext0 {h h' : Heap} {bs ms bp mp be me : Nat} {st : Int} {sk ov : Bool} {cnt : Int} {L P R : List (List UInt8 × Value)} (k : Se h bs ms bp mp be me st sk ov cnt L P R) (x : Ext No h h') : Se h' bs ms bp mp be me st sk ov cnt L P R :=
  ⟨x.obj k.blk nos, k.stm.ext x nos, x.obj k.pb nos, k.pm.ext x nos, x.obj k.eb nos, k.em.ext x nos, k.ne⟩
/-- Messages stay. -/
def Kf (h h' : Heap) : Prop := ∀ (q : Nat) (cs : Array Value), h[q]? = some (Obj.cells cs 32 (0, 0)) → h'[q]? = some (Obj.cells cs 32 (0, 0))
theorem kf_no {h h' : Heap} (x : Ext No h h') : Kf h h' := fun _ _ hq => x.obj hq nos
theorem Kf.trans {h h1 h2 : Heap} (a : Kf h h1) (b : Kf h1 h2) : Kf h h2 := fun q cs hq => b q cs (a q cs hq)
theorem kf_map {h h' : Heap} {m : Nat} {es : List (List UInt8 × Value)} (k : Mp .string St h m es) (x : Ext (fun q => q = m) h h') : Kf h h' := fun q cs hq => x.obj hq fun e => by
  subst e
  obtain ⟨_, _, z, _⟩ := k
  rw [hq] at z
  cases z
theorem kf_blk {h h' : Heap} {q : Nat} {cs : Array Value} {TT : TypeId} (hb : h[q]? = some (.cells cs TT (0, 0))) (hT : TT ≠ 32) (x : Ext (fun z => z = q) h h') : Kf h h' := fun z ds hz => x.obj hz fun e => by
  subst e
  rw [hb] at hz
  simp only [Option.some.injEq, Obj.cells.injEq] at hz
  exact hT hz.2.1
set_option maxHeartbeats 2000000 in
set_option maxRecDepth 100000 in
theorem new_eng {h : Heap} : CallsH Tryz.prog 8 ⟨[]⟩ h fun u h' => ∃ be me, u = .pointer (some ⟨be, 0, none⟩) ∧ h'[be]? = some (.cells ⟨[.map (some me), In 0]⟩ 62 (0, 0)) ∧ Mp .string St h' me ([] : List (List UInt8 × Value)) ∧ h.size ≤ be ∧ h.size ≤ me ∧ Ext No h h' := by
  refine calls [] Tryz.func8 rfl Tryz.ntmps8 rfl trivial ?_
  all_goals (refine WC.sr ?_)
  all_goals (refine Go ?_)
  all_goals (refine WC.sr ?_)
  all_goals (refine WL.stepR okE_makeMap rfl rfl rfl ?_
             rintro _ h1 ⟨b1, rfl, hg1, hb1, hx1⟩)
  all_goals (refine WL.step (ok_buildF (vs := [_]) (cs := [_, _]) (fun | [a0] => [a0, (.int .i64 0)] | _ => []) rfl rfl (by kernel_rfl)) rfl rfl rfl ?_)
  all_goals (refine WL.stepR (okE_box rfl) rfl rfl rfl ?_
             rintro _ h2 ⟨b2, rfl, hg2, hb2, hx2⟩)
  all_goals (refine Go ?_)
  all_goals (refine Gt ?_)
  all_goals (exact ⟨b2, b1, rfl, hb2, ⟨_, _, hx2.obj hb1 id, MapKept.stamped_empty 0, rfl⟩, by have := hx1.size; omega, hg1, hx1.trans hx2⟩)
set_option maxHeartbeats 2000000 in
set_option maxRecDepth 100000 in
/-- New: the engine may be none. -/
theorem new_sess {h : Heap} (e : Option Addr) : CallsH Tryz.prog 7 ⟨[.pointer e]⟩ h fun u h' => ∃ bs ms bp mp, u = .pointer (some ⟨bs, 0, none⟩) ∧ h'[bs]? = some (.cells ⟨[.map (some ms), .pointer (some ⟨bp, 0, none⟩), .pointer e, .int .u8 73, .bool false, .bool false]⟩ 54 (0, 0)) ∧ Mp .string St h' ms ([] : List (List UInt8 × Value)) ∧
    h'[bp]? = some (.cells ⟨[.map (some mp)]⟩ 98 (0, 0)) ∧ Mp .string St h' mp ([] : List (List UInt8 × Value)) ∧ h.size ≤ ms ∧ ms < mp ∧ h.size ≤ bp ∧ h.size ≤ bs ∧ Ext No h h' := by
  refine calls [(0, _)] Tryz.func7 rfl Tryz.ntmps7 rfl ⟨rfl, trivial⟩ ?_
  all_goals (refine WC.sr ?_)
  all_goals (refine Go ?_)
  all_goals (refine WC.sr ?_)
  all_goals (refine WL.stepR okE_makeMap rfl rfl rfl ?_
             rintro _ h1 ⟨b1, rfl, hg1, hb1, hx1⟩)
  all_goals (refine WL.call (vs := []) rfl (fun a w => Tryz.call20 a w) rfl (new_port) rfl rfl rfl ?_
             rintro _ h2 ⟨bp, mp, rfl, hbp, hmp, hgp, hgm, hx2⟩)
  all_goals (refine Go ?_)
  all_goals (refine WL.step (ok_buildF (vs := [_, _, _, _]) (cs := [_, _, _, _, _, _]) (fun | [a0, a1, a2, a3] => [a0, a1, a2, a3, (.bool false), (.bool false)] | _ => []) rfl rfl (by kernel_rfl)) rfl rfl rfl ?_)
  all_goals (refine WL.stepR (okE_box rfl) rfl rfl rfl ?_
             rintro _ h3 ⟨b3, rfl, hg3, hb3, hx3⟩)
  all_goals (have l1 := lt_of_some hb1)
  all_goals (refine Go ?_)
  all_goals (refine Gs [(2, _)] ?_)
  all_goals (refine Gt ?_)
  all_goals (exact ⟨b3, b1, bp, mp, rfl, hb3, ⟨_, _, (hx2.trans hx3).obj hb1 id, MapKept.stamped_empty 0, rfl⟩, hx3.obj hbp nos, hmp.ext hx3 nos, hg1, by omega, by have := hx1.size; omega, by have := hx1.size; have := hx2.size; omega, (hx1.trans hx2).trans hx3⟩)
section
variable {h : Heap} {b : Nat} {m p : Value} {e : Option Addr} {st : Int} {sk ov : Bool}
set_option maxHeartbeats 2000000 in
set_option maxRecDepth 100000 in
theorem ready_yes {a : Addr} (hb : h[b]? = some (.cells ⟨[m, p, .pointer (some a), .int .u8 st, .bool sk, .bool ov]⟩ 54 (0, 0))) : CallsH Tryz.prog 21 ⟨[.pointer (some ⟨b, 0, none⟩)]⟩ h fun u h' => u = .bool (!ov) ∧ h' = h := by
  cases ov
  all_goals
    refine calls [(0, _)] Tryz.func21 rfl Tryz.ntmps21 rfl ⟨rfl, trivial⟩ ?_
    all_goals (refine WC.sr ?_)
    all_goals (refine Go ?_)
    all_goals (refine WC.sr ?_)
    all_goals (refine Go ?_)
    all_goals (refine WL.step (ok_neqPn Tryz.underlying25 rfl rfl) rfl rfl rfl ?_)
    all_goals (refine Go ?_)
    all_goals (refine goP 5 ?_ ?_ <;> first | exact ⟨⟩ | refine Hb.mk fun hb => ?_ | skip)
    all_goals (refine Gg ?_)
    all_goals (first | (refine WL.pass rfl rfl rfl ?_) | (refine WL.step (ok_nilCheck rfl) rfl rfl rfl ?_))
    all_goals (refine Gg ?_)
    all_goals (first | (refine WL.pass rfl rfl rfl ?_) | (refine Ld ?_))
    all_goals (first | (refine WL.pass rfl rfl rfl ?_) | (refine WL.step (ok_neqPn Tryz.underlying27 rfl rfl) rfl rfl rfl ?_))
    all_goals (refine Go ?_)
    all_goals (refine goP 12 ?_ ?_ <;> first | exact ⟨⟩ | refine Hb.mk fun hb => ?_ | skip)
    all_goals (refine Gg ?_)
    all_goals (first | (refine WL.pass rfl rfl rfl ?_) | (refine WL.step (ok_nilCheck rfl) rfl rfl rfl ?_))
    all_goals (refine Gg ?_)
    all_goals (first | (refine WL.pass rfl rfl rfl ?_) | (refine Ld ?_))
    all_goals (refine Gg ?_)
    all_goals (refine Go ?_)
    all_goals (refine Gs [(2, _)] ?_)
    all_goals (refine Gt ?_)
    all_goals (exact ⟨rfl, rfl⟩)
set_option maxHeartbeats 2000000 in
set_option maxRecDepth 100000 in
theorem skips_v (hb : h[b]? = some (.cells ⟨[m, p, .pointer e, .int .u8 st, .bool sk, .bool ov]⟩ 54 (0, 0))) : CallsH Tryz.prog 10 ⟨[.pointer (some ⟨b, 0, none⟩)]⟩ h fun u h' => u = .bool sk ∧ h' = h := by
  refine calls [(0, _)] Tryz.func10 rfl Tryz.ntmps10 rfl ⟨rfl, trivial⟩ ?_
  all_goals (refine WC.sr ?_)
  all_goals (refine Go ?_)
  all_goals (refine WC.sr ?_)
  all_goals (refine Go ?_)
  all_goals (refine WL.step (ok_neqPn Tryz.underlying25 rfl rfl) rfl rfl rfl ?_)
  all_goals (refine Go ?_)
  all_goals (refine goP 5 ?_ ?_ <;> first | exact ⟨⟩ | refine Hb.mk fun hb => ?_ | skip)
  all_goals (refine Gg ?_)
  all_goals (first | (refine WL.pass rfl rfl rfl ?_) | (refine WL.step (ok_nilCheck rfl) rfl rfl rfl ?_))
  all_goals (refine Gg ?_)
  all_goals (first | (refine WL.pass rfl rfl rfl ?_) | (refine Ld ?_))
  all_goals (refine Go ?_)
  all_goals (refine Gs [(2, _)] ?_)
  all_goals (refine Gt ?_)
  all_goals (exact ⟨rfl, rfl⟩)
set_option maxHeartbeats 2000000 in
set_option maxRecDepth 100000 in
theorem over_v (hb : h[b]? = some (.cells ⟨[m, p, .pointer e, .int .u8 st, .bool sk, .bool ov]⟩ 54 (0, 0))) : CallsH Tryz.prog 11 ⟨[.pointer (some ⟨b, 0, none⟩)]⟩ h fun u h' => u = .bool ov ∧ h' = h := by
  refine calls [(0, _)] Tryz.func11 rfl Tryz.ntmps11 rfl ⟨rfl, trivial⟩ ?_
  all_goals (refine WC.sr ?_)
  all_goals (refine Go ?_)
  all_goals (refine WC.sr ?_)
  all_goals (refine Go ?_)
  all_goals (refine WL.step (ok_neqPn Tryz.underlying25 rfl rfl) rfl rfl rfl ?_)
  all_goals (refine Go ?_)
  all_goals (refine goP 5 ?_ ?_ <;> first | exact ⟨⟩ | refine Hb.mk fun hb => ?_ | skip)
  all_goals (refine Gg ?_)
  all_goals (first | (refine WL.pass rfl rfl rfl ?_) | (refine WL.step (ok_nilCheck rfl) rfl rfl rfl ?_))
  all_goals (refine Gg ?_)
  all_goals (first | (refine WL.pass rfl rfl rfl ?_) | (refine Ld ?_))
  all_goals (refine Go ?_)
  all_goals (refine Gs [(2, _)] ?_)
  all_goals (refine Gt ?_)
  all_goals (exact ⟨rfl, rfl⟩)
set_option maxHeartbeats 2000000 in
set_option maxRecDepth 100000 in
theorem status_v (hb : h[b]? = some (.cells ⟨[m, p, .pointer e, .int .u8 st, .bool sk, .bool ov]⟩ 54 (0, 0))) : CallsH Tryz.prog 13 ⟨[.pointer (some ⟨b, 0, none⟩)]⟩ h fun u h' => u = .int .u8 st ∧ h' = h := by
  refine calls [(0, _)] Tryz.func13 rfl Tryz.ntmps13 rfl ⟨rfl, trivial⟩ ?_
  all_goals (refine WC.sr ?_)
  all_goals (refine Go ?_)
  all_goals (refine WC.seq ?_)
  all_goals (refine WC.sr ?_)
  all_goals (refine Go ?_)
  all_goals (refine WL.step (ok_eqlPn Tryz.underlying25 rfl rfl) rfl rfl rfl ?_)
  all_goals (refine Gn ?_)
  all_goals (refine goC 1 2 ?_ ?_ <;> first | exact ⟨⟩ | refine Hb.mk fun hb => ?_ | skip)
  all_goals (first | (fail_if_success refine goB 1 ?_) | (
  refine goB 1 ?_
  all_goals (refine WC.sr ?_)
  all_goals (refine Go ?_)
  all_goals (refine Gt ?_)
  all_goals (exact ⟨rfl, rfl⟩)
  skip))
  all_goals (first | (fail_if_success refine goB 2 ?_) | (
  refine goB 2 ?_
  all_goals (refine WC.skip ?_)
  skip))
  all_goals (refine Gn ?_)
  all_goals (refine WC.sr ?_)
  all_goals (refine Go ?_)
  all_goals (refine WL.step (ok_nilCheck rfl) rfl rfl rfl ?_)
  all_goals (refine Go ?_)
  all_goals (refine Ld ?_)
  all_goals (refine Go ?_)
  all_goals (refine Gs [(2, _)] ?_)
  all_goals (refine Gt ?_)
  all_goals (exact ⟨rfl, rfl⟩)
end
set_option maxHeartbeats 2000000 in
set_option maxRecDepth 100000 in
/-- Names of a session: rising. -/
theorem names_v {h : Heap} {b m : Nat} {p : Value} {e : Option Addr} {st : Int} {sk ov : Bool} {es : List (List UInt8 × Value)} (hb : h[b]? = some (.cells ⟨[.map (some m), p, .pointer e, .int .u8 st, .bool sk, .bool ov]⟩ 54 (0, 0))) (hm : Mp .string St h m es) (hl : es.length ≤ 100000) :
    CallsH Tryz.prog 12 ⟨[.pointer (some ⟨b, 0, none⟩)]⟩ h fun u h' => ∃ N, N.Perm (es.map (·.1)) ∧ Own h' u 9 1 N.length ((srtS N).map St) ∧ Ext No h h' := by
  have hbl := lt_of_some hb
  have hml := hm.lt
  refine calls [(0, _)] Tryz.func12 rfl Tryz.ntmps12 rfl ⟨rfl, trivial⟩ ?_
  all_goals (refine WC.sr ?_)
  all_goals (refine Go ?_)
  all_goals (refine WC.seq ?_)
  all_goals (refine WC.sr ?_)
  all_goals (refine Go ?_)
  all_goals (refine WL.step (ok_eqlPn Tryz.underlying25 rfl rfl) rfl rfl rfl ?_)
  all_goals (refine Gn ?_)
  all_goals (refine goC 1 2 ?_ ?_ <;> first | exact ⟨⟩ | refine Hb.mk fun hb => ?_ | skip)
  all_goals (first | (fail_if_success refine goB 1 ?_) | (
  refine goB 1 ?_
  all_goals (refine WC.sr ?_)
  all_goals (refine Go ?_)
  all_goals (refine Gt ?_)
  all_goals (exact ⟨ds.map (·.1), hperm.map _, ho4, (hx1.trans' hx2 (fun q hq e => by omega)).trans' hx4 (fun q hq e => by have := hf2 q e; omega)⟩)
  skip))
  all_goals (first | (fail_if_success refine goB 2 ?_) | (
  refine goB 2 ?_
  all_goals (refine WC.skip ?_)
  skip))
  all_goals (refine Gn ?_)
  all_goals (refine WC.sr ?_)
  all_goals (refine Go ?_)
  all_goals (refine WC.seq ?_)
  all_goals (refine WC.sr ?_)
  all_goals (refine Go ?_)
  all_goals (refine WL.step (ok_nilCheck rfl) rfl rfl rfl ?_)
  all_goals (refine Go ?_)
  all_goals (refine Ld ?_)
  all_goals (refine WL.stepR (okE_range Tryz.underlying50 rfl (by assumption)) rfl rfl rfl ?_
             rintro _ h1 ⟨r1, rfl, hgr1, hit1, hx1⟩)
  all_goals (refine Gn ?_)
  all_goals (refine Gs [(3, _), (11, _)] ?_)
  all_goals (refine WC.block ?_)
  -- loop 0: slots that turn [3], that stay [11]
  all_goals (refine WC.loopG (X := Value × List (List UInt8 × Value)) (fun x => ([(3, x.1)] : Fr)) [(11, _)] (fun x h' => It St h' r1 m es x.2 ∧ Own h' x.1 9 1 (x.2.map (·.1)).length ((x.2.map (·.1)).map St) ∧ Ext (fun k => k = r1) h1 h' ∧ ∀ k, x.1.ownBlock = some k → h1.size ≤ k) (fun x => es.length - x.2.length) ((.slice none 0 0, [])) ⟨rfl, rfl, trivial⟩ (by exact ⟨hit1, Own.nil _ _ _, .refl _ _, by simp [Value.ownBlock]⟩) ?_)
  all_goals (rintro ⟨v2, ds⟩ h2 ⟨hit2, ho2, hx2, hf2⟩
             simp only at hit2 ho2 hf2
             have hdl := sub_len hit2.nd hit2.sub
             have hml2 : (ds.map (·.1)).length = ds.length := List.length_map ..
             have hs2 := hx2.size
             have hrlt := hit1.lt
             have hs1 := hx1.size)
  all_goals (refine WC.sub [(3, _), (11, _)] ⟨rfl, rfl, trivial⟩ ?_)
  all_goals (dsimp only)
  all_goals (refine WC.sr ?_)
  all_goals (refine WL.stepR (okE_next keyS rfl hit2) rfl rfl rfl ?_
             rintro v h3 (⟨rfl, hz, hperm⟩ | ⟨p, rfl, hp3, hnp, hit3, hil3, hx3⟩))
  all_goals (try subst h3)
  all_goals (refine Go ?_)
  all_goals (refine WC.seq ?_)
  all_goals (refine goC 3 4 ?_ ?_ <;> first | exact ⟨⟩ | refine Hb.mk fun hb => ?_ | skip)
  all_goals (first | (fail_if_success refine goB 3 ?_) | (
  refine goB 3 ?_
  all_goals (refine WC.skip ?_)
  skip))
  all_goals (first | (fail_if_success refine goB 4 ?_) | (
  refine goB 4 ?_
  all_goals (refine WC.exit ?_)
  all_goals (repeat' (with_reducible first | refine thenP_x ?_ | refine blockP_miss rfl ?_ | refine blockP_hit ?_ | refine blockP_n ?_ | refine thenP_n ?_))
  all_goals (refine Br.out (i := 1000) ?_)
  skip))
  all_goals (refine Gn ?_)
  all_goals (first | (refine Br.keep ?_) | (refine WC.block ?_))
  all_goals (first | (refine Br.keep ?_) | (refine WC.sr ?_))
  all_goals (first | (refine Br.keep ?_) | (refine WL.step (ok_entry rfl hil3) rfl rfl rfl ?_))
  all_goals (refine Go ?_)
  all_goals (first | (refine Br.keep ?_) | (refine Gs [(3, _), (4, _), (11, _)] ?_))
  all_goals (first | (refine Br.keep ?_) | (refine WC.region ?_))
  all_goals (refine Go ?_)
  all_goals (first
               | (refine Br.keep ?_)
               | (refine WL.stepR (okE_buildSlice (vs := [_]) (cs := [_]) (fun | [a0] => [a0] | _ => []) Tryz.underlying35 rfl rfl (by kernel_rfl)) rfl rfl rfl ?_
                  rintro _ h4 ⟨b4, rfl, hg4, hb4, hx4⟩))
  all_goals (first
               | (refine Br.keep ?_)
               | (refine WL.stepR (ok_append (sz := 1) (bytes := 16) rfl Tryz.underlying35 (show Tryz.prog.info? 9 = some Tryz.t9 by kernel_rfl) rfl rfl rfl rfl (by decide) rfl rfl ((ho2.ext hx3 (fun k hk e => by have := hf2 k hk; omega)).ext hx4 (fun _ _ => nos)) (rd_blk hb4 rfl) (by simp [Value.oneCell']) (by simp only [maxLen]; omega) (by omega)) rfl rfl rfl ?_
                  rintro v5 h5 ⟨ho5, hx5, hl5⟩))
  all_goals (refine Go ?_)
  all_goals (first | (refine Br.keep ?_) | (exact ⟨(_, ds ++ [p]), ⟨rfl, rfl, trivial⟩, (by exact ⟨hit3.ext ((hx4.mono fun _ _ e => e.elim).trans hx5) (fun e => by have := hf2 _ e; omega) (fun e => by have := hf2 _ e; omega), by simpa using ho5, (hx2.trans (hx3.trans' hx4 fun _ _ e => e.elim)).trans' hx5 (fun q hq e => by have := hf2 q e; omega), fresh_of hl5 hf2 (by have := hx3.size; have := hx4.size; omega)⟩), (by have hd3 := sub_len hit3.nd hit3.sub; simp at hd3 ⊢; omega)⟩))
  all_goals (try (refine Br.mk (i := 1000) ?_))
  all_goals (refine Gn ?_)
  all_goals (refine WC.sr ?_)
  all_goals (refine Go ?_)
  all_goals (refine WL.call (vs := [_]) rfl (fun a w => Tryz.call26 a w) rfl (sort_str (ds.map (·.1)) ho2 (by omega)) rfl rfl rfl ?_
             rintro _ h4 ⟨rfl, ho4, hx4⟩)
  all_goals (refine Gn ?_)
  all_goals (refine Gs [(3, _)] ?_)
  all_goals (refine WC.sr ?_)
  all_goals (refine Go ?_)
  all_goals (refine Gt ?_)
  all_goals (exact ⟨ds.map (·.1), hperm.map _, ho4, (hx1.trans' hx2 (fun q hq e => by omega)).trans' hx4 (fun q hq e => by have := hf2 q e; omega)⟩)
end Go.Proofs.YtbokngiajfdanaaGreatDoor


/-
  WHERE THE FIRST STANDS THAT A PREDICATE TAKES, in plain Lean.
-/
namespace Go.Proofs.YtbokngiajfdanaaGreatDoor
open Go Go.RK

section
variable {α : Type} (p : α → Bool)
/-- Where the first stands that p takes; below 0: nowhere. -/
def idxP : List α → Int
  | [] => -1
  | a :: l => if p a then 0 else if idxP l < 0 then -1 else idxP l + 1
theorem idxP_cases (l : List α) : (idxP p l = -1 ∧ ∀ x ∈ l, p x = false) ∨ ∃ (k : Nat) (x : α), idxP p l = k ∧ l[k]? = some x ∧ p x = true ∧ ∀ y ∈ l.take k, p y = false := by
  induction l with
  | nil => exact .inl ⟨rfl, by simp⟩
  | cons a l ih =>
    unfold idxP
    cases h : p a
    · rw [if_neg (by simp)]
      rcases ih with ⟨h1, h2⟩ | ⟨k, x, h1, h2, h3, h4⟩
      · exact .inl ⟨by rw [h1]; rfl, by simpa [h] using h2⟩
      · exact .inr ⟨k + 1, x, by rw [h1, if_neg (by omega)]; omega, by simpa using h2, h3, by simpa [h] using h4⟩
    · exact .inr ⟨0, a, by simp, by simp, h, by simp⟩
variable {p}
theorem idxP_at {l : List α} {k : Nat} {x : α} (h1 : l[k]? = some x) (hx : p x = true) (h2 : ∀ y ∈ l.take k, p y = false) : idxP p l = k := by
  rcases idxP_cases p l with ⟨_, h⟩ | ⟨j, y, h, h3, h4, h5⟩
  · rw [h x (List.mem_of_getElem? h1)] at hx; cases hx
  · rw [h]
    rcases Nat.lt_trichotomy j k with e | e | e
    · rw [h2 y (List.mem_of_getElem? (show (l.take k)[j]? = some y by rw [List.getElem?_take, if_pos e]; exact h3))] at h4; cases h4
    · rw [e]
    · rw [h5 x (List.mem_of_getElem? (show (l.take j)[k]? = some x by rw [List.getElem?_take, if_pos e]; exact h1))] at hx; cases hx
theorem idxP_no {l : List α} (h : ∀ x ∈ l, p x = false) : idxP p l = -1 := by
  rcases idxP_cases p l with ⟨e, _⟩ | ⟨j, y, _, h3, h4, _⟩
  · exact e
  · rw [h y (List.mem_of_getElem? h3)] at h4; cases h4
theorem idxP_geq (l : List α) : decide (0 ≤ idxP p l) = l.any p := by
  rcases idxP_cases p l with ⟨e, h⟩ | ⟨j, y, e, h3, h4, _⟩
  · rw [e, (List.any_eq_false.2 (fun x hx => by rw [h x hx]; simp) : l.any p = false)]
    rfl
  · rw [e, (List.any_eq_true.2 ⟨y, List.mem_of_getElem? h3, h4⟩ : l.any p = true)]
    exact decide_eq_true (by omega)
theorem take_snoc_p {l : List α} {y : α} {k : Nat} (h : ∀ x ∈ l.take k, p x = false) (hk : l[k]? = some y) (hy : p y = false) : ∀ x ∈ l.take (k + 1), p x = false := by
  intro x hx
  rw [List.take_add_one, hk] at hx
  simp only [Option.toList_some, List.mem_append, List.mem_singleton] at hx
  rcases hx with hx | rfl
  · exact h x hx
  · exact hy
end
end Go.Proofs.YtbokngiajfdanaaGreatDoor


/-
  VALUES OF INTERFACE TYPES: made, and held against nil. No program is named here.
-/
namespace Go.RK
open Go

section
variable {P : Program} {f : Fr} {h : Heap} {d : Option Tmp} {ty : TypeId} {pos : String} {af : Array Edge} {g : Option (Nat × Bool)}
theorem ok_mkIface {x : Operand} {t : TypeId} {v : Value} (hu : ∃ u, P.underlying t = some u ∧ ∀ ms, u ≠ .interface ms) (hx : f.ev x = some v) : OkP P f ⟨d, .makeInterface t x, ty, pos, af, g⟩ h (.iface t v) := fun ρ w ha _ => by
  obtain ⟨u, h1, h2⟩ := hu
  have key : (Instr.makeInterface t v).run P w = .ok (.iface t v) w := by
    simp only [Instr.makeInterface, Sem.run_bind, run_underlying h1, Result.andThen_ok]
    cases u <;> first | rfl | exact absurd rfl (h2 _)
  simp [execOp, ha _ _ hx, key]
theorem ok_eqlIh {t t2 u : TypeId} {x y : Operand} {v : Value} (hu : P.underlying t = some (.interface (P.methodsAt t))) (hx : f.ev x = some (.iface u v)) (hy : f.ev y = some .nilIface) : OkP P f ⟨d, .binOp .eql t x y t2, ty, pos, af, g⟩ h (.bool false) := fun ρ w ha _ => by
  simp [execOp, ha _ _ hx, ha _ _ hy, eqGuard_at_iface, run_eql_held_nil w t u v hu]
theorem ok_neqIh {t t2 u : TypeId} {x y : Operand} {v : Value} (hu : P.underlying t = some (.interface (P.methodsAt t))) (hx : f.ev x = some (.iface u v)) (hy : f.ev y = some .nilIface) : OkP P f ⟨d, .binOp .neq t x y t2, ty, pos, af, g⟩ h (.bool true) := fun ρ w ha _ => by
  simp [execOp, ha _ _ hx, ha _ _ hy, eqGuard_at_iface, run_neq_held_nil w t u v hu]
theorem ok_eqlIn {t t2 : TypeId} {x : Operand} {c : Value} (hu : P.underlying t = some (.interface (P.methodsAt t))) (hx : f.ev x = some .nilIface) (hy : f.ev (.const c) = some .nilIface) : OkP P f ⟨d, .binOp .eql t x (.const c) t2, ty, pos, af, g⟩ h (.bool true) := fun ρ w ha _ => by
  have := ha _ _ hy
  simp [execOp, ha _ _ hx, this, eqGuard_nil_constR, run_eql_nil_nil w t hu]
theorem ok_neqIn {t t2 : TypeId} {x : Operand} {c : Value} (hu : P.underlying t = some (.interface (P.methodsAt t))) (hx : f.ev x = some .nilIface) (hy : f.ev (.const c) = some .nilIface) : OkP P f ⟨d, .binOp .neq t x (.const c) t2, ty, pos, af, g⟩ h (.bool false) := fun ρ w ha _ => by
  have := ha _ _ hy
  simp [execOp, ha _ _ hx, this, eqGuard_nil_constR, run_neq_nil_nil w t hu]
end
end Go.RK

/-
  SESSIONS (layers 26, 27, 29): what "begin" says.
-/
namespace Go.Proofs.YtbokngiajfdanaaGreatDoor
open Go Go.RK

abbrev beginL : List UInt8 := ([98, 101, 103, 105, 110] : List UInt8)
set_option maxHeartbeats 2000000 in
set_option maxRecDepth 100000 in
theorem trimL_no {h : Heap} (y : UInt8) (s : List UInt8) (c : Int) (hy : (y.toNat : Int) ≠ c) (hm : s.length ≤ 1000000) : CallsH Tryz.prog 178 ⟨[St (y :: s), .int .u8 c]⟩ h fun u h' => u = St (y :: s) ∧ h' = h := by
  have e0 : (y :: s)[0]? = some y := rfl
  refine calls [(0, _), (1, _)] Tryz.func178 rfl Tryz.ntmps178 rfl ⟨rfl, rfl, trivial⟩ ?_
  all_goals (refine WC.sr ?_)
  all_goals (refine Go ?_)
  all_goals (refine WC.seq ?_)
  all_goals (refine WC.block ?_)
  -- loop 0: slots that turn [0], that stay [1]
  all_goals (refine WC.loopG (X := Unit) (fun x => ([(0, St (y :: s))] : Fr)) [(1, _)] (fun _ h' => h' = h) (fun _ => 0) (()) ⟨rfl, rfl, trivial⟩ (by exact rfl) ?_)
  all_goals (rintro _ h1 hz
             subst hz)
  all_goals (refine WC.sub [(0, _), (1, _)] ⟨rfl, rfl, trivial⟩ ?_)
  all_goals (refine WC.seq ?_)
  all_goals (refine WC.sr ?_)
  all_goals (refine Go ?_)
  all_goals (refine goP 8 ?_ ?_ <;> first | exact ⟨⟩ | refine Hb.mk fun hb => ?_ | skip)
  all_goals (refine Gg ?_)
  all_goals (first | (refine WL.pass rfl rfl rfl ?_) | (refine WL.step (ok_idxS Tryz.underlying9 rfl rfl (by omega) e0) rfl rfl rfl ?_))
  all_goals (refine Gg ?_)
  all_goals (refine Go ?_)
  all_goals (refine Gs [(0, _), (1, _), (13, _)] ?_)
  all_goals (refine goC 1 2 ?_ ?_ <;> first | exact ⟨⟩ | refine Hb.mk fun hb => ?_ | skip)
  all_goals (first | (fail_if_success refine goB 1 ?_) | (
  refine goB 1 ?_
  all_goals (refine WC.skip ?_)
  skip))
  all_goals (first | (fail_if_success refine goB 2 ?_) | (
  refine goB 2 ?_
  all_goals (refine WC.exit ?_)
  all_goals (repeat' (with_reducible first | refine thenP_x ?_ | refine blockP_miss rfl ?_ | refine blockP_hit ?_ | refine blockP_n ?_ | refine thenP_n ?_))
  all_goals (refine Br.out (i := 1000) ?_)
  skip))
  all_goals (refine Gn ?_)
  all_goals (first | (refine Br.keep ?_) | (refine WC.block ?_))
  all_goals (first | (refine Br.keep ?_) | (refine WC.region ?_))
  all_goals (refine Go ?_)
  all_goals (first | (refine Br.keep ?_) | (refine WL.step (ok_slice_sl Tryz.underlying9 rfl rfl (by first | omega | (simp <;> omega))) rfl rfl rfl ?_))
  all_goals (refine Go ?_)
  all_goals (first | (refine Br.keep ?_) | (exact ⟨(), ⟨rfl, rfl, trivial⟩, (by exact rfl), (by (exfalso; simp at *; omega))⟩))
  all_goals (try (refine Br.mk (i := 1000) ?_))
  all_goals (refine Gn ?_)
  all_goals (refine WC.sr ?_)
  all_goals (refine Go ?_)
  all_goals (refine Gs [(4, _)] ?_)
  all_goals (refine Gt ?_)
  all_goals (first | exact ⟨rfl, rfl⟩ | (exfalso; simp at *; omega))
set_option maxHeartbeats 2000000 in
set_option maxRecDepth 100000 in
theorem trimR_no {h : Heap} (y : UInt8) (s : List UInt8) (c : Int) (hy : (y.toNat : Int) ≠ c) (hm : s.length ≤ 1000000) : CallsH Tryz.prog 179 ⟨[St (s ++ [y]), .int .u8 c]⟩ h fun u h' => u = St (s ++ [y]) ∧ h' = h := by
  have e0 : (s ++ [y])[s.length]? = some y := by simp
  have el : (s ++ [y]).length = s.length + 1 := by simp
  generalize s ++ [y] = t at *
  refine calls [(0, _), (1, _)] Tryz.func179 rfl Tryz.ntmps179 rfl ⟨rfl, rfl, trivial⟩ ?_
  all_goals (refine WC.sr ?_)
  all_goals (refine Go ?_)
  all_goals (refine WC.seq ?_)
  all_goals (refine WC.block ?_)
  -- loop 0: slots that turn [0], that stay [1]
  all_goals (refine WC.loopG (X := Unit) (fun x => ([(0, St t)] : Fr)) [(1, _)] (fun _ h' => h' = h) (fun _ => 0) (()) ⟨rfl, rfl, trivial⟩ (by exact rfl) ?_)
  all_goals (rintro _ h1 hz
             subst hz)
  all_goals (refine WC.sub [(0, _), (1, _)] ⟨rfl, rfl, trivial⟩ ?_)
  all_goals (refine WC.seq ?_)
  all_goals (refine WC.sr ?_)
  all_goals (refine Go ?_)
  all_goals (refine goP 8 ?_ ?_ <;> first | exact ⟨⟩ | refine Hb.mk fun hb => ?_ | skip)
  all_goals (first | (refine WL.pass rfl rfl rfl ?_) | (refine WL.step (ok_move rfl) rfl rfl rfl ?_))
  all_goals (first | (refine WL.pass rfl rfl rfl ?_) | (refine WL.step (ok_move rfl) rfl rfl rfl ?_))
  all_goals (first | (refine WL.pass rfl rfl rfl ?_) | (refine WL.step (ok_lenS rfl Tryz.underlying9 rfl) rfl rfl rfl ?_))
  all_goals (first | (refine WL.pass rfl rfl rfl ?_) | (first | (refine WL.step (ok_subI rfl rfl (by omega)) rfl rfl rfl ?_) | (refine WL.step (ok_sub rfl rfl) rfl rfl rfl ?_)))
  all_goals (rw [show ((t.length : Int) - 1) = ((s.length : Nat) : Int) by omega])
  all_goals (first | (refine WL.pass rfl rfl rfl ?_) | (refine WL.step (ok_idxS Tryz.underlying9 rfl rfl (by omega) e0) rfl rfl rfl ?_))
  all_goals (refine Gg ?_)
  all_goals (refine Go ?_)
  all_goals (refine Gs [(0, _), (1, _), (16, _)] ?_)
  all_goals (refine goC 1 2 ?_ ?_ <;> first | exact ⟨⟩ | refine Hb.mk fun hb => ?_ | skip)
  all_goals (first | (fail_if_success refine goB 1 ?_) | (
  refine goB 1 ?_
  all_goals (refine WC.skip ?_)
  skip))
  all_goals (first | (fail_if_success refine goB 2 ?_) | (
  refine goB 2 ?_
  all_goals (refine WC.exit ?_)
  all_goals (repeat' (with_reducible first | refine thenP_x ?_ | refine blockP_miss rfl ?_ | refine blockP_hit ?_ | refine blockP_n ?_ | refine thenP_n ?_))
  all_goals (refine Br.out (i := 1000) ?_)
  skip))
  all_goals (refine Gn ?_)
  all_goals (first | (refine Br.keep ?_) | (refine WC.block ?_))
  all_goals (first | (refine Br.keep ?_) | (refine WC.region ?_))
  all_goals (refine Go ?_)
  all_goals (first | (refine Br.keep ?_) | (refine WL.step (ok_slice_sh Tryz.underlying9 rfl rfl (by first | omega | (simp <;> omega))) rfl rfl rfl ?_))
  all_goals (refine Go ?_)
  all_goals (first | (refine Br.keep ?_) | (exact ⟨(), ⟨rfl, rfl, trivial⟩, (by exact rfl), (by (exfalso; simp at *; omega))⟩))
  all_goals (try (refine Br.mk (i := 1000) ?_))
  all_goals (refine Gn ?_)
  all_goals (refine WC.sr ?_)
  all_goals (refine Go ?_)
  all_goals (refine Gs [(4, _)] ?_)
  all_goals (refine Gt ?_)
  all_goals (first | exact ⟨rfl, rfl⟩ | (exfalso; simp at *; omega))
set_option maxHeartbeats 2000000 in
set_option maxRecDepth 100000 in
theorem trim_no {h : Heap} (y z : UInt8) (s : List UInt8) (hy : y ≠ 32) (hz : z ≠ 32) (hm : s.length ≤ 1000) : CallsH Tryz.prog 137 ⟨[St (y :: (s ++ [z])), St [32]]⟩ h fun u h' => u = St (y :: (s ++ [z])) ∧ h' = h := by
  have hy' : (y.toNat : Int) ≠ 32 := fun e => hy (UInt8.toNat_inj.1 (by show _ = 32; omega))
  have hz' : (z.toNat : Int) ≠ 32 := fun e => hz (UInt8.toNat_inj.1 (by show _ = 32; omega))
  have k1 := trimR_no (h := h) z (y :: s) 32 hz' (by simp; omega)
  have k2 := trimL_no (h := h) y (s ++ [z]) 32 hy' (by simp; omega)
  rw [List.cons_append] at k1
  have hne : y :: (s ++ [z]) ≠ [] := by simp
  generalize y :: (s ++ [z]) = t at *
  have e0 : ([32] : List UInt8)[0]? = some 32 := rfl
  refine calls [(0, _), (1, _)] Tryz.func137 rfl Tryz.ntmps137 rfl ⟨rfl, rfl, trivial⟩ ?_
  all_goals (refine WC.sr ?_)
  all_goals (refine Go ?_)
  all_goals (refine WC.seq ?_)
  all_goals (refine WC.sr ?_)
  all_goals (refine Go ?_)
  all_goals (refine goP 9 ?_ ?_ <;> first | exact ⟨⟩ | refine Hb.mk fun hb => ?_ | skip)
  all_goals (refine Gg ?_)
  all_goals (refine Go ?_)
  all_goals (refine Gs [(0, _), (1, _), (12, _)] ?_)
  all_goals (refine goC 1 2 ?_ ?_ <;> first | exact ⟨⟩ | refine Hb.mk fun hb => ?_ | skip)
  all_goals (first | (fail_if_success refine goB 1 ?_) | (
  refine goB 1 ?_
  all_goals (refine WC.sr ?_)
  all_goals (refine Go ?_)
  all_goals (refine Gs [(4, _)] ?_)
  all_goals (refine Gt ?_)
  all_goals (exact ⟨rfl, rfl⟩)
  skip))
  all_goals (first | (fail_if_success refine goB 2 ?_) | (
  refine goB 2 ?_
  all_goals (refine WC.skip ?_)
  skip))
  all_goals (refine Gn ?_)
  all_goals (refine WC.seq ?_)
  all_goals (refine WC.sr ?_)
  all_goals (refine Go ?_)
  all_goals (refine goP 17 ?_ ?_ <;> first | exact ⟨⟩ | refine Hb.mk fun hb => ?_ | skip)
  all_goals (refine Gg ?_)
  all_goals (first | (refine WL.pass rfl rfl rfl ?_) | (refine WL.step (ok_idxS Tryz.underlying9 rfl rfl (by omega) e0) rfl rfl rfl ?_))
  all_goals (refine Gg ?_)
  all_goals (refine Go ?_)
  all_goals (refine Gs [(0, _), (1, _), (21, _)] ?_)
  all_goals (refine goC 3 4 ?_ ?_ <;> first | exact ⟨⟩ | refine Hb.mk fun hb => ?_ | skip)
  all_goals (first | (fail_if_success refine goB 3 ?_) | (
  refine goB 3 ?_
  all_goals (refine WC.seq ?_)
  all_goals (refine WC.drawH (fun h' => h' = h) 7 8 rfl fol ?_)
  all_goals (refine WH.tk 0 rfl (fun hq hC => ok_move rfl) rfl rfl rfl ?_ (hC := rfl))
  all_goals (refine WH.tk 1 rfl (fun hq hC => ok_move rfl) rfl rfl rfl ?_ (hC := rfl))
  all_goals (refine WH.tk 2 rfl (fun hq hC => ok_idxS Tryz.underlying9 rfl rfl (by omega) e0) rfl rfl rfl ?_ (hC := rfl))
  all_goals (refine WH.tk 4 rfl (fun hq hC => ok_move rfl) rfl rfl rfl ?_ (hC := rfl))
  all_goals (refine WH.tk 5 rfl (fun hq hC => ok_idxS Tryz.underlying9 rfl rfl (by omega) e0) rfl rfl rfl ?_ (hC := rfl))
  all_goals (refine WH.one 3 (by kernel_rfl) ?_)
  all_goals (refine Comes1.call (vs := [_, _]) rfl rfl (fun a w => Tryz.call179 a w) rfl (k1) rfl rfl rfl ?_ (fun _ => by kernel_rfl)
             rintro _ hq ⟨rfl, hz1⟩
             subst hz1)
  all_goals (refine ⟨fun _ => rfl, ?_⟩)
  all_goals (refine WH.one 6 (by kernel_rfl) ?_)
  all_goals (refine Comes1.call (vs := [_, _]) rfl rfl (fun a w => Tryz.call178 a w) rfl (k2) rfl rfl rfl ?_ (fun _ => by kernel_rfl)
             rintro _ hq ⟨rfl, hz2⟩
             subst hz2)
  all_goals (refine ⟨fun _ => rfl, ?_⟩)
  all_goals (refine WH.one 7 (by kernel_rfl) ?_)
  all_goals (refine Comes1.run rfl (OkP.r (ok_assign rfl)) rfl rfl rfl ?_ (fun _ => by kernel_rfl)
             rintro _ hz ⟨rfl, _⟩
             subst hz)
  all_goals (refine ⟨fun e => (by cases e), ?_⟩)
  all_goals (refine WH.done (by kernel_rfl) ?_)
  all_goals (refine Gn ?_)
  all_goals (refine Gs [(4, _)] ?_)
  all_goals (refine Gt ?_)
  all_goals (exact ⟨rfl, rfl⟩)
  skip))
  all_goals (first | (fail_if_success refine goB 4 ?_) | (
  refine goB 4 ?_
  all_goals (refine WC.skip ?_)
  skip))
  all_goals (refine Gn ?_)
  all_goals (refine WC.seq ?_)
  all_goals (refine WC.sr ?_)
  all_goals (refine Go ?_)
  all_goals (fail "no contract for call of strings.makeASCIISet at 5.1")
  all_goals (refine Go ?_)
  all_goals (refine WL.stepR (okE_alloc (fun w => Tryz.zeroValue251 w)) rfl rfl rfl ?_
             rintro _ h1 ⟨b1, rfl, hg1, hb1, hx1⟩)
  all_goals (refine WL.stepR0 (okE_storeW (fun w => Tryz.sizeOf251 w) rfl rfl rfl (by assumption) rfl (by simp [Value.oneCell'])) rfl rfl ?_
             rintro _ h1 ⟨hb1, hx1⟩)
  all_goals (refine Go ?_)
  all_goals (refine Gs [(0, _), (1, _), (5, _), (6, _)] ?_)
  all_goals (refine WC.sr ?_)
  all_goals (refine Go ?_)
  all_goals (refine goC 5 6 ?_ ?_ <;> first | exact ⟨⟩ | refine Hb.mk fun hb => ?_ | skip)
  all_goals (first | (fail_if_success refine goB 6 ?_) | (
  refine goB 6 ?_
  all_goals (refine WC.skip ?_)
  skip))
  all_goals (refine Gn ?_)
  all_goals (refine WC.sr ?_)
  all_goals (refine Go ?_)
  all_goals (fail "no contract for call of strings.trimRightUnicode at 8.2")
  all_goals (refine Go ?_)
  all_goals (fail "no contract for call of strings.trimLeftUnicode at 8.4")
  all_goals (refine Go ?_)
  all_goals (refine Gs [(4, _)] ?_)
  all_goals (refine Gt ?_)
  all_goals (exact ⟨rfl, rfl⟩)
set_option maxHeartbeats 2000000 in
set_option maxRecDepth 100000 in
theorem word_begin {h : Heap} : CallsH Tryz.prog 138 ⟨[St beginL]⟩ h fun u h' => u = .tuple ⟨[In 2, .bool true]⟩ ∧ h' = h := by
  refine calls [(0, _)] Tryz.func138 rfl Tryz.ntmps138 rfl ⟨rfl, trivial⟩ ?_
  all_goals (refine WC.sr ?_)
  all_goals (refine Go ?_)
  all_goals (refine WC.seq ?_)
  all_goals (refine WC.sr ?_)
  all_goals (refine Go ?_)
  all_goals (refine WC.block ?_)
  all_goals (refine WC.sr ?_)
  all_goals (refine Go ?_)
  all_goals (refine Gs [(4, _), (5, _)] ?_)
  all_goals (refine goC 1 2 ?_ ?_ <;> first | exact ⟨⟩ | refine Hb.mk fun hb => ?_ | skip)
  all_goals (first | (fail_if_success refine goB 1 ?_) | (
  refine goB 1 ?_
  all_goals (refine WC.sr ?_)
  all_goals (refine Go ?_)
  all_goals (refine Gt ?_)
  all_goals (exact ⟨rfl, rfl⟩)
  skip))
  all_goals (first | (fail_if_success refine goB 2 ?_) | (
  refine goB 2 ?_
  all_goals (refine WC.sr ?_)
  all_goals (refine Go ?_)
  all_goals (refine goC 3 4 ?_ ?_ <;> first | exact ⟨⟩ | refine Hb.mk fun hb => ?_ | skip)
  all_goals (first | (fail_if_success refine goB 3 ?_) | (
  refine goB 3 ?_
  all_goals (refine WC.sr ?_)
  all_goals (refine Go ?_)
  all_goals (refine Gs [(2, _), (3, _)] ?_)
  all_goals (refine Gt ?_)
  all_goals (exact ⟨rfl, rfl⟩)
  skip))
  all_goals (first | (fail_if_success refine goB 4 ?_) | (
  refine goB 4 ?_
  all_goals (refine WC.sr ?_)
  all_goals (refine Go ?_)
  all_goals (refine Gs [(4, _), (9, _)] ?_)
  all_goals (refine goC 5 6 ?_ ?_ <;> first | exact ⟨⟩ | refine Hb.mk fun hb => ?_ | skip)
  all_goals (first | (fail_if_success refine goB 5 ?_) | (
  refine goB 5 ?_
  all_goals (refine WC.sr ?_)
  all_goals (refine Go ?_)
  all_goals (refine Gt ?_)
  all_goals (exact ⟨rfl, rfl⟩)
  skip))
  all_goals (first | (fail_if_success refine goB 6 ?_) | (
  refine goB 6 ?_
  all_goals (refine WC.sr ?_)
  all_goals (refine Go ?_)
  all_goals (refine goC 7 8 ?_ ?_ <;> first | exact ⟨⟩ | refine Hb.mk fun hb => ?_ | skip)
  all_goals (first | (fail_if_success refine goB 7 ?_) | (
  refine goB 7 ?_
  all_goals (refine WC.sr ?_)
  all_goals (refine Go ?_)
  all_goals (refine Gs [(2, _), (3, _)] ?_)
  all_goals (refine Gt ?_)
  all_goals (exact ⟨rfl, rfl⟩)
  skip))
  all_goals (first | (fail_if_success refine goB 8 ?_) | (
  refine goB 8 ?_
  all_goals (refine WC.sr ?_)
  all_goals (refine Go ?_)
  all_goals (refine Gs [(4, _), (13, _)] ?_)
  all_goals (refine goC 9 10 ?_ ?_ <;> first | exact ⟨⟩ | refine Hb.mk fun hb => ?_ | skip)
  all_goals (first | (fail_if_success refine goB 9 ?_) | (
  refine goB 9 ?_
  all_goals (refine WC.sr ?_)
  all_goals (refine Go ?_)
  all_goals (refine Gt ?_)
  all_goals (exact ⟨rfl, rfl⟩)
  skip))
  all_goals (first | (fail_if_success refine goB 10 ?_) | (
  refine goB 10 ?_
  all_goals (refine WC.sr ?_)
  all_goals (refine Go ?_)
  all_goals (refine goC 11 12 ?_ ?_ <;> first | exact ⟨⟩ | refine Hb.mk fun hb => ?_ | skip)
  all_goals (first | (fail_if_success refine goB 11 ?_) | (
  refine goB 11 ?_
  all_goals (refine WC.sr ?_)
  all_goals (refine Go ?_)
  all_goals (refine Gs [(2, _), (3, _)] ?_)
  all_goals (refine Gt ?_)
  all_goals (exact ⟨rfl, rfl⟩)
  skip))
  all_goals (first | (fail_if_success refine goB 12 ?_) | (
  refine goB 12 ?_
  all_goals (refine WC.skip ?_)
  skip))
  skip))
  skip))
  skip))
  skip))
  skip))
  all_goals (refine Gn ?_)
  all_goals (refine Gs [] ?_)
  all_goals (refine WC.sr ?_)
  all_goals (refine Go ?_)
  all_goals (refine Gt ?_)
  all_goals (exact ⟨rfl, rfl⟩)
/-- A verb's cells. -/
def veC (k n : Int) (c : List UInt8) : List Value := [In k, In n, St c]
set_option maxHeartbeats 2000000 in
set_option maxRecDepth 100000 in
theorem parse_begin {h : Heap} : CallsH Tryz.prog 89 ⟨[St beginL]⟩ h fun u h' => u = .agg ⟨veC 2 0 []⟩ ∧ Ext No h h' := by
  have kt := fun h' => trim_no (h := h') 98 110 [101, 103, 105] (by decide) (by decide) (by decide)
  unfold veC
  refine calls [(0, _)] Tryz.func89 rfl Tryz.ntmps89 rfl ⟨rfl, trivial⟩ ?_
  all_goals (refine WC.sr ?_)
  all_goals (refine WL.stepR (okE_alloc (fun w => Tryz.zeroValue152 w)) rfl rfl rfl ?_
             rintro _ h1 ⟨b2, rfl, hg2, hb2, hx2⟩)
  all_goals (refine Gn ?_)
  all_goals (refine WC.sr ?_)
  all_goals (refine Go ?_)
  all_goals (refine WL.call (vs := [_, _]) rfl (fun a w => Tryz.call137 a w) rfl (kt _) rfl rfl rfl ?_
             rintro _ hq ⟨rfl, hz⟩
             subst hz)
  all_goals (refine Go ?_)
  all_goals (refine WC.seq ?_)
  all_goals (refine WC.sr ?_)
  all_goals (refine Go ?_)
  all_goals (refine WL.call (vs := [_]) rfl (fun a w => Tryz.call138 a w) rfl (word_begin) rfl rfl rfl ?_
             rintro _ hq ⟨rfl, hz⟩
             subst hz)
  all_goals (refine Go ?_)
  all_goals (refine Gs [(2, _), (3, _), (4, _), (5, _)] ?_)
  all_goals (refine WC.sr ?_)
  all_goals (refine Go ?_)
  all_goals (refine goC 1 2 ?_ ?_ <;> first | exact ⟨⟩ | refine Hb.mk fun hb => ?_ | skip)
  all_goals (first | (fail_if_success refine goB 1 ?_) | (
  refine goB 1 ?_
  all_goals (refine WC.sr ?_)
  all_goals (refine Go ?_)
  all_goals (refine WL.step (ok_buildF (vs := [_]) (cs := [_, _, _]) (fun | [a0] => [a0, (.int .i64 0), (St [])] | _ => []) rfl rfl (by kernel_rfl)) rfl rfl rfl ?_)
  all_goals (refine WL.stepR0 (okE_storeW (fun w => Tryz.sizeOf152 w) rfl rfl rfl hb2 rfl (by simp [Value.oneCell'])) rfl rfl ?_
             rintro _ h3 ⟨hb3, hx3⟩)
  all_goals (refine Gn ?_)
  all_goals (refine Gs [(2, _)] ?_)
  all_goals (refine WC.ret ?_)
  all_goals (repeat' (with_reducible first | refine thenP_r ?_ | refine blockP_r ?_))
  all_goals (refine retP_1 _ ⟨⟨_, rfl, ld_blk (fun w => Tryz.isAgg152 w) (fun w => Tryz.sizeOf152 w) hb3 rfl⟩, trivial⟩ ?_)
  all_goals (exact ⟨rfl, hx2.trans' hx3 (fun q hq e => by omega)⟩)
  skip))
  all_goals (first | (fail_if_success refine goB 2 ?_) | (
  refine goB 2 ?_
  all_goals (refine WC.skip ?_)
  skip))
  all_goals (refine Gn ?_)
  all_goals (refine WC.sr ?_)
  all_goals (refine Go ?_)
  all_goals (fail "no contract for call of strings.Cut at 5.1")
  all_goals (refine Go ?_)
  all_goals (refine Gs [(2, _), (6, _), (7, _), (8, _)] ?_)
  all_goals (refine WC.seq ?_)
  all_goals (refine WC.sr ?_)
  all_goals (refine Go ?_)
  all_goals (refine goC 3 4 ?_ ?_ <;> first | exact ⟨⟩ | refine Hb.mk fun hb => ?_ | skip)
  all_goals (first | (fail_if_success refine goB 3 ?_) | (
  refine goB 3 ?_
  all_goals (refine WC.sr ?_)
  all_goals (refine WL.step (ok_buildF (vs := []) (cs := [_, _, _]) (fun | [] => [(.int .i64 0), (.int .i64 0), (St [])] | _ => []) rfl rfl (by kernel_rfl)) rfl rfl rfl ?_)
  all_goals (refine WL.stepR0 (okE_storeW (fun w => Tryz.sizeOf152 w) rfl rfl rfl (by assumption) rfl (by simp [Value.oneCell'])) rfl rfl ?_
             rintro _ h1 ⟨hb1, hx1⟩)
  all_goals (refine Gn ?_)
  all_goals (refine Gs [(2, _)] ?_)
  all_goals (refine WC.ret ?_)
  all_goals (repeat' (with_reducible first | refine thenP_r ?_ | refine blockP_r ?_))
  all_goals (refine retP_1 _ ⟨⟨_, rfl, ld_blk (fun w => Tryz.isAgg152 w) (fun w => Tryz.sizeOf152 w) hb3 rfl⟩, trivial⟩ ?_)
  all_goals (exact ⟨rfl, hx2.trans' hx3 (fun q hq e => by omega)⟩)
  skip))
  all_goals (first | (fail_if_success refine goB 4 ?_) | (
  refine goB 4 ?_
  all_goals (refine WC.skip ?_)
  skip))
  all_goals (refine Gn ?_)
  all_goals (refine WC.sr ?_)
  all_goals (refine Go ?_)
  all_goals (fail "no contract for call of remuda/sql.pair at 8.2")
  all_goals (refine WL.stepR0 (okE_storeW (fun w => Tryz.sizeOf152 w) rfl rfl rfl (by assumption) rfl (by simp [Value.oneCell'])) rfl rfl ?_
             rintro _ h1 ⟨hb1, hx1⟩)
  all_goals (refine Gn ?_)
  all_goals (refine Gs [(2, _)] ?_)
  all_goals (refine WC.ret ?_)
  all_goals (repeat' (with_reducible first | refine thenP_r ?_ | refine blockP_r ?_))
  all_goals (refine retP_1 _ ⟨⟨_, rfl, ld_blk (fun w => Tryz.isAgg152 w) (fun w => Tryz.sizeOf152 w) hb3 rfl⟩, trivial⟩ ?_)
  all_goals (exact ⟨rfl, hx2.trans' hx3 (fun q hq e => by omega)⟩)
set_option maxHeartbeats 2000000 in
set_option maxRecDepth 100000 in
theorem contains_v {h : Heap} {A : Option Addr} {c : Nat} (l : List Int) (x : Int) (hr : Rd h (.slice A l.length c) 1 l.length (ints l)) (hm : l.length ≤ maxLen) :
    CallsH Tryz.prog 188 ⟨[.slice A l.length c, In x]⟩ h fun u h' => u = .bool (decide (0 ≤ idxOf l x)) ∧ h' = h := by
  refine calls [(0, _), (1, _)] Tryz.func188 rfl Tryz.ntmps188 rfl ⟨rfl, rfl, trivial⟩ ?_
  all_goals (refine WC.sr ?_)
  all_goals (refine Go ?_)
  all_goals (refine WC.sr ?_)
  all_goals (refine Go ?_)
  all_goals (refine WL.call (vs := [_, _]) rfl (fun a w => Tryz.call211 a w) rfl (index_int l x hr hm) rfl rfl rfl ?_
             rintro _ hq ⟨rfl, hz⟩
             subst hz)
  all_goals (refine WL.step (ok_geq rfl rfl) rfl rfl rfl ?_)
  all_goals (refine Go ?_)
  all_goals (refine Gs [(4, _)] ?_)
  all_goals (refine Gt ?_)
  all_goals (exact ⟨rfl, rfl⟩)
set_option maxHeartbeats 2000000 in
set_option maxRecDepth 100000 in
theorem one_v {h : Heap} {A : Option Addr} {cc : Nat} (k n : Int) (c : List UInt8) (l : List Int) (hr : Rd h (.slice A l.length cc) 1 l.length (ints l)) (hm : l.length ≤ maxLen) :
    CallsH Tryz.prog 141 ⟨[.agg ⟨veC k n c⟩, .slice A l.length cc]⟩ h fun u h' => u = .bool (decide (k ∈ l)) ∧ Ext No h h' := by
  have e : decide (0 ≤ idxOf l k) = decide (k ∈ l) := by
    rcases idxOf_cases l k with ⟨e, hn⟩ | ⟨j, e, hj, _⟩
    · rw [e, decide_eq_false hn]; rfl
    · rw [e, decide_eq_true (List.mem_of_getElem? hj)]; simp
  unfold veC
  refine calls [(0, _), (1, _)] Tryz.func141 rfl Tryz.ntmps141 rfl ⟨rfl, rfl, trivial⟩ ?_
  all_goals (refine WC.sr ?_)
  all_goals (refine WL.stepR (okE_box rfl) rfl rfl rfl ?_
             rintro _ h1 ⟨b2, rfl, hg2, hb2, hx2⟩)
  all_goals (refine Go ?_)
  all_goals (refine WC.sr ?_)
  all_goals (refine Go ?_)
  all_goals (refine WL.ld rfl (by first | exact cell_blk hb2 rfl | assumption | exact cell_blk (by assumption) rfl) rfl rfl rfl ?_)
  all_goals (refine WL.call (vs := [_, _]) rfl (fun a w => Tryz.call188 a w) rfl (contains_v l k (hr.ext0 hx2) hm) rfl rfl rfl ?_
             rintro _ hq ⟨rfl, hz⟩
             subst hz
             rw [e])
  all_goals (refine Go ?_)
  all_goals (refine Gs [(4, _)] ?_)
  all_goals (refine Gt ?_)
  all_goals (exact ⟨rfl, hx2⟩)
set_option maxHeartbeats 2000000 in
set_option maxRecDepth 100000 in
theorem exit_v {h : Heap} (k n : Int) (c : List UInt8) : CallsH Tryz.prog 151 ⟨[.agg ⟨veC k n c⟩]⟩ h fun u h' => u = .bool (decide (k = 3 ∨ k = 4)) ∧ Ext No h h' := by
  have ko := fun h' (A : Option Addr) (cc : Nat) => one_v (h := h') (A := A) (cc := cc) k n c [3, 4]
  unfold veC at *
  refine calls [(0, _)] Tryz.func151 rfl Tryz.ntmps151 rfl ⟨rfl, trivial⟩ ?_
  all_goals (refine WC.sr ?_)
  all_goals (refine WL.stepR (okE_box rfl) rfl rfl rfl ?_
             rintro _ h1 ⟨b2, rfl, hg2, hb2, hx2⟩)
  all_goals (refine Go ?_)
  all_goals (refine WC.sr ?_)
  all_goals (refine WL.step (ok_loadN (fun w => Tryz.isAgg152 w) (fun w => Tryz.sizeOf152 w) rfl rfl (by exact At.of_block hb2)) rfl rfl rfl ?_)
  all_goals (refine WL.stepR (okE_buildSlice (vs := [_, _]) (cs := [_, _]) (fun | [a0, a1] => [a0, a1] | _ => []) Tryz.underlying29 rfl rfl (by kernel_rfl)) rfl rfl rfl ?_
             rintro _ h3 ⟨b3, rfl, hg3, hb3, hx3⟩)
  all_goals (refine WL.call (vs := [_, _]) rfl (fun a w => Tryz.call141 a w) rfl (ko _ _ _ (rd_blk hb3 rfl) (by decide)) rfl rfl rfl ?_
             rintro _ h4 ⟨rfl, hx4⟩)
  all_goals (refine Go ?_)
  all_goals (refine Gs [(2, _)] ?_)
  all_goals (refine Gt ?_)
  all_goals (exact ⟨by simp, (hx2.trans hx3).trans hx4⟩)
set_option maxHeartbeats 2000000 in
set_option maxRecDepth 100000 in
theorem rowsV_v {h : Heap} (k n : Int) (c : List UInt8) : CallsH Tryz.prog 90 ⟨[.agg ⟨veC k n c⟩]⟩ h fun u h' => u = .bool (decide (k = 5 ∨ k = 6 ∨ k = 7)) ∧ Ext No h h' := by
  have ko := fun h' (A : Option Addr) (cc : Nat) => one_v (h := h') (A := A) (cc := cc) k n c [5, 6, 7]
  unfold veC at *
  refine calls [(0, _)] Tryz.func90 rfl Tryz.ntmps90 rfl ⟨rfl, trivial⟩ ?_
  all_goals (refine WC.sr ?_)
  all_goals (refine WL.stepR (okE_box rfl) rfl rfl rfl ?_
             rintro _ h1 ⟨b2, rfl, hg2, hb2, hx2⟩)
  all_goals (refine Go ?_)
  all_goals (refine WC.sr ?_)
  all_goals (refine WL.step (ok_loadN (fun w => Tryz.isAgg152 w) (fun w => Tryz.sizeOf152 w) rfl rfl (by exact At.of_block hb2)) rfl rfl rfl ?_)
  all_goals (refine WL.stepR (okE_buildSlice (vs := [_, _, _]) (cs := [_, _, _]) (fun | [a0, a1, a2] => [a0, a1, a2] | _ => []) Tryz.underlying29 rfl rfl (by kernel_rfl)) rfl rfl rfl ?_
             rintro _ h3 ⟨b3, rfl, hg3, hb3, hx3⟩)
  all_goals (refine WL.call (vs := [_, _]) rfl (fun a w => Tryz.call141 a w) rfl (ko _ _ _ (rd_blk hb3 rfl) (by decide)) rfl rfl rfl ?_
             rintro _ h4 ⟨rfl, hx4⟩)
  all_goals (refine Go ?_)
  all_goals (refine Gs [(2, _)] ?_)
  all_goals (refine Gt ?_)
  all_goals (exact ⟨by simp, (hx2.trans hx3).trans hx4⟩)
set_option maxHeartbeats 2000000 in
set_option maxRecDepth 100000 in
theorem held_73 {h : Heap} : CallsH Tryz.prog 102 ⟨[.int .u8 73]⟩ h fun u h' => u = .int .u8 73 ∧ h' = h := by
  have kr : CallsH Tryz.prog 153 ⟨[.int .u8 73]⟩ h fun u h' => u = .bool true ∧ h' = h := by
    refine calls [(0, _)] Tryz.func153 rfl Tryz.ntmps153 rfl ⟨rfl, trivial⟩ ?_
    all_goals (refine WC.sr ?_)
    all_goals (refine Go ?_)
    all_goals (refine WC.seq ?_)
    all_goals (refine WC.sr ?_)
    all_goals (refine Go ?_)
    all_goals (refine WC.block ?_)
    all_goals (refine WC.seq ?_)
    all_goals (refine WC.sr ?_)
    all_goals (refine Go ?_)
    all_goals (refine goC 1 2 ?_ ?_ <;> first | exact ⟨⟩ | refine Hb.mk fun hb => ?_ | skip)
    all_goals (first | (fail_if_success refine goB 1 ?_) | (
    refine goB 1 ?_
    all_goals (refine WC.skip ?_)
    skip))
    all_goals (first | (fail_if_success refine goB 2 ?_) | (
    refine goB 2 ?_
    all_goals (refine WC.sr ?_)
    all_goals (refine Go ?_)
    all_goals (refine Gs [(3, _), (4, _)] ?_)
    all_goals (refine goC 3 4 ?_ ?_ <;> first | exact ⟨⟩ | refine Hb.mk fun hb => ?_ | skip)
    all_goals (first | (fail_if_success refine goB 3 ?_) | (
    refine goB 3 ?_
    all_goals (refine WC.skip ?_)
    skip))
    all_goals (first | (fail_if_success refine goB 4 ?_) | (
    refine goB 4 ?_
    all_goals (refine WC.region ?_)
    all_goals (refine Go ?_)
    skip))
    skip))
    all_goals (refine Gn ?_)
    all_goals (refine goC 5 6 ?_ ?_ <;> first | exact ⟨⟩ | refine Hb.mk fun hb => ?_ | skip)
    all_goals (first | (fail_if_success refine goB 5 ?_) | (
    refine goB 5 ?_
    all_goals (refine WC.sr ?_)
    all_goals (refine Go ?_)
    all_goals (refine Gt ?_)
    all_goals (exact ⟨rfl, rfl⟩)
    skip))
    all_goals (first | (fail_if_success refine goB 6 ?_) | (
    refine goB 6 ?_
    all_goals (refine WC.skip ?_)
    skip))
    all_goals (refine Gn ?_)
    all_goals (refine WC.sr ?_)
    all_goals (refine Go ?_)
    all_goals (refine Gt ?_)
    all_goals (exact ⟨rfl, rfl⟩)
  refine calls [(0, _)] Tryz.func102 rfl Tryz.ntmps102 rfl ⟨rfl, trivial⟩ ?_
  all_goals (refine WC.sr ?_)
  all_goals (refine Go ?_)
  all_goals (refine WC.seq ?_)
  all_goals (refine WC.sr ?_)
  all_goals (refine Go ?_)
  all_goals (refine WL.call (vs := [_]) rfl (fun a w => Tryz.call153 a w) rfl (kr) rfl rfl rfl ?_
             rintro _ hz ⟨rfl, _⟩
             subst hz)
  all_goals (refine Go ?_)
  all_goals (refine goC 1 2 ?_ ?_ <;> first | exact ⟨⟩ | refine Hb.mk fun hb => ?_ | skip)
  all_goals (first | (fail_if_success refine goB 1 ?_) | (
  refine goB 1 ?_
  all_goals (refine WC.sr ?_)
  all_goals (refine Go ?_)
  all_goals (refine Gs [(2, _)] ?_)
  all_goals (refine Gt ?_)
  all_goals (exact ⟨rfl, rfl⟩)
  skip))
  all_goals (first | (fail_if_success refine goB 2 ?_) | (
  refine goB 2 ?_
  all_goals (refine WC.skip ?_)
  skip))
  all_goals (refine Gn ?_)
  all_goals (refine Gs [(0, _)] ?_)
  all_goals (refine WC.sr ?_)
  all_goals (refine Go ?_)
  all_goals (refine Gt ?_)
  all_goals (exact ⟨rfl, rfl⟩)
set_option maxHeartbeats 2000000 in
set_option maxRecDepth 100000 in
theorem next_begin {h : Heap} : CallsH Tryz.prog 150 ⟨[.int .u8 73, .agg ⟨veC 2 0 []⟩]⟩ h fun u h' => u = .tuple ⟨[.int .u8 84, St ([66, 69, 71, 73, 78] : List UInt8)]⟩ ∧ Ext No h h' := by
  have ke := fun h' => exit_v (h := h') 2 0 []
  unfold veC at *
  refine calls [(0, _), (1, _)] Tryz.func150 rfl Tryz.ntmps150 rfl ⟨rfl, rfl, trivial⟩ ?_
  all_goals (refine WC.sr ?_)
  all_goals (refine WL.stepR (okE_box rfl) rfl rfl rfl ?_
             rintro _ h1 ⟨b2, rfl, hg2, hb2, hx2⟩)
  all_goals (refine Go ?_)
  all_goals (refine WC.sr ?_)
  all_goals (refine Go ?_)
  all_goals (refine WL.call (vs := [_]) rfl (fun a w => Tryz.call102 a w) rfl (held_73) rfl rfl rfl ?_
             rintro _ hz ⟨rfl, _⟩
             subst hz)
  all_goals (refine Go ?_)
  all_goals (refine Gs [(0, _), (3, _)] ?_)
  all_goals (refine WC.seq ?_)
  all_goals (refine WC.sr ?_)
  all_goals (refine WL.step (ok_loadN (fun w => Tryz.isAgg152 w) (fun w => Tryz.sizeOf152 w) rfl rfl (by exact At.of_block hb2)) rfl rfl rfl ?_)
  all_goals (refine WL.call (vs := [_]) rfl (fun a w => Tryz.call151 a w) rfl (ke _) rfl rfl rfl ?_
             rintro _ h3 ⟨rfl, hx3⟩)
  all_goals (have hb3 := hx3.obj hb2 nos)
  all_goals (refine Gn ?_)
  all_goals (refine goC 1 2 ?_ ?_ <;> first | exact ⟨⟩ | refine Hb.mk fun hb => ?_ | skip)
  all_goals (first | (fail_if_success refine goB 2 ?_) | (
  refine goB 2 ?_
  all_goals (refine WC.skip ?_)
  skip))
  all_goals (refine Gn ?_)
  all_goals (refine WC.seq ?_)
  all_goals (refine WC.sr ?_)
  all_goals (refine Go ?_)
  all_goals (refine WL.ld rfl (by first | exact cell_blk hb3 rfl | assumption | exact cell_blk (by assumption) rfl) rfl rfl rfl ?_)
  all_goals (refine Go ?_)
  all_goals (refine Gs [(0, _), (15, _)] ?_)
  all_goals (refine goC 3 4 ?_ ?_ <;> first | exact ⟨⟩ | refine Hb.mk fun hb => ?_ | skip)
  all_goals (first | (fail_if_success refine goB 3 ?_) | (
  refine goB 3 ?_
  all_goals (refine WC.sr ?_)
  all_goals (refine Go ?_)
  all_goals (refine Gt ?_)
  all_goals (exact ⟨rfl, hx2.trans hx3⟩)
  skip))
  all_goals (first | (fail_if_success refine goB 4 ?_) | (
  refine goB 4 ?_
  all_goals (refine WC.skip ?_)
  skip))
  all_goals (refine Gn ?_)
  all_goals (refine WC.seq ?_)
  all_goals (refine WC.sr ?_)
  all_goals (refine Go ?_)
  all_goals (refine goC 5 6 ?_ ?_ <;> first | exact ⟨⟩ | refine Hb.mk fun hb => ?_ | skip)
  all_goals (first | (fail_if_success refine goB 5 ?_) | (
  refine goB 5 ?_
  all_goals (refine WC.region ?_)
  all_goals (refine Go ?_)
  skip))
  all_goals (first | (fail_if_success refine goB 6 ?_) | (
  refine goB 6 ?_
  all_goals (refine WC.skip ?_)
  skip))
  all_goals (refine Gn ?_)
  all_goals (refine WC.sr ?_)
  all_goals (refine Go ?_)
  all_goals (refine Gs [(4, _), (5, _)] ?_)
  all_goals (refine Gt ?_)
  all_goals (exact ⟨rfl, hx2.trans hx3⟩)
end Go.Proofs.YtbokngiajfdanaaGreatDoor


/-
  STATEMENTS' TEXTS (layer 26), by the code: blanks at the ends, the first word.
-/
namespace Go.Proofs.YtbokngiajfdanaaGreatDoor
open Go Go.RK

def trL (s : List UInt8) : List UInt8 := s.dropWhile (· == 32)
def trR (s : List UInt8) : List UInt8 := (s.reverse.dropWhile (· == 32)).reverse
def trimP (s : List UInt8) : List UInt8 := trL (trR s)
theorem trL_len (s : List UInt8) : (trL s).length ≤ s.length := (List.dropWhile_sublist _).length_le
theorem trR_len (s : List UInt8) : (trR s).length ≤ s.length := by unfold trR; rw [List.length_reverse]; have := (List.dropWhile_sublist (l := s.reverse) (· == (32 : UInt8))).length_le; simpa using this
theorem trR_snoc (s : List UInt8) : trR (s ++ [32]) = trR s := by simp [trR]
theorem trR_no {s : List UInt8} {y : UInt8} (hy : y ≠ 32) : trR (s ++ [y]) = s ++ [y] := by simp [trR, hy]
theorem trL_no {s : List UInt8} {y : UInt8} (hy : y ≠ 32) : trL (y :: s) = y :: s := by simp [trL, hy]
theorem head32 (x : List UInt8) : x = [] ∨ (∃ r, x = 32 :: r ∧ x.length = r.length + 1) ∨ ∃ y r, x = y :: r ∧ x.length = r.length + 1 ∧ y ≠ 32 ∧ (y.toNat : Int) ≠ 32 := by
  rcases x with _ | ⟨y, r⟩
  · exact .inl rfl
  · by_cases hy : y = 32
    · exact .inr (.inl ⟨r, by rw [hy], rfl⟩)
    · exact .inr (.inr ⟨y, r, rfl, rfl, hy, fun e => hy (UInt8.toNat_inj.1 (by show _ = 32; omega))⟩)
theorem last32 (x : List UInt8) : x = [] ∨ (∃ r, x = r ++ [32] ∧ x.length = r.length + 1) ∨ ∃ y r, x = r ++ [y] ∧ x.length = r.length + 1 ∧ y ≠ 32 ∧ (y.toNat : Int) ≠ 32 := by
  rcases head32 x.reverse with e | ⟨r, e, e1⟩ | ⟨y, r, e, e1, h1, h2⟩
  · exact .inl (by simpa using e)
  · exact .inr (.inl ⟨r.reverse, by simpa using congrArg List.reverse e, by simpa using e1⟩)
  · exact .inr (.inr ⟨y, r.reverse, by simpa using congrArg List.reverse e, by simpa using e1, h1, h2⟩)
theorem get_last (r : List UInt8) (y : UInt8) : (r ++ [y])[((r.length : Int)).toNat]? = some y := by simp
theorem take_last (r : List UInt8) (y : UInt8) : (r ++ [y]).take (((r.length : Nat) : Int)).toNat = r := by simp
theorem i32 : (((32 : UInt8).toNat : Nat) : Int) = 32 := rfl
set_option maxHeartbeats 2000000 in
set_option maxRecDepth 100000 in
theorem trimL_v {h : Heap} (s : List UInt8) : CallsH Tryz.prog 178 ⟨[St s, .int .u8 32]⟩ h fun u h' => u = St (trL s) ∧ h' = h := by
  refine calls [(0, _), (1, _)] Tryz.func178 rfl Tryz.ntmps178 rfl ⟨rfl, rfl, trivial⟩ ?_
  all_goals (refine WC.sr ?_)
  all_goals (refine Go ?_)
  all_goals (refine WC.seq ?_)
  all_goals (refine WC.block ?_)
  -- loop 0: slots that turn [0], that stay [1]
  all_goals (refine WC.loopG (X := List UInt8) (fun x => ([(0, St x)] : Fr)) [(1, _)] (fun x h' => h' = h ∧ trL x = trL s ∧ x.length ≤ s.length) (fun x => x.length) (s) ⟨rfl, rfl, trivial⟩ (by exact ⟨rfl, rfl, Nat.le_refl _⟩) ?_)
  all_goals (rintro x h1 ⟨hz, hx, hl⟩
             subst hz
             have e0 : ∀ (y : UInt8) (r : List UInt8), (y :: r)[0]? = some y := fun _ _ => rfl
             have hi := i32
             rcases head32 x with rfl | ⟨r, rfl, hcl⟩ | ⟨y, r, rfl, hcl, hy, hyi⟩)
  all_goals (refine WC.sub [(0, _), (1, _)] ⟨rfl, rfl, trivial⟩ ?_)
  all_goals (refine WC.seq ?_)
  all_goals (refine WC.sr ?_)
  all_goals (refine Go ?_)
  all_goals (refine goP 8 ?_ ?_ <;> first | exact ⟨⟩ | refine Hb.mk fun hb => ?_ | skip)
  all_goals (refine Gg ?_)
  all_goals (first | (refine WL.pass rfl rfl rfl ?_) | (refine WL.step (ok_idxS Tryz.underlying9 rfl rfl (by omega) (e0 _ _)) rfl rfl rfl ?_))
  all_goals (refine Gg ?_)
  all_goals (refine Go ?_)
  all_goals (refine Gs [(0, _), (1, _), (13, _)] ?_)
  all_goals (refine goC 1 2 ?_ ?_ <;> first | exact ⟨⟩ | refine Hb.mk fun hb => ?_ | skip)
  all_goals (first | (fail_if_success refine goB 1 ?_) | (
  refine goB 1 ?_
  all_goals (refine WC.skip ?_)
  skip))
  all_goals (first | (fail_if_success refine goB 2 ?_) | (
  refine goB 2 ?_
  all_goals (refine WC.exit ?_)
  all_goals (repeat' (with_reducible first | refine thenP_x ?_ | refine blockP_miss rfl ?_ | refine blockP_hit ?_ | refine blockP_n ?_ | refine thenP_n ?_))
  all_goals (refine Br.out (i := 1000) ?_)
  skip))
  all_goals (refine Gn ?_)
  all_goals (first | (refine Br.keep ?_) | (refine WC.block ?_))
  all_goals (first | (refine Br.keep ?_) | (refine WC.region ?_))
  all_goals (refine Go ?_)
  all_goals (first | (refine Br.keep ?_) | (refine WL.step (ok_slice_sl Tryz.underlying9 rfl rfl (by first | omega | (simp <;> omega))) rfl rfl rfl ?_))
  all_goals (refine Go ?_)
  all_goals (first | (refine Br.keep ?_) | (exact ⟨r, ⟨rfl, rfl, trivial⟩, (by exact ⟨rfl, by rw [← hx]; simp [trL], by simp at hl; omega⟩), (by simp)⟩))
  all_goals (try (refine Br.mk (i := 1000) ?_))
  all_goals (refine Gn ?_)
  all_goals (refine WC.sr ?_)
  all_goals (refine Go ?_)
  all_goals (refine Gs [(4, _)] ?_)
  all_goals (refine Gt ?_)
  all_goals (exact ⟨congrArg St (by rw [← hx]; first | rfl | rw [trL_no hy]), rfl⟩)
set_option maxHeartbeats 2000000 in
set_option maxRecDepth 100000 in
theorem trimR_v {h : Heap} (s : List UInt8) (hm : s.length ≤ 1000000) : CallsH Tryz.prog 179 ⟨[St s, .int .u8 32]⟩ h fun u h' => u = St (trR s) ∧ h' = h := by
  refine calls [(0, _), (1, _)] Tryz.func179 rfl Tryz.ntmps179 rfl ⟨rfl, rfl, trivial⟩ ?_
  all_goals (refine WC.sr ?_)
  all_goals (refine Go ?_)
  all_goals (refine WC.seq ?_)
  all_goals (refine WC.block ?_)
  -- loop 0: slots that turn [0], that stay [1]
  all_goals (refine WC.loopG (X := List UInt8) (fun x => ([(0, St x)] : Fr)) [(1, _)] (fun x h' => h' = h ∧ trR x = trR s ∧ x.length ≤ s.length) (fun x => x.length) (s) ⟨rfl, rfl, trivial⟩ (by exact ⟨rfl, rfl, Nat.le_refl _⟩) ?_)
  all_goals (rintro x h1 ⟨hz, hx, hl⟩
             subst hz
             have hi := i32
             rcases last32 x with rfl | ⟨r, rfl, hcl⟩ | ⟨y, r, rfl, hcl, hy, hyi⟩)
  all_goals (refine WC.sub [(0, _), (1, _)] ⟨rfl, rfl, trivial⟩ ?_)
  all_goals (refine WC.seq ?_)
  all_goals (refine WC.sr ?_)
  all_goals (refine Go ?_)
  all_goals (refine goP 8 ?_ ?_ <;> first | exact ⟨⟩ | refine Hb.mk fun hb => ?_ | skip)
  all_goals (first | (refine WL.pass rfl rfl rfl ?_) | (refine WL.step (ok_move rfl) rfl rfl rfl ?_))
  all_goals (first | (refine WL.pass rfl rfl rfl ?_) | (refine WL.step (ok_move rfl) rfl rfl rfl ?_))
  all_goals (first | (refine WL.pass rfl rfl rfl ?_) | (refine WL.step (ok_lenS rfl Tryz.underlying9 rfl) rfl rfl rfl ?_))
  all_goals (first | (refine WL.pass rfl rfl rfl ?_) | (first | (refine WL.step (ok_subI rfl rfl (by omega)) rfl rfl rfl ?_) | (refine WL.step (ok_sub rfl rfl) rfl rfl rfl ?_)))
  all_goals (try rw [hcl, show (((r.length + 1 : Nat) : Int) - 1) = ((r.length : Nat) : Int) by omega])
  all_goals (first | (refine WL.pass rfl rfl rfl ?_) | (refine WL.step (ok_idxS Tryz.underlying9 rfl rfl (by omega) (get_last r _)) rfl rfl rfl ?_))
  all_goals (refine Gg ?_)
  all_goals (refine Go ?_)
  all_goals (refine Gs [(0, _), (1, _), (16, _)] ?_)
  all_goals (refine goC 1 2 ?_ ?_ <;> first | exact ⟨⟩ | refine Hb.mk fun hb => ?_ | skip)
  all_goals (first | (fail_if_success refine goB 1 ?_) | (
  refine goB 1 ?_
  all_goals (refine WC.skip ?_)
  skip))
  all_goals (first | (fail_if_success refine goB 2 ?_) | (
  refine goB 2 ?_
  all_goals (refine WC.exit ?_)
  all_goals (repeat' (with_reducible first | refine thenP_x ?_ | refine blockP_miss rfl ?_ | refine blockP_hit ?_ | refine blockP_n ?_ | refine thenP_n ?_))
  all_goals (refine Br.out (i := 1000) ?_)
  skip))
  all_goals (refine Gn ?_)
  all_goals (first | (refine Br.keep ?_) | (refine WC.block ?_))
  all_goals (first | (refine Br.keep ?_) | (refine WC.region ?_))
  all_goals (first | (refine Br.keep ?_) | (refine WL.step (ok_move rfl) rfl rfl rfl ?_))
  all_goals (first | (refine Br.keep ?_) | (refine WL.step (ok_move rfl) rfl rfl rfl ?_))
  all_goals (first | (refine Br.keep ?_) | (refine WL.step (ok_lenS rfl Tryz.underlying9 rfl) rfl rfl rfl ?_))
  all_goals (first | (refine Br.keep ?_) | (first | (refine WL.step (ok_subI rfl rfl (by omega)) rfl rfl rfl ?_) | (refine WL.step (ok_sub rfl rfl) rfl rfl rfl ?_)))
  all_goals (first | (refine Br.keep ?_) | (rw [hcl, show (((r.length + 1 : Nat) : Int) - 1) = ((r.length : Nat) : Int) by omega]))
  all_goals (first | (refine Br.keep ?_) | (refine WL.step (ok_slice_sh Tryz.underlying9 rfl rfl (by first | omega | (simp <;> omega))) rfl rfl rfl ?_))
  all_goals (first | (refine Br.keep ?_) | (try rw [take_last]))
  all_goals (refine Go ?_)
  all_goals (first | (refine Br.keep ?_) | (exact ⟨r, ⟨rfl, rfl, trivial⟩, (by exact ⟨rfl, by rw [← hx, trR_snoc], by simp at hl; omega⟩), (by simp)⟩))
  all_goals (try (refine Br.mk (i := 1000) ?_))
  all_goals (refine Gn ?_)
  all_goals (refine WC.sr ?_)
  all_goals (refine Go ?_)
  all_goals (refine Gs [(4, _)] ?_)
  all_goals (refine Gt ?_)
  all_goals (exact ⟨congrArg St (by rw [← hx]; first | rfl | rw [trR_no hy]), rfl⟩)
set_option maxHeartbeats 2000000 in
set_option maxRecDepth 100000 in
theorem trim_v {h : Heap} (s : List UInt8) (hm : s.length ≤ 1000000) : CallsH Tryz.prog 137 ⟨[St s, St [32]]⟩ h fun u h' => u = St (trimP s) ∧ h' = h := by
  have k1 := trimR_v (h := h) s hm
  have k2 := trimL_v (h := h) (trR s)
  have e0 : ([32] : List UInt8)[0]? = some 32 := rfl
  by_cases hs : s = []
  · subst hs
    refine calls [(0, _), (1, _)] Tryz.func137 rfl Tryz.ntmps137 rfl ⟨rfl, rfl, trivial⟩ ?_
    all_goals (refine WC.sr ?_)
    all_goals (refine Go ?_)
    all_goals (refine WC.seq ?_)
    all_goals (refine WC.sr ?_)
    all_goals (refine Go ?_)
    all_goals (refine goP 9 ?_ ?_ <;> first | exact ⟨⟩ | refine Hb.mk fun hb => ?_ | skip)
    all_goals (refine Gg ?_)
    all_goals (refine Go ?_)
    all_goals (refine Gs [(0, _), (1, _), (12, _)] ?_)
    all_goals (refine goC 1 2 ?_ ?_ <;> first | exact ⟨⟩ | refine Hb.mk fun hb => ?_ | skip)
    all_goals (first | (fail_if_success refine goB 1 ?_) | (
    refine goB 1 ?_
    all_goals (refine WC.sr ?_)
    all_goals (refine Go ?_)
    all_goals (refine Gs [(4, _)] ?_)
    all_goals (refine Gt ?_)
    all_goals (exact ⟨rfl, rfl⟩)
    skip))
    all_goals (first | (fail_if_success refine goB 2 ?_) | (
    refine goB 2 ?_
    all_goals (refine WC.skip ?_)
    skip))
    all_goals (refine Gn ?_)
    all_goals (refine WC.seq ?_)
    all_goals (refine WC.sr ?_)
    all_goals (refine Go ?_)
    all_goals (refine goP 17 ?_ ?_ <;> first | exact ⟨⟩ | refine Hb.mk fun hb => ?_ | skip)
    all_goals (refine Gg ?_)
    all_goals (first | (refine WL.pass rfl rfl rfl ?_) | (refine WL.step (ok_idxS Tryz.underlying9 rfl rfl (by omega) (by assumption)) rfl rfl rfl ?_))
    all_goals (refine Gg ?_)
    all_goals (refine Go ?_)
    all_goals (refine Gs [(0, _), (1, _), (21, _)] ?_)
    all_goals (refine goC 3 4 ?_ ?_ <;> first | exact ⟨⟩ | refine Hb.mk fun hb => ?_ | skip)
    all_goals (first | (fail_if_success refine goB 4 ?_) | (
    refine goB 4 ?_
    all_goals (refine WC.skip ?_)
    skip))
    all_goals (refine Gn ?_)
    all_goals (refine WC.seq ?_)
    all_goals (refine WC.sr ?_)
    all_goals (refine Go ?_)
    all_goals (fail "no contract for call of strings.makeASCIISet at 5.1")
    all_goals (refine Go ?_)
    all_goals (refine WL.stepR (okE_alloc (fun w => Tryz.zeroValue251 w)) rfl rfl rfl ?_
               rintro _ h1 ⟨b1, rfl, hg1, hb1, hx1⟩)
    all_goals (refine WL.stepR0 (okE_storeW (fun w => Tryz.sizeOf251 w) rfl rfl rfl (by assumption) rfl (by simp [Value.oneCell'])) rfl rfl ?_
               rintro _ h1 ⟨hb1, hx1⟩)
    all_goals (refine Go ?_)
    all_goals (refine Gs [(0, _), (1, _), (5, _), (6, _)] ?_)
    all_goals (refine WC.sr ?_)
    all_goals (refine Go ?_)
    all_goals (refine goC 5 6 ?_ ?_ <;> first | exact ⟨⟩ | refine Hb.mk fun hb => ?_ | skip)
    all_goals (first | (fail_if_success refine goB 6 ?_) | (
    refine goB 6 ?_
    all_goals (refine WC.skip ?_)
    skip))
    all_goals (refine Gn ?_)
    all_goals (refine WC.sr ?_)
    all_goals (refine Go ?_)
    all_goals (fail "no contract for call of strings.trimRightUnicode at 8.2")
    all_goals (refine Go ?_)
    all_goals (fail "no contract for call of strings.trimLeftUnicode at 8.4")
    all_goals (refine Go ?_)
    all_goals (refine Gs [(4, _)] ?_)
    all_goals (refine Gt ?_)
    all_goals (exact ⟨rfl, rfl⟩)
  · have hs' : s ≠ [] := hs
    refine calls [(0, _), (1, _)] Tryz.func137 rfl Tryz.ntmps137 rfl ⟨rfl, rfl, trivial⟩ ?_
    all_goals (refine WC.sr ?_)
    all_goals (refine Go ?_)
    all_goals (refine WC.seq ?_)
    all_goals (refine WC.sr ?_)
    all_goals (refine Go ?_)
    all_goals (refine goP 9 ?_ ?_ <;> first | exact ⟨⟩ | refine Hb.mk fun hb => ?_ | skip)
    all_goals (refine Gg ?_)
    all_goals (refine Go ?_)
    all_goals (refine Gs [(0, _), (1, _), (12, _)] ?_)
    all_goals (refine goC 1 2 ?_ ?_ <;> first | exact ⟨⟩ | refine Hb.mk fun hb => ?_ | skip)
    all_goals (first | (fail_if_success refine goB 1 ?_) | (
    refine goB 1 ?_
    all_goals (refine WC.sr ?_)
    all_goals (refine Go ?_)
    all_goals (refine Gs [(4, _)] ?_)
    all_goals (refine Gt ?_)
    all_goals (exact ⟨rfl, rfl⟩)
    skip))
    all_goals (first | (fail_if_success refine goB 2 ?_) | (
    refine goB 2 ?_
    all_goals (refine WC.skip ?_)
    skip))
    all_goals (refine Gn ?_)
    all_goals (refine WC.seq ?_)
    all_goals (refine WC.sr ?_)
    all_goals (refine Go ?_)
    all_goals (refine goP 17 ?_ ?_ <;> first | exact ⟨⟩ | refine Hb.mk fun hb => ?_ | skip)
    all_goals (refine Gg ?_)
    all_goals (first | (refine WL.pass rfl rfl rfl ?_) | (refine WL.step (ok_idxS Tryz.underlying9 rfl rfl (by omega) e0) rfl rfl rfl ?_))
    all_goals (refine Gg ?_)
    all_goals (refine Go ?_)
    all_goals (refine Gs [(0, _), (1, _), (21, _)] ?_)
    all_goals (refine goC 3 4 ?_ ?_ <;> first | exact ⟨⟩ | refine Hb.mk fun hb => ?_ | skip)
    all_goals (first | (fail_if_success refine goB 3 ?_) | (
    refine goB 3 ?_
    all_goals (refine WC.seq ?_)
    all_goals (refine WC.drawH (fun h' => h' = h) 7 8 rfl fol ?_)
    all_goals (refine WH.tk 0 rfl (fun hq hC => ok_move rfl) rfl rfl rfl ?_ (hC := rfl))
    all_goals (refine WH.tk 1 rfl (fun hq hC => ok_move rfl) rfl rfl rfl ?_ (hC := rfl))
    all_goals (refine WH.tk 2 rfl (fun hq hC => ok_idxS Tryz.underlying9 rfl rfl (by omega) e0) rfl rfl rfl ?_ (hC := rfl))
    all_goals (refine WH.tk 4 rfl (fun hq hC => ok_move rfl) rfl rfl rfl ?_ (hC := rfl))
    all_goals (refine WH.tk 5 rfl (fun hq hC => ok_idxS Tryz.underlying9 rfl rfl (by omega) e0) rfl rfl rfl ?_ (hC := rfl))
    all_goals (refine WH.one 3 (by kernel_rfl) ?_)
    all_goals (refine Comes1.call (vs := [_, _]) rfl rfl (fun a w => Tryz.call179 a w) rfl (k1) rfl rfl rfl ?_ (fun _ => by kernel_rfl)
               rintro _ hq ⟨rfl, hz1⟩
               subst hz1)
    all_goals (refine ⟨fun _ => rfl, ?_⟩)
    all_goals (refine WH.one 6 (by kernel_rfl) ?_)
    all_goals (refine Comes1.call (vs := [_, _]) rfl rfl (fun a w => Tryz.call178 a w) rfl (k2) rfl rfl rfl ?_ (fun _ => by kernel_rfl)
               rintro _ hq ⟨rfl, hz2⟩
               subst hz2)
    all_goals (refine ⟨fun _ => rfl, ?_⟩)
    all_goals (refine WH.one 7 (by kernel_rfl) ?_)
    all_goals (refine Comes1.run rfl (OkP.r (ok_assign rfl)) rfl rfl rfl ?_ (fun _ => by kernel_rfl)
               rintro _ hz ⟨rfl, _⟩
               subst hz)
    all_goals (refine ⟨fun e => (by cases e), ?_⟩)
    all_goals (refine WH.done (by kernel_rfl) ?_)
    all_goals (refine Gn ?_)
    all_goals (refine Gs [(4, _)] ?_)
    all_goals (refine Gt ?_)
    all_goals (exact ⟨rfl, rfl⟩)
    skip))
    all_goals (first | (fail_if_success refine goB 4 ?_) | (
    refine goB 4 ?_
    all_goals (refine WC.skip ?_)
    skip))
    all_goals (refine Gn ?_)
    all_goals (refine WC.seq ?_)
    all_goals (refine WC.sr ?_)
    all_goals (refine Go ?_)
    all_goals (fail "no contract for call of strings.makeASCIISet at 5.1")
    all_goals (refine Go ?_)
    all_goals (refine WL.stepR (okE_alloc (fun w => Tryz.zeroValue251 w)) rfl rfl rfl ?_
               rintro _ h1 ⟨b1, rfl, hg1, hb1, hx1⟩)
    all_goals (refine WL.stepR0 (okE_storeW (fun w => Tryz.sizeOf251 w) rfl rfl rfl (by assumption) rfl (by simp [Value.oneCell'])) rfl rfl ?_
               rintro _ h1 ⟨hb1, hx1⟩)
    all_goals (refine Go ?_)
    all_goals (refine Gs [(0, _), (1, _), (5, _), (6, _)] ?_)
    all_goals (refine WC.sr ?_)
    all_goals (refine Go ?_)
    all_goals (refine goC 5 6 ?_ ?_ <;> first | exact ⟨⟩ | refine Hb.mk fun hb => ?_ | skip)
    all_goals (first | (fail_if_success refine goB 6 ?_) | (
    refine goB 6 ?_
    all_goals (refine WC.skip ?_)
    skip))
    all_goals (refine Gn ?_)
    all_goals (refine WC.sr ?_)
    all_goals (refine Go ?_)
    all_goals (fail "no contract for call of strings.trimRightUnicode at 8.2")
    all_goals (refine Go ?_)
    all_goals (fail "no contract for call of strings.trimLeftUnicode at 8.4")
    all_goals (refine Go ?_)
    all_goals (refine Gs [(4, _)] ?_)
    all_goals (refine Gt ?_)
    all_goals (exact ⟨rfl, rfl⟩)
/-- The first blank. -/
theorem ixl_v {h : Heap} (s : List UInt8) (c : UInt8) : CallsH Tryz.prog 116 ⟨[St s, By c]⟩ h fun u h' => u = In (Lib.indexByte s c) ∧ h' = h := fun w hw =>
  (Tryz.stringslite_IndexByte ⟨⟨s⟩⟩ c.toNat w).mono fun e w' ⟨he, hb⟩ => ⟨⟨by rw [hb], by rw [hb], by rw [hb], trivial⟩, _, he, by rw [show ((c.toNat : Int)).toNat.toUInt8 = c by simp], by rw [hb, hw]⟩
set_option maxHeartbeats 2000000 in
set_option maxRecDepth 100000 in
theorem index_v {h : Heap} (s : List UInt8) : CallsH Tryz.prog 209 ⟨[St s, St [32]]⟩ h fun u h' => u = In (Lib.indexByte s 32) ∧ h' = h := by
  have e0 : ([32] : List UInt8)[0]? = some 32 := rfl
  have k1 := ixl_v (h := h) s 32
  by_cases hs : s = [32]
  · subst hs
    refine calls [(0, _), (1, _)] Tryz.func209 rfl Tryz.ntmps209 rfl ⟨rfl, rfl, trivial⟩ ?_
    all_goals (refine WC.sr ?_)
    all_goals (refine Go ?_)
    all_goals (refine WC.sr ?_)
    all_goals (refine Go ?_)
    all_goals (refine WC.seq ?_)
    all_goals (refine WC.block ?_)
    all_goals (refine WC.sr ?_)
    all_goals (refine Go ?_)
    all_goals (refine goP 19 ?_ ?_ <;> first | exact ⟨⟩ | refine Hb.mk fun hb => ?_ | skip)
    all_goals (refine Gg ?_)
    all_goals (refine Go ?_)
    all_goals (refine Gs [(0, _), (1, _), (5, _), (16, _)] ?_)
    all_goals (refine goC 1 2 ?_ ?_ <;> first | exact ⟨⟩ | refine Hb.mk fun hb => ?_ | skip)
    all_goals (first | (fail_if_success refine goB 1 ?_) | (
    refine goB 1 ?_
    all_goals (refine WC.sr ?_)
    all_goals (refine Go ?_)
    all_goals (refine Gs [(4, _)] ?_)
    all_goals (refine Gt ?_)
    all_goals (exact ⟨rfl, rfl⟩)
    skip))
    all_goals (first | (fail_if_success refine goB 2 ?_) | (
    refine goB 2 ?_
    all_goals (refine WC.sr ?_)
    all_goals (refine Go ?_)
    all_goals (refine goC 3 4 ?_ ?_ <;> first | exact ⟨⟩ | refine Hb.mk fun hb => ?_ | skip)
    all_goals (first | (fail_if_success refine goB 4 ?_) | (
    refine goB 4 ?_
    all_goals (refine WC.sr ?_)
    all_goals (refine Go ?_)
    all_goals (refine Gs [(0, _), (1, _), (5, _), (31, _)] ?_)
    all_goals (refine goC 5 6 ?_ ?_ <;> first | exact ⟨⟩ | refine Hb.mk fun hb => ?_ | skip)
    all_goals (first | (fail_if_success refine goB 5 ?_) | (
    refine goB 5 ?_
    all_goals (refine WC.sr ?_)
    all_goals (refine Go ?_)
    all_goals (refine Gs [(4, _)] ?_)
    all_goals (refine Gt ?_)
    all_goals (exact ⟨rfl, rfl⟩)
    skip))
    all_goals (first | (fail_if_success refine goB 6 ?_) | (
    refine goB 6 ?_
    all_goals (refine WC.sr ?_)
    all_goals (refine Go ?_)
    all_goals (refine Ld ?_)
    all_goals (refine Go ?_)
    all_goals (refine goP 40 ?_ ?_ <;> first | exact ⟨⟩ | refine Hb.mk fun hb => ?_ | skip)
    all_goals (refine Gg ?_)
    all_goals (refine Go ?_)
    all_goals (refine Gs [(0, _), (1, _), (5, _), (36, _)] ?_)
    all_goals (refine goC 7 8 ?_ ?_ <;> first | exact ⟨⟩ | refine Hb.mk fun hb => ?_ | skip)
    all_goals (first | (fail_if_success refine goB 7 ?_) | (
    refine goB 7 ?_
    all_goals (refine WC.sr ?_)
    all_goals (refine Go ?_)
    all_goals (refine WL.step (ok_extern ? rfl) rfl rfl rfl ?_)
    all_goals (refine Go ?_)
    all_goals (refine Gs [(4, _)] ?_)
    all_goals (refine Gt ?_)
    all_goals (exact ⟨rfl, rfl⟩)
    skip))
    all_goals (first | (fail_if_success refine goB 8 ?_) | (
    refine goB 8 ?_
    all_goals (refine WC.skip ?_)
    skip))
    skip))
    skip))
    skip))
    all_goals (refine Gn ?_)
    all_goals (refine WC.sr ?_)
    all_goals (refine Go ?_)
    all_goals (refine WL.step (ok_idxS Tryz.underlying9 rfl rfl (by omega) (by assumption)) rfl rfl rfl ?_)
    all_goals (refine Go ?_)
    all_goals (refine WC.sr ?_)
    all_goals (refine Go ?_)
    all_goals (refine WL.step (ok_idxS Tryz.underlying9 rfl rfl (by omega) (by assumption)) rfl rfl rfl ?_)
    all_goals (refine Go ?_)
    all_goals (refine Gs [(0, _), (1, _), (5, _), (6, _), (7, _)] ?_)
    all_goals (refine WC.sr ?_)
    all_goals (refine Go ?_)
    all_goals (refine WC.sr ?_)
    all_goals (refine Go ?_)
    all_goals (refine Gs [(0, _), (1, _), (5, _), (6, _), (7, _), (8, _), (9, _)] ?_)
    all_goals (refine WC.sr ?_)
    all_goals (refine Go ?_)
    all_goals (refine WC.seq ?_)
    all_goals (refine WC.block ?_)
    -- loop 0: slots that turn [8, 10], that stay [0, 1, 5, 6, 7, 9]
    all_goals (refine WC.loopG (fun x => (None : Fr)) [(0, _), (1, _), (5, _), (6, _), (7, _), (9, _)] (None) (None) (None) ⟨rfl, rfl, rfl, rfl, rfl, rfl, rfl, rfl, trivial⟩ (by exact ⟨⟩) ?_)
    all_goals (rintro x h1 hI)
    all_goals (refine WC.sub [(8, _), (10, _), (0, _), (1, _), (5, _), (6, _), (7, _), (9, _)] ⟨rfl, rfl, rfl, rfl, rfl, rfl, rfl, rfl, trivial⟩ ?_)
    all_goals (refine WC.seq ?_)
    all_goals (refine WC.sr ?_)
    all_goals (refine Go ?_)
    all_goals (refine goC 9 10 ?_ ?_ <;> first | exact ⟨⟩ | refine Hb.mk fun hb => ?_ | skip)
    all_goals (first | (fail_if_success refine goB 9 ?_) | (
    refine goB 9 ?_
    all_goals (refine WC.skip ?_)
    skip))
    all_goals (first | (fail_if_success refine goB 10 ?_) | (
    refine goB 10 ?_
    all_goals (refine WC.exit ?_)
    all_goals (repeat' (with_reducible first | refine thenP_x ?_ | refine blockP_miss rfl ?_ | refine blockP_hit ?_ | refine blockP_n ?_ | refine thenP_n ?_))
    all_goals (refine Br.out (i := 1001) ?_)
    skip))
    all_goals (refine Gn ?_)
    all_goals (first | (refine Br.keep ?_) | (refine WC.block ?_))
    all_goals (first | (refine Br.keep ?_) | (refine WC.seq ?_))
    all_goals (first | (refine Br.keep ?_) | (refine WC.sr ?_))
    all_goals (refine Go ?_)
    all_goals (first | (refine Br.keep ?_) | (refine WL.step (ok_idxS Tryz.underlying9 rfl rfl (by omega) (by assumption)) rfl rfl rfl ?_))
    all_goals (refine Go ?_)
    all_goals (first | (refine Br.keep ?_) | (refine Gs [(0, _), (1, _), (5, _), (6, _), (7, _), (8, _), (9, _), (10, _), (64, _)] ?_))
    all_goals (first | (refine Br.keep ?_) | (refine goC 11 12 ?_ ?_ <;> first | exact ⟨⟩ | refine Hb.mk fun hb => ?_ | skip))
    all_goals (first | (fail_if_success refine goB 12 ?_) | (
    refine goB 12 ?_
    all_goals (refine WC.skip ?_)
    skip))
    all_goals (refine Gn ?_)
    all_goals (first | (refine Br.keep ?_) | (refine WC.seq ?_))
    all_goals (first | (refine Br.keep ?_) | (refine WC.sr ?_))
    all_goals (refine Go ?_)
    all_goals (first | (refine Br.keep ?_) | (refine WL.step (ok_idxS Tryz.underlying9 rfl rfl (by omega) (by assumption)) rfl rfl rfl ?_))
    all_goals (refine Go ?_)
    all_goals (first | (refine Br.keep ?_) | (refine goP 84 ?_ ?_ <;> first | exact ⟨⟩ | refine Hb.mk fun hb => ?_ | skip))
    all_goals (refine Gg ?_)
    all_goals (first | (refine Br.keep ?_) | (first | (refine WL.pass rfl rfl rfl ?_) | (refine WL.step (ok_slice_slh Tryz.underlying9 rfl rfl rfl (by first | omega | (simp <;> omega))) rfl rfl rfl ?_)))
    all_goals (refine Gg ?_)
    all_goals (refine Go ?_)
    all_goals (first | (refine Br.keep ?_) | (refine Gs [(0, _), (1, _), (5, _), (6, _), (7, _), (8, _), (9, _), (10, _), (93, _)] ?_))
    all_goals (first | (refine Br.keep ?_) | (refine goC 15 16 ?_ ?_ <;> first | exact ⟨⟩ | refine Hb.mk fun hb => ?_ | skip))
    all_goals (first | (fail_if_success refine goB 15 ?_) | (
    refine goB 15 ?_
    all_goals (refine WC.sr ?_)
    all_goals (refine Go ?_)
    all_goals (refine Gs [(4, _)] ?_)
    all_goals (refine Gt ?_)
    all_goals (exact ⟨rfl, rfl⟩)
    skip))
    all_goals (first | (fail_if_success refine goB 16 ?_) | (
    refine goB 16 ?_
    all_goals (refine WC.skip ?_)
    skip))
    all_goals (refine Gn ?_)
    all_goals (first | (refine Br.keep ?_) | (refine WC.sr ?_))
    all_goals (refine Go ?_)
    all_goals (first | (refine Br.keep ?_) | (refine WC.sr ?_))
    all_goals (refine Go ?_)
    all_goals (first | (refine Br.keep ?_) | (refine Gs [(0, _), (1, _), (5, _), (6, _), (7, _), (8, _), (9, _), (10, _)] ?_))
    all_goals (first | (refine Br.keep ?_) | (refine WC.sr ?_))
    all_goals (refine Go ?_)
    all_goals (first | (refine Br.keep ?_) | (refine Ld ?_))
    all_goals (refine Go ?_)
    all_goals (first | (refine Br.keep ?_) | (refine goP 102 ?_ ?_ <;> first | exact ⟨⟩ | refine Hb.mk fun hb => ?_ | skip))
    all_goals (refine Gg ?_)
    all_goals (first | (refine Br.keep ?_) | (first | (refine WL.pass rfl rfl rfl ?_) | (fail "no contract for call of internal/bytealg.Cutover at 25.6")))
    all_goals (refine Gg ?_)
    all_goals (refine Go ?_)
    all_goals (first | (refine Br.keep ?_) | (refine Gs [(0, _), (1, _), (5, _), (6, _), (7, _), (8, _), (9, _), (10, _), (107, _)] ?_))
    all_goals (first | (refine Br.keep ?_) | (refine goC 17 18 ?_ ?_ <;> first | exact ⟨⟩ | refine Hb.mk fun hb => ?_ | skip))
    all_goals (first | (fail_if_success refine goB 17 ?_) | (
    refine goB 17 ?_
    all_goals (refine WC.sr ?_)
    all_goals (refine Go ?_)
    all_goals (refine WL.step (ok_slice_sl Tryz.underlying9 rfl rfl (by first | omega | (simp <;> omega))) rfl rfl rfl ?_)
    all_goals (refine Go ?_)
    all_goals (refine WL.step (ok_extern ? rfl) rfl rfl rfl ?_)
    all_goals (refine Go ?_)
    all_goals (refine Gs [(8, _), (12, _)] ?_)
    all_goals (refine WC.seq ?_)
    all_goals (refine WC.sr ?_)
    all_goals (refine Go ?_)
    all_goals (refine goC 19 20 ?_ ?_ <;> first | exact ⟨⟩ | refine Hb.mk fun hb => ?_ | skip)
    all_goals (first | (fail_if_success refine goB 19 ?_) | (
    refine goB 19 ?_
    all_goals (refine WC.sr ?_)
    all_goals (refine Go ?_)
    all_goals (refine Gs [(4, _)] ?_)
    all_goals (refine Gt ?_)
    all_goals (exact ⟨rfl, rfl⟩)
    skip))
    all_goals (first | (fail_if_success refine goB 20 ?_) | (
    refine goB 20 ?_
    all_goals (refine WC.skip ?_)
    skip))
    all_goals (refine Gn ?_)
    all_goals (refine Gs [] ?_)
    all_goals (refine WC.sr ?_)
    all_goals (refine Go ?_)
    all_goals (refine Gt ?_)
    all_goals (exact ⟨rfl, rfl⟩)
    skip))
    all_goals (first | (fail_if_success refine goB 18 ?_) | (
    refine goB 18 ?_
    all_goals (refine WC.sr ?_)
    all_goals (refine Go ?_)
    all_goals (refine Ld ?_)
    all_goals (refine Go ?_)
    all_goals (refine goP 121 ?_ ?_ <;> first | exact ⟨⟩ | refine Hb.mk fun hb => ?_ | skip)
    all_goals (refine Gg ?_)
    all_goals (first | (refine WL.pass rfl rfl rfl ?_) | (refine WL.step (ok_shr rfl rfl (by omega)) rfl rfl rfl ?_))
    all_goals (refine Gg ?_)
    all_goals (refine Go ?_)
    all_goals (refine goP 128 ?_ ?_ <;> first | exact ⟨⟩ | refine Hb.mk fun hb => ?_ | skip)
    all_goals (refine Gg ?_)
    all_goals (refine Go ?_)
    all_goals (refine Gs [(0, _), (1, _), (5, _), (6, _), (7, _), (8, _), (9, _), (10, _), (132, _)] ?_)
    all_goals (refine goC 21 22 ?_ ?_ <;> first | exact ⟨⟩ | refine Hb.mk fun hb => ?_ | skip)
    all_goals (first | (fail_if_success refine goB 22 ?_) | (
    refine goB 22 ?_
    all_goals (refine WC.skip ?_)
    skip))
    skip))
    all_goals (refine Gn ?_)
    all_goals (first | (refine Br.keep ?_) | (exact ⟨None, ⟨rfl, rfl, rfl, rfl, rfl, rfl, rfl, rfl, trivial⟩, (by exact ⟨⟩), (by simp; omega)⟩))
    all_goals (try (refine Br.mk (i := 1001) ?_))
    all_goals (refine Gn ?_)
    all_goals (refine Gs [] ?_)
    all_goals (refine WC.sr ?_)
    all_goals (refine Go ?_)
    all_goals (refine Gt ?_)
    all_goals (exact ⟨rfl, rfl⟩)
  · have hs' : ¬ [32] = s := fun e => hs e.symm
    refine calls [(0, _), (1, _)] Tryz.func209 rfl Tryz.ntmps209 rfl ⟨rfl, rfl, trivial⟩ ?_
    all_goals (refine WC.sr ?_)
    all_goals (refine Go ?_)
    all_goals (refine WC.sr ?_)
    all_goals (refine Go ?_)
    all_goals (refine WC.seq ?_)
    all_goals (refine WC.block ?_)
    all_goals (refine WC.sr ?_)
    all_goals (refine Go ?_)
    all_goals (refine goP 19 ?_ ?_ <;> first | exact ⟨⟩ | refine Hb.mk fun hb => ?_ | skip)
    all_goals (refine Gg ?_)
    all_goals (refine Go ?_)
    all_goals (refine Gs [(0, _), (1, _), (5, _), (16, _)] ?_)
    all_goals (refine goC 1 2 ?_ ?_ <;> first | exact ⟨⟩ | refine Hb.mk fun hb => ?_ | skip)
    all_goals (first | (fail_if_success refine goB 1 ?_) | (
    refine goB 1 ?_
    all_goals (refine WC.sr ?_)
    all_goals (refine Go ?_)
    all_goals (refine Gs [(4, _)] ?_)
    all_goals (refine Gt ?_)
    all_goals (exact ⟨rfl, rfl⟩)
    skip))
    all_goals (first | (fail_if_success refine goB 2 ?_) | (
    refine goB 2 ?_
    all_goals (refine WC.sr ?_)
    all_goals (refine Go ?_)
    all_goals (refine goC 3 4 ?_ ?_ <;> first | exact ⟨⟩ | refine Hb.mk fun hb => ?_ | skip)
    all_goals (first | (fail_if_success refine goB 3 ?_) | (
    refine goB 3 ?_
    all_goals (refine WC.sr ?_)
    all_goals (refine Go ?_)
    all_goals (refine WL.step (ok_idxS Tryz.underlying9 rfl rfl (by omega) e0) rfl rfl rfl ?_)
    all_goals (refine WL.call (vs := [_, _]) rfl (fun a w => Tryz.call116 a w) rfl (k1) rfl rfl rfl ?_
               rintro _ hq ⟨rfl, hz1⟩
               subst hz1)
    all_goals (refine Go ?_)
    all_goals (refine Gs [(4, _)] ?_)
    all_goals (refine Gt ?_)
    all_goals (exact ⟨rfl, rfl⟩)
    skip))
    all_goals (first | (fail_if_success refine goB 4 ?_) | (
    refine goB 4 ?_
    all_goals (refine WC.sr ?_)
    all_goals (refine Go ?_)
    all_goals (refine Gs [(0, _), (1, _), (5, _), (31, _)] ?_)
    all_goals (refine goC 5 6 ?_ ?_ <;> first | exact ⟨⟩ | refine Hb.mk fun hb => ?_ | skip)
    all_goals (first | (fail_if_success refine goB 5 ?_) | (
    refine goB 5 ?_
    all_goals (refine WC.sr ?_)
    all_goals (refine Go ?_)
    all_goals (refine Gs [(4, _)] ?_)
    all_goals (refine Gt ?_)
    all_goals (exact ⟨rfl, rfl⟩)
    skip))
    all_goals (first | (fail_if_success refine goB 6 ?_) | (
    refine goB 6 ?_
    all_goals (refine WC.sr ?_)
    all_goals (refine Go ?_)
    all_goals (refine Ld ?_)
    all_goals (refine Go ?_)
    all_goals (refine goP 40 ?_ ?_ <;> first | exact ⟨⟩ | refine Hb.mk fun hb => ?_ | skip)
    all_goals (refine Gg ?_)
    all_goals (refine Go ?_)
    all_goals (refine Gs [(0, _), (1, _), (5, _), (36, _)] ?_)
    all_goals (refine goC 7 8 ?_ ?_ <;> first | exact ⟨⟩ | refine Hb.mk fun hb => ?_ | skip)
    all_goals (first | (fail_if_success refine goB 7 ?_) | (
    refine goB 7 ?_
    all_goals (refine WC.sr ?_)
    all_goals (refine Go ?_)
    all_goals (refine WL.step (ok_extern ? rfl) rfl rfl rfl ?_)
    all_goals (refine Go ?_)
    all_goals (refine Gs [(4, _)] ?_)
    all_goals (refine Gt ?_)
    all_goals (exact ⟨rfl, rfl⟩)
    skip))
    all_goals (first | (fail_if_success refine goB 8 ?_) | (
    refine goB 8 ?_
    all_goals (refine WC.skip ?_)
    skip))
    skip))
    skip))
    skip))
    all_goals (refine Gn ?_)
    all_goals (refine WC.sr ?_)
    all_goals (refine Go ?_)
    all_goals (refine WL.step (ok_idxS Tryz.underlying9 rfl rfl (by omega) (by assumption)) rfl rfl rfl ?_)
    all_goals (refine Go ?_)
    all_goals (refine WC.sr ?_)
    all_goals (refine Go ?_)
    all_goals (refine WL.step (ok_idxS Tryz.underlying9 rfl rfl (by omega) (by assumption)) rfl rfl rfl ?_)
    all_goals (refine Go ?_)
    all_goals (refine Gs [(0, _), (1, _), (5, _), (6, _), (7, _)] ?_)
    all_goals (refine WC.sr ?_)
    all_goals (refine Go ?_)
    all_goals (refine WC.sr ?_)
    all_goals (refine Go ?_)
    all_goals (refine Gs [(0, _), (1, _), (5, _), (6, _), (7, _), (8, _), (9, _)] ?_)
    all_goals (refine WC.sr ?_)
    all_goals (refine Go ?_)
    all_goals (refine WC.seq ?_)
    all_goals (refine WC.block ?_)
    -- loop 0: slots that turn [8, 10], that stay [0, 1, 5, 6, 7, 9]
    all_goals (refine WC.loopG (fun x => (None : Fr)) [(0, _), (1, _), (5, _), (6, _), (7, _), (9, _)] (None) (None) (None) ⟨rfl, rfl, rfl, rfl, rfl, rfl, rfl, rfl, trivial⟩ (by exact ⟨⟩) ?_)
    all_goals (rintro x h1 hI)
    all_goals (refine WC.sub [(8, _), (10, _), (0, _), (1, _), (5, _), (6, _), (7, _), (9, _)] ⟨rfl, rfl, rfl, rfl, rfl, rfl, rfl, rfl, trivial⟩ ?_)
    all_goals (refine WC.seq ?_)
    all_goals (refine WC.sr ?_)
    all_goals (refine Go ?_)
    all_goals (refine goC 9 10 ?_ ?_ <;> first | exact ⟨⟩ | refine Hb.mk fun hb => ?_ | skip)
    all_goals (first | (fail_if_success refine goB 9 ?_) | (
    refine goB 9 ?_
    all_goals (refine WC.skip ?_)
    skip))
    all_goals (first | (fail_if_success refine goB 10 ?_) | (
    refine goB 10 ?_
    all_goals (refine WC.exit ?_)
    all_goals (repeat' (with_reducible first | refine thenP_x ?_ | refine blockP_miss rfl ?_ | refine blockP_hit ?_ | refine blockP_n ?_ | refine thenP_n ?_))
    all_goals (refine Br.out (i := 1001) ?_)
    skip))
    all_goals (refine Gn ?_)
    all_goals (first | (refine Br.keep ?_) | (refine WC.block ?_))
    all_goals (first | (refine Br.keep ?_) | (refine WC.seq ?_))
    all_goals (first | (refine Br.keep ?_) | (refine WC.sr ?_))
    all_goals (refine Go ?_)
    all_goals (first | (refine Br.keep ?_) | (refine WL.step (ok_idxS Tryz.underlying9 rfl rfl (by omega) (by assumption)) rfl rfl rfl ?_))
    all_goals (refine Go ?_)
    all_goals (first | (refine Br.keep ?_) | (refine Gs [(0, _), (1, _), (5, _), (6, _), (7, _), (8, _), (9, _), (10, _), (64, _)] ?_))
    all_goals (first | (refine Br.keep ?_) | (refine goC 11 12 ?_ ?_ <;> first | exact ⟨⟩ | refine Hb.mk fun hb => ?_ | skip))
    all_goals (first | (fail_if_success refine goB 12 ?_) | (
    refine goB 12 ?_
    all_goals (refine WC.skip ?_)
    skip))
    all_goals (refine Gn ?_)
    all_goals (first | (refine Br.keep ?_) | (refine WC.seq ?_))
    all_goals (first | (refine Br.keep ?_) | (refine WC.sr ?_))
    all_goals (refine Go ?_)
    all_goals (first | (refine Br.keep ?_) | (refine WL.step (ok_idxS Tryz.underlying9 rfl rfl (by omega) (by assumption)) rfl rfl rfl ?_))
    all_goals (refine Go ?_)
    all_goals (first | (refine Br.keep ?_) | (refine goP 84 ?_ ?_ <;> first | exact ⟨⟩ | refine Hb.mk fun hb => ?_ | skip))
    all_goals (refine Gg ?_)
    all_goals (first | (refine Br.keep ?_) | (first | (refine WL.pass rfl rfl rfl ?_) | (refine WL.step (ok_slice_slh Tryz.underlying9 rfl rfl rfl (by first | omega | (simp <;> omega))) rfl rfl rfl ?_)))
    all_goals (refine Gg ?_)
    all_goals (refine Go ?_)
    all_goals (first | (refine Br.keep ?_) | (refine Gs [(0, _), (1, _), (5, _), (6, _), (7, _), (8, _), (9, _), (10, _), (93, _)] ?_))
    all_goals (first | (refine Br.keep ?_) | (refine goC 15 16 ?_ ?_ <;> first | exact ⟨⟩ | refine Hb.mk fun hb => ?_ | skip))
    all_goals (first | (fail_if_success refine goB 15 ?_) | (
    refine goB 15 ?_
    all_goals (refine WC.sr ?_)
    all_goals (refine Go ?_)
    all_goals (refine Gs [(4, _)] ?_)
    all_goals (refine Gt ?_)
    all_goals (exact ⟨rfl, rfl⟩)
    skip))
    all_goals (first | (fail_if_success refine goB 16 ?_) | (
    refine goB 16 ?_
    all_goals (refine WC.skip ?_)
    skip))
    all_goals (refine Gn ?_)
    all_goals (first | (refine Br.keep ?_) | (refine WC.sr ?_))
    all_goals (refine Go ?_)
    all_goals (first | (refine Br.keep ?_) | (refine WC.sr ?_))
    all_goals (refine Go ?_)
    all_goals (first | (refine Br.keep ?_) | (refine Gs [(0, _), (1, _), (5, _), (6, _), (7, _), (8, _), (9, _), (10, _)] ?_))
    all_goals (first | (refine Br.keep ?_) | (refine WC.sr ?_))
    all_goals (refine Go ?_)
    all_goals (first | (refine Br.keep ?_) | (refine Ld ?_))
    all_goals (refine Go ?_)
    all_goals (first | (refine Br.keep ?_) | (refine goP 102 ?_ ?_ <;> first | exact ⟨⟩ | refine Hb.mk fun hb => ?_ | skip))
    all_goals (refine Gg ?_)
    all_goals (first | (refine Br.keep ?_) | (first | (refine WL.pass rfl rfl rfl ?_) | (fail "no contract for call of internal/bytealg.Cutover at 25.6")))
    all_goals (refine Gg ?_)
    all_goals (refine Go ?_)
    all_goals (first | (refine Br.keep ?_) | (refine Gs [(0, _), (1, _), (5, _), (6, _), (7, _), (8, _), (9, _), (10, _), (107, _)] ?_))
    all_goals (first | (refine Br.keep ?_) | (refine goC 17 18 ?_ ?_ <;> first | exact ⟨⟩ | refine Hb.mk fun hb => ?_ | skip))
    all_goals (first | (fail_if_success refine goB 17 ?_) | (
    refine goB 17 ?_
    all_goals (refine WC.sr ?_)
    all_goals (refine Go ?_)
    all_goals (refine WL.step (ok_slice_sl Tryz.underlying9 rfl rfl (by first | omega | (simp <;> omega))) rfl rfl rfl ?_)
    all_goals (refine Go ?_)
    all_goals (refine WL.step (ok_extern ? rfl) rfl rfl rfl ?_)
    all_goals (refine Go ?_)
    all_goals (refine Gs [(8, _), (12, _)] ?_)
    all_goals (refine WC.seq ?_)
    all_goals (refine WC.sr ?_)
    all_goals (refine Go ?_)
    all_goals (refine goC 19 20 ?_ ?_ <;> first | exact ⟨⟩ | refine Hb.mk fun hb => ?_ | skip)
    all_goals (first | (fail_if_success refine goB 19 ?_) | (
    refine goB 19 ?_
    all_goals (refine WC.sr ?_)
    all_goals (refine Go ?_)
    all_goals (refine Gs [(4, _)] ?_)
    all_goals (refine Gt ?_)
    all_goals (exact ⟨rfl, rfl⟩)
    skip))
    all_goals (first | (fail_if_success refine goB 20 ?_) | (
    refine goB 20 ?_
    all_goals (refine WC.skip ?_)
    skip))
    all_goals (refine Gn ?_)
    all_goals (refine Gs [] ?_)
    all_goals (refine WC.sr ?_)
    all_goals (refine Go ?_)
    all_goals (refine Gt ?_)
    all_goals (exact ⟨rfl, rfl⟩)
    skip))
    all_goals (first | (fail_if_success refine goB 18 ?_) | (
    refine goB 18 ?_
    all_goals (refine WC.sr ?_)
    all_goals (refine Go ?_)
    all_goals (refine Ld ?_)
    all_goals (refine Go ?_)
    all_goals (refine goP 121 ?_ ?_ <;> first | exact ⟨⟩ | refine Hb.mk fun hb => ?_ | skip)
    all_goals (refine Gg ?_)
    all_goals (first | (refine WL.pass rfl rfl rfl ?_) | (refine WL.step (ok_shr rfl rfl (by omega)) rfl rfl rfl ?_))
    all_goals (refine Gg ?_)
    all_goals (refine Go ?_)
    all_goals (refine goP 128 ?_ ?_ <;> first | exact ⟨⟩ | refine Hb.mk fun hb => ?_ | skip)
    all_goals (refine Gg ?_)
    all_goals (refine Go ?_)
    all_goals (refine Gs [(0, _), (1, _), (5, _), (6, _), (7, _), (8, _), (9, _), (10, _), (132, _)] ?_)
    all_goals (refine goC 21 22 ?_ ?_ <;> first | exact ⟨⟩ | refine Hb.mk fun hb => ?_ | skip)
    all_goals (first | (fail_if_success refine goB 22 ?_) | (
    refine goB 22 ?_
    all_goals (refine WC.skip ?_)
    skip))
    skip))
    all_goals (refine Gn ?_)
    all_goals (first | (refine Br.keep ?_) | (exact ⟨None, ⟨rfl, rfl, rfl, rfl, rfl, rfl, rfl, rfl, trivial⟩, (by exact ⟨⟩), (by simp; omega)⟩))
    all_goals (try (refine Br.mk (i := 1001) ?_))
    all_goals (refine Gn ?_)
    all_goals (refine Gs [] ?_)
    all_goals (refine WC.sr ?_)
    all_goals (refine Go ?_)
    all_goals (refine Gt ?_)
    all_goals (exact ⟨rfl, rfl⟩)
end Go.Proofs.YtbokngiajfdanaaGreatDoor


/-
  STATEMENTS' TEXTS (layer 26), by the code: what a text says.
-/
namespace Go.Proofs.YtbokngiajfdanaaGreatDoor
open Go Go.RK

theorem ixb_cases (s : List UInt8) (c : UInt8) : Lib.indexByte s c = -1 ∨ ∃ i : Nat, Lib.indexByte s c = (i : Int) ∧ i < s.length := by
  have h1 := Lib.indexByte_ge s c
  by_cases h0 : 0 ≤ Lib.indexByte s c
  · refine .inr ⟨(Lib.indexByte s c).toNat, by omega, ?_⟩
    have := (Lib.indexByte_some (l := s) (c := c) (o := (Lib.indexByte s c).toNat) (by omega)).1
    exact (List.getElem?_eq_some_iff.1 this).1
  · exact .inl (by omega)
/-- A text cut at its first blank. -/
def cutP (s : List UInt8) : List UInt8 × List UInt8 × Bool := if 0 ≤ Lib.indexByte s 32 then (s.take (Lib.indexByte s 32).toNat, s.drop ((Lib.indexByte s 32).toNat + 1), true) else (s, [], false)
set_option maxHeartbeats 2000000 in
set_option maxRecDepth 100000 in
theorem cut_v {h : Heap} (s : List UInt8) (hm : s.length ≤ 1000000) : CallsH Tryz.prog 139 ⟨[St s, St [32]]⟩ h fun u h' => u = .tuple ⟨[St (cutP s).1, St (cutP s).2.1, .bool (cutP s).2.2]⟩ ∧ h' = h := by
  have k0 : CallsH Tryz.prog 185 ⟨[St s, St [32]]⟩ h fun u h' => u = .tuple ⟨[St (cutP s).1, St (cutP s).2.1, .bool (cutP s).2.2]⟩ ∧ h' = h := by
    have ki := index_v (h := h) s
    unfold cutP
    rcases ixb_cases s 32 with e | ⟨i, e, hi⟩
    · rw [e] at ki ⊢
      refine calls [(0, _), (1, _)] Tryz.func185 rfl Tryz.ntmps185 rfl ⟨rfl, rfl, trivial⟩ ?_
      all_goals (refine WC.sr ?_)
      all_goals (refine Go ?_)
      all_goals (refine WC.seq ?_)
      all_goals (refine WC.sr ?_)
      all_goals (refine Go ?_)
      all_goals (refine WL.call (vs := [_, _]) rfl (fun a w => Tryz.call209 a w) rfl (ki) rfl rfl rfl ?_
                 rintro _ hq ⟨rfl, hz1⟩
                 subst hz1)
      all_goals (refine Go ?_)
      all_goals (refine Gs [(0, _), (1, _), (7, _)] ?_)
      all_goals (refine WC.sr ?_)
      all_goals (refine Go ?_)
      all_goals (refine goC 1 2 ?_ ?_ <;> first | exact ⟨⟩ | refine Hb.mk fun hb => ?_ | skip)
      all_goals (first | (fail_if_success refine goB 1 ?_) | (
      refine goB 1 ?_
      all_goals (refine WC.seq ?_)
      all_goals (refine WC.drawE fol (by kernel_rfl) ?_)
      all_goals (refine WQ.stepE (ok_move rfl) rfl rfl rfl ?_)
      all_goals (refine WQ.stepE (ok_move rfl) rfl rfl rfl ?_)
      all_goals (refine WQ.stepE (ok_slice_sh Tryz.underlying9 rfl rfl (by first | omega | (simp <;> omega))) rfl rfl rfl ?_)
      all_goals (refine WQ.stepE (ok_move rfl) rfl rfl rfl ?_)
      all_goals (refine WQ.stepE (ok_move rfl) rfl rfl rfl ?_)
      all_goals (refine WQ.stepE (ok_move rfl) rfl rfl rfl ?_)
      all_goals (refine WQ.stepE (ok_lenS rfl Tryz.underlying9 rfl) rfl rfl rfl ?_)
      all_goals (first | (refine WQ.stepE (ok_addI rfl rfl (by omega)) rfl rfl rfl ?_) | (refine WQ.stepE (ok_add rfl rfl) rfl rfl rfl ?_))
      all_goals (refine WQ.stepE (ok_slice_sl Tryz.underlying9 rfl rfl (by first | omega | (simp <;> omega))) rfl rfl rfl ?_)
      all_goals (refine WQ.stepE (ok_assign rfl) rfl rfl rfl ?_)
      all_goals (refine WQ.stepE (ok_assign rfl) rfl rfl rfl ?_)
      all_goals (refine WQ.stepE (ok_assign rfl) rfl rfl rfl ?_)
      all_goals (refine WQ.nil ?_)
      all_goals (refine Gn ?_)
      all_goals (refine Gs [(4, _), (5, _), (6, _)] ?_)
      all_goals (refine Gt ?_)
      all_goals (exact ⟨rfl, rfl⟩)
      skip))
      all_goals (first | (fail_if_success refine goB 2 ?_) | (
      refine goB 2 ?_
      all_goals (refine WC.skip ?_)
      skip))
      all_goals (refine Gn ?_)
      all_goals (refine Gs [(0, _)] ?_)
      all_goals (refine WC.sr ?_)
      all_goals (refine Go ?_)
      all_goals (refine Gt ?_)
      all_goals (exact ⟨rfl, rfl⟩)
    · rw [e] at ki ⊢
      rw [if_pos (by omega)]
      have h32 : ([32] : List UInt8).length = 1 := rfl
      refine calls [(0, _), (1, _)] Tryz.func185 rfl Tryz.ntmps185 rfl ⟨rfl, rfl, trivial⟩ ?_
      all_goals (refine WC.sr ?_)
      all_goals (refine Go ?_)
      all_goals (refine WC.seq ?_)
      all_goals (refine WC.sr ?_)
      all_goals (refine Go ?_)
      all_goals (refine WL.call (vs := [_, _]) rfl (fun a w => Tryz.call209 a w) rfl (ki) rfl rfl rfl ?_
                 rintro _ hq ⟨rfl, hz1⟩
                 subst hz1)
      all_goals (refine Go ?_)
      all_goals (refine Gs [(0, _), (1, _), (7, _)] ?_)
      all_goals (refine WC.sr ?_)
      all_goals (refine Go ?_)
      all_goals (refine goC 1 2 ?_ ?_ <;> first | exact ⟨⟩ | refine Hb.mk fun hb => ?_ | skip)
      all_goals (first | (fail_if_success refine goB 1 ?_) | (
      refine goB 1 ?_
      all_goals (refine WC.seq ?_)
      all_goals (refine WC.drawE fol (by kernel_rfl) ?_)
      all_goals (refine WQ.stepE (ok_move rfl) rfl rfl rfl ?_)
      all_goals (refine WQ.stepE (ok_move rfl) rfl rfl rfl ?_)
      all_goals (refine WQ.stepE (ok_slice_sh Tryz.underlying9 rfl rfl (by first | omega | (simp <;> omega))) rfl rfl rfl ?_)
      all_goals (refine WQ.stepE (ok_move rfl) rfl rfl rfl ?_)
      all_goals (refine WQ.stepE (ok_move rfl) rfl rfl rfl ?_)
      all_goals (refine WQ.stepE (ok_move rfl) rfl rfl rfl ?_)
      all_goals (refine WQ.stepE (ok_lenS rfl Tryz.underlying9 rfl) rfl rfl rfl ?_)
      all_goals (first | (refine WQ.stepE (ok_addI rfl rfl (by omega)) rfl rfl rfl ?_) | (refine WQ.stepE (ok_add rfl rfl) rfl rfl rfl ?_))
      all_goals (refine WQ.stepE (ok_slice_sl Tryz.underlying9 rfl rfl (by first | omega | (simp <;> omega))) rfl rfl rfl ?_)
      all_goals (refine WQ.stepE (ok_assign rfl) rfl rfl rfl ?_)
      all_goals (refine WQ.stepE (ok_assign rfl) rfl rfl rfl ?_)
      all_goals (refine WQ.stepE (ok_assign rfl) rfl rfl rfl ?_)
      all_goals (refine WQ.nil ?_)
      all_goals (refine Gn ?_)
      all_goals (refine Gs [(4, _), (5, _), (6, _)] ?_)
      all_goals (refine Gt ?_)
      all_goals (refine ⟨?_, rfl⟩
                 rw [show ((i : Int) + (([32] : List UInt8).length : Int)).toNat = (i : Int).toNat + 1 by rw [h32]; omega])
      skip))
      all_goals (first | (fail_if_success refine goB 2 ?_) | (
      refine goB 2 ?_
      all_goals (refine WC.skip ?_)
      skip))
      all_goals (refine Gn ?_)
      all_goals (refine Gs [(0, _)] ?_)
      all_goals (refine WC.sr ?_)
      all_goals (refine Go ?_)
      all_goals (refine Gt ?_)
      all_goals (refine ⟨?_, rfl⟩
                 rw [show ((i : Int) + (([32] : List UInt8).length : Int)).toNat = (i : Int).toNat + 1 by rw [h32]; omega])
  refine calls [(0, _), (1, _)] Tryz.func139 rfl Tryz.ntmps139 rfl ⟨rfl, rfl, trivial⟩ ?_
  all_goals (refine WC.sr ?_)
  all_goals (refine Go ?_)
  all_goals (refine WC.sr ?_)
  all_goals (refine Go ?_)
  all_goals (refine WL.call (vs := [_, _]) rfl (fun a w => Tryz.call185 a w) rfl (k0) rfl rfl rfl ?_
             rintro _ hq ⟨rfl, hz1⟩
             subst hz1)
  all_goals (refine Go ?_)
  all_goals (refine Gs [(4, _), (5, _), (6, _)] ?_)
  all_goals (refine Gt ?_)
  all_goals (exact ⟨rfl, rfl⟩)
def wordP (s : List UInt8) : Option Int := if s = [] then some 1 else if s = ([98, 101, 103, 105, 110] : List UInt8) then some 2 else if s = ([99, 111, 109, 109, 105, 116] : List UInt8) then some 3 else if s = ([114, 111, 108, 108, 98, 97, 99, 107] : List UInt8) then some 4 else if s = ([101, 99, 104, 111] : List UInt8) then some 6 else if s = ([110, 101, 120, 116] : List UInt8) then some 7 else none
set_option maxHeartbeats 2000000 in
set_option maxRecDepth 100000 in
theorem word_v {h : Heap} (s : List UInt8) : CallsH Tryz.prog 138 ⟨[St s]⟩ h fun u h' => u = .tuple ⟨[In ((wordP s).getD 0), .bool (wordP s).isSome]⟩ ∧ h' = h := by
  rcases (show s = [] ∨ s = ([98, 101, 103, 105, 110] : List UInt8) ∨ s = ([99, 111, 109, 109, 105, 116] : List UInt8) ∨ s = ([114, 111, 108, 108, 98, 97, 99, 107] : List UInt8) ∨ s = ([101, 99, 104, 111] : List UInt8) ∨ s = ([110, 101, 120, 116] : List UInt8) ∨ (s ≠ [] ∧ s ≠ ([98, 101, 103, 105, 110] : List UInt8) ∧ s ≠ ([99, 111, 109, 109, 105, 116] : List UInt8) ∧ s ≠ ([114, 111, 108, 108, 98, 97, 99, 107] : List UInt8) ∧ s ≠ ([101, 99, 104, 111] : List UInt8) ∧ s ≠ ([110, 101, 120, 116] : List UInt8)) by
    by_cases e1 : s = []; exact .inl e1
    by_cases e2 : s = ([98, 101, 103, 105, 110] : List UInt8); exact .inr (.inl e2)
    by_cases e3 : s = ([99, 111, 109, 109, 105, 116] : List UInt8); exact .inr (.inr (.inl e3))
    by_cases e4 : s = ([114, 111, 108, 108, 98, 97, 99, 107] : List UInt8); exact .inr (.inr (.inr (.inl e4)))
    by_cases e5 : s = ([101, 99, 104, 111] : List UInt8); exact .inr (.inr (.inr (.inr (.inl e5))))
    by_cases e6 : s = ([110, 101, 120, 116] : List UInt8); exact .inr (.inr (.inr (.inr (.inr (.inl e6)))))
    exact .inr (.inr (.inr (.inr (.inr (.inr ⟨e1, e2, e3, e4, e5, e6⟩)))))) with rfl | rfl | rfl | rfl | rfl | rfl | ⟨e1, e2, e3, e4, e5, e6⟩
  all_goals
    refine calls [(0, _)] Tryz.func138 rfl Tryz.ntmps138 rfl ⟨rfl, trivial⟩ ?_
    all_goals (refine WC.sr ?_)
    all_goals (refine Go ?_)
    all_goals (refine WC.seq ?_)
    all_goals (refine WC.sr ?_)
    all_goals (refine Go ?_)
    all_goals (refine WC.block ?_)
    all_goals (refine WC.sr ?_)
    all_goals (refine Go ?_)
    all_goals (refine Gs [(4, _), (5, _)] ?_)
    all_goals (refine goC 1 2 ?_ ?_ <;> first | exact ⟨⟩ | refine Hb.mk fun hb => ?_ | skip)
    all_goals (first | (fail_if_success refine goB 1 ?_) | (
    refine goB 1 ?_
    all_goals (refine WC.sr ?_)
    all_goals (refine Go ?_)
    all_goals (refine Gt ?_)
    all_goals (exact ⟨by first | rfl | (unfold wordP; rw [if_neg e1, if_neg e2, if_neg e3, if_neg e4, if_neg e5, if_neg e6]; rfl), rfl⟩)
    skip))
    all_goals (first | (fail_if_success refine goB 2 ?_) | (
    refine goB 2 ?_
    all_goals (refine WC.sr ?_)
    all_goals (refine Go ?_)
    all_goals (refine goC 3 4 ?_ ?_ <;> first | exact ⟨⟩ | refine Hb.mk fun hb => ?_ | skip)
    all_goals (first | (fail_if_success refine goB 3 ?_) | (
    refine goB 3 ?_
    all_goals (refine WC.sr ?_)
    all_goals (refine Go ?_)
    all_goals (refine Gs [(2, _), (3, _)] ?_)
    all_goals (refine Gt ?_)
    all_goals (exact ⟨by first | rfl | (unfold wordP; rw [if_neg e1, if_neg e2, if_neg e3, if_neg e4, if_neg e5, if_neg e6]; rfl), rfl⟩)
    skip))
    all_goals (first | (fail_if_success refine goB 4 ?_) | (
    refine goB 4 ?_
    all_goals (refine WC.sr ?_)
    all_goals (refine Go ?_)
    all_goals (refine Gs [(4, _), (9, _)] ?_)
    all_goals (refine goC 5 6 ?_ ?_ <;> first | exact ⟨⟩ | refine Hb.mk fun hb => ?_ | skip)
    all_goals (first | (fail_if_success refine goB 5 ?_) | (
    refine goB 5 ?_
    all_goals (refine WC.sr ?_)
    all_goals (refine Go ?_)
    all_goals (refine Gt ?_)
    all_goals (exact ⟨by first | rfl | (unfold wordP; rw [if_neg e1, if_neg e2, if_neg e3, if_neg e4, if_neg e5, if_neg e6]; rfl), rfl⟩)
    skip))
    all_goals (first | (fail_if_success refine goB 6 ?_) | (
    refine goB 6 ?_
    all_goals (refine WC.sr ?_)
    all_goals (refine Go ?_)
    all_goals (refine goC 7 8 ?_ ?_ <;> first | exact ⟨⟩ | refine Hb.mk fun hb => ?_ | skip)
    all_goals (first | (fail_if_success refine goB 7 ?_) | (
    refine goB 7 ?_
    all_goals (refine WC.sr ?_)
    all_goals (refine Go ?_)
    all_goals (refine Gs [(2, _), (3, _)] ?_)
    all_goals (refine Gt ?_)
    all_goals (exact ⟨by first | rfl | (unfold wordP; rw [if_neg e1, if_neg e2, if_neg e3, if_neg e4, if_neg e5, if_neg e6]; rfl), rfl⟩)
    skip))
    all_goals (first | (fail_if_success refine goB 8 ?_) | (
    refine goB 8 ?_
    all_goals (refine WC.sr ?_)
    all_goals (refine Go ?_)
    all_goals (refine Gs [(4, _), (13, _)] ?_)
    all_goals (refine goC 9 10 ?_ ?_ <;> first | exact ⟨⟩ | refine Hb.mk fun hb => ?_ | skip)
    all_goals (first | (fail_if_success refine goB 9 ?_) | (
    refine goB 9 ?_
    all_goals (refine WC.sr ?_)
    all_goals (refine Go ?_)
    all_goals (refine Gt ?_)
    all_goals (exact ⟨by first | rfl | (unfold wordP; rw [if_neg e1, if_neg e2, if_neg e3, if_neg e4, if_neg e5, if_neg e6]; rfl), rfl⟩)
    skip))
    all_goals (first | (fail_if_success refine goB 10 ?_) | (
    refine goB 10 ?_
    all_goals (refine WC.sr ?_)
    all_goals (refine Go ?_)
    all_goals (refine goC 11 12 ?_ ?_ <;> first | exact ⟨⟩ | refine Hb.mk fun hb => ?_ | skip)
    all_goals (first | (fail_if_success refine goB 11 ?_) | (
    refine goB 11 ?_
    all_goals (refine WC.sr ?_)
    all_goals (refine Go ?_)
    all_goals (refine Gs [(2, _), (3, _)] ?_)
    all_goals (refine Gt ?_)
    all_goals (exact ⟨by first | rfl | (unfold wordP; rw [if_neg e1, if_neg e2, if_neg e3, if_neg e4, if_neg e5, if_neg e6]; rfl), rfl⟩)
    skip))
    all_goals (first | (fail_if_success refine goB 12 ?_) | (
    refine goB 12 ?_
    all_goals (refine WC.skip ?_)
    skip))
    skip))
    skip))
    skip))
    skip))
    skip))
    all_goals (refine Gn ?_)
    all_goals (refine Gs [] ?_)
    all_goals (refine WC.sr ?_)
    all_goals (refine Go ?_)
    all_goals (refine Gt ?_)
    all_goals (exact ⟨by first | rfl | (unfold wordP; rw [if_neg e1, if_neg e2, if_neg e3, if_neg e4, if_neg e5, if_neg e6]; rfl), rfl⟩)
def digB (y : UInt8) : Bool := decide (48 ≤ y.toNat) && decide (y.toNat ≤ 57)
def valD (s : List UInt8) : Int := s.foldl (fun n y => 10 * n + ((y.toNat : Int) - 48)) 0
def parseD (s : List UInt8) (most : Int) : Option Int := if s = [] ∨ 10 < s.length then none else if s[0]? = some 48 ∧ 1 < s.length then none else if s.all digB = true then (if most < valD s then none else some (valD s)) else none
theorem valD_snoc (l : List UInt8) (x : UInt8) : valD (l ++ [x]) = 10 * valD l + ((x.toNat : Int) - 48) := by simp [valD]
theorem wrap_u8 {a : Int} (h0 : 0 ≤ a) (h1 : a ≤ 255) : IntKind.u8.wrap a = a := by simp [IntKind.wrap, IntKind.bits, IntKind.signed]; omega
def digR (b : Bool) (y : UInt8) : Value := match b with
  | true => .tuple ⟨[In ((y.toNat : Int) - 48), .bool true]⟩
  | false => .tuple ⟨[In 0, .bool false]⟩
set_option maxHeartbeats 2000000 in
set_option maxRecDepth 100000 in
theorem digit_v {h : Heap} (y : UInt8) : CallsH Tryz.prog 210 ⟨[By y]⟩ h fun u h' => u = digR (digB y) y ∧ h' = h := by
  have hy := y.toNat_lt
  rcases (show digB y = true ∧ 48 ≤ (y.toNat : Int) ∧ (y.toNat : Int) ≤ 57 ∨ digB y = false ∧ (y.toNat : Int) < 48 ∨ digB y = false ∧ 48 ≤ (y.toNat : Int) ∧ 57 < (y.toNat : Int) by
    by_cases e1 : 48 ≤ y.toNat
    · by_cases e2 : y.toNat ≤ 57
      · exact .inl ⟨by simp [digB, e1, e2], by omega, by omega⟩
      · exact .inr (.inr ⟨by simp [digB, e2], by omega, by omega⟩)
    · exact .inr (.inl ⟨by simp [digB, e1], by omega⟩)) with ⟨e, h1, h2⟩ | ⟨e, h1⟩ | ⟨e, h1, h2⟩
  all_goals
    refine calls [(0, _)] Tryz.func210 rfl Tryz.ntmps210 rfl ⟨rfl, trivial⟩ ?_
    all_goals (refine WC.sr ?_)
    all_goals (refine Go ?_)
    all_goals (refine WC.seq ?_)
    all_goals (refine WC.sr ?_)
    all_goals (refine Go ?_)
    all_goals (refine goP 6 ?_ ?_ <;> first | exact ⟨⟩ | refine Hb.mk fun hb => ?_ | skip)
    all_goals (refine Gg ?_)
    all_goals (refine Go ?_)
    all_goals (refine Gs [(0, _), (9, _)] ?_)
    all_goals (refine goC 1 2 ?_ ?_ <;> first | exact ⟨⟩ | refine Hb.mk fun hb => ?_ | skip)
    all_goals (first | (fail_if_success refine goB 1 ?_) | (
    refine goB 1 ?_
    all_goals (refine WC.sr ?_)
    all_goals (refine Go ?_)
    all_goals (refine Gt ?_)
    all_goals (rw [e]
               exact ⟨rfl, rfl⟩)
    skip))
    all_goals (first | (fail_if_success refine goB 2 ?_) | (
    refine goB 2 ?_
    all_goals (refine WC.skip ?_)
    skip))
    all_goals (refine Gn ?_)
    all_goals (refine WC.sr ?_)
    all_goals (refine WL.step (ok_move rfl) rfl rfl rfl ?_)
    all_goals (refine WL.step (ok_sub rfl rfl) rfl rfl rfl ?_)
    all_goals (try rw [wrap_u8 (by omega) (by omega)])
    all_goals (first | (refine WL.step (ok_convI Tryz.underlying5 Tryz.underlying3 rfl (by omega)) rfl rfl rfl ?_) | (refine WL.step (ok_conv Tryz.underlying5 Tryz.underlying3 rfl) rfl rfl rfl ?_))
    all_goals (refine Go ?_)
    all_goals (refine Gs [(2, _), (3, _)] ?_)
    all_goals (refine Gt ?_)
    all_goals (rw [e]
               exact ⟨rfl, rfl⟩)
end Go.Proofs.YtbokngiajfdanaaGreatDoor


/-
  STATEMENTS' TEXTS (layer 26), by the code: Parse; a transaction's status (layer 29).
-/
namespace Go.Proofs.YtbokngiajfdanaaGreatDoor
open Go Go.RK

theorem digB_i {y : UInt8} (h : digB y = true) : 48 ≤ (y.toNat : Int) ∧ (y.toNat : Int) ≤ 57 := by
  simp [digB] at h
  omega
theorem valD_le : ∀ (n : Nat) (l : List UInt8), l.length = n → l.all digB = true → 0 ≤ valD l ∧ valD l + 1 ≤ 10 ^ n := by
  intro n
  induction n with
  | zero => intro l hl _; rw [List.eq_nil_of_length_eq_zero hl]; exact ⟨by decide, by decide⟩
  | succ n ih =>
    intro l hl ha
    rcases List.eq_nil_or_concat l with rfl | ⟨r, y, rfl⟩
    · simp at hl
    · rw [List.concat_eq_append] at *
      simp only [List.all_append, Bool.and_eq_true, List.all_cons, List.all_nil, Bool.and_true] at ha
      have := ih r (by simpa using hl) ha.1
      have hd := digB_i ha.2
      rw [valD_snoc, Int.pow_succ]
      omega
theorem pow10 {n : Nat} (h : n ≤ 10) : (10 : Int) ^ n ≤ 10000000000 := by
  match n, h with
  | 0, _ => decide
  | 1, _ => decide
  | 2, _ => decide
  | 3, _ => decide
  | 4, _ => decide
  | 5, _ => decide
  | 6, _ => decide
  | 7, _ => decide
  | 8, _ => decide
  | 9, _ => decide
  | 10, _ => decide
def resD (o : Option Int) : Value := .tuple ⟨[In (o.getD 0), .bool o.isSome]⟩
set_option maxHeartbeats 2000000 in
set_option maxRecDepth 100000 in
theorem parse_long {h : Heap} (s : List UInt8) (most : Int) (h1 : s = [] ∨ 10 < s.length) : CallsH Tryz.prog 186 ⟨[St s, In most]⟩ h fun u h' => u = resD none ∧ h' = h := by
  rcases h1 with rfl | h1
  · have hs : True := trivial
    refine calls [(0, _), (1, _)] Tryz.func186 rfl Tryz.ntmps186 rfl ⟨rfl, rfl, trivial⟩ ?_
    all_goals (refine WC.sr ?_)
    all_goals (refine Go ?_)
    all_goals (refine WC.seq ?_)
    all_goals (refine WC.block ?_)
    all_goals (refine WC.seq ?_)
    all_goals (refine WC.sr ?_)
    all_goals (refine Go ?_)
    all_goals (refine Gs [(0, _), (1, _), (10, _)] ?_)
    all_goals (refine goC 1 2 ?_ ?_ <;> first | exact ⟨⟩ | refine Hb.mk fun hb => ?_ | skip)
    all_goals (first | (fail_if_success refine goB 1 ?_) | (
    refine goB 1 ?_
    all_goals (refine WC.skip ?_)
    skip))
    all_goals (first | (fail_if_success refine goB 2 ?_) | (
    refine goB 2 ?_
    all_goals (refine WC.region ?_)
    all_goals (refine Go ?_)
    skip))
    all_goals (refine Gn ?_)
    all_goals (refine goC 3 4 ?_ ?_ <;> first | exact ⟨⟩ | refine Hb.mk fun hb => ?_ | skip)
    all_goals (first | (fail_if_success refine goB 3 ?_) | (
    refine goB 3 ?_
    all_goals (refine WC.sr ?_)
    all_goals (refine Go ?_)
    all_goals (refine Gt ?_)
    all_goals (exact ⟨rfl, rfl⟩)
    skip))
    all_goals (first | (fail_if_success refine goB 4 ?_) | (
    refine goB 4 ?_
    all_goals (refine WC.sr ?_)
    all_goals (refine Go ?_)
    all_goals (refine WL.step (ok_idxS Tryz.underlying9 rfl rfl (by omega) (by assumption)) rfl rfl rfl ?_)
    all_goals (refine Go ?_)
    all_goals (refine goP 20 ?_ ?_ <;> first | exact ⟨⟩ | refine Hb.mk fun hb => ?_ | skip)
    all_goals (refine Gg ?_)
    all_goals (refine Go ?_)
    all_goals (refine Gs [(0, _), (1, _), (16, _)] ?_)
    all_goals (refine goC 5 6 ?_ ?_ <;> first | exact ⟨⟩ | refine Hb.mk fun hb => ?_ | skip)
    all_goals (first | (fail_if_success refine goB 5 ?_) | (
    refine goB 5 ?_
    all_goals (refine WC.sr ?_)
    all_goals (refine Go ?_)
    all_goals (refine Gt ?_)
    all_goals (exact ⟨rfl, rfl⟩)
    skip))
    all_goals (first | (fail_if_success refine goB 6 ?_) | (
    refine goB 6 ?_
    all_goals (refine WC.skip ?_)
    skip))
    skip))
    all_goals (refine Gn ?_)
    all_goals (refine WC.sr ?_)
    all_goals (refine Go ?_)
    all_goals (refine WC.seq ?_)
    all_goals (refine WC.sr ?_)
    all_goals (refine Go ?_)
    all_goals (refine WC.block ?_)
    -- loop 0: slots that turn [6, 27], that stay [0, 1, 26]
    all_goals (refine WC.loopG (fun x => (None : Fr)) [(0, _), (1, _), (26, _)] (None) (None) (None) ⟨rfl, rfl, rfl, rfl, rfl, trivial⟩ (by exact ⟨⟩) ?_)
    all_goals (rintro x h1 hI)
    all_goals (refine WC.sub [(6, _), (27, _), (0, _), (1, _), (26, _)] ⟨rfl, rfl, rfl, rfl, rfl, trivial⟩ ?_)
    all_goals (refine WC.sr ?_)
    all_goals (refine Go ?_)
    all_goals (refine WC.seq ?_)
    all_goals (refine goC 7 8 ?_ ?_ <;> first | exact ⟨⟩ | refine Hb.mk fun hb => ?_ | skip)
    all_goals (first | (fail_if_success refine goB 7 ?_) | (
    refine goB 7 ?_
    all_goals (refine WC.skip ?_)
    skip))
    all_goals (first | (fail_if_success refine goB 8 ?_) | (
    refine goB 8 ?_
    all_goals (refine WC.exit ?_)
    all_goals (repeat' (with_reducible first | refine thenP_x ?_ | refine blockP_miss rfl ?_ | refine blockP_hit ?_ | refine blockP_n ?_ | refine thenP_n ?_))
    all_goals (refine Br.out (i := 1001) ?_)
    skip))
    all_goals (refine Gn ?_)
    all_goals (first | (refine Br.keep ?_) | (refine WC.seq ?_))
    all_goals (first | (refine Br.keep ?_) | (refine WC.block ?_))
    all_goals (first | (refine Br.keep ?_) | (refine WC.sr ?_))
    all_goals (refine Go ?_)
    all_goals (first | (refine Br.keep ?_) | (refine WC.sr ?_))
    all_goals (refine Go ?_)
    all_goals (first | (refine Br.keep ?_) | (refine WL.step (ok_idxS Tryz.underlying9 rfl rfl (by omega) (by assumption)) rfl rfl rfl ?_))
    all_goals (first | (refine Br.keep ?_) | (fail "no contract for call of remuda/digits.digit at 10.3"))
    all_goals (refine Go ?_)
    all_goals (first | (refine Br.keep ?_) | (refine Gs [(0, _), (1, _), (6, _), (8, _), (9, _), (26, _), (27, _)] ?_))
    all_goals (first | (refine Br.keep ?_) | (refine WC.seq ?_))
    all_goals (first | (refine Br.keep ?_) | (refine WC.sr ?_))
    all_goals (refine Go ?_)
    all_goals (first | (refine Br.keep ?_) | (refine goC 9 10 ?_ ?_ <;> first | exact ⟨⟩ | refine Hb.mk fun hb => ?_ | skip))
    all_goals (first | (fail_if_success refine goB 9 ?_) | (
    refine goB 9 ?_
    all_goals (refine WC.sr ?_)
    all_goals (refine Go ?_)
    all_goals (refine Gs [(4, _), (5, _)] ?_)
    all_goals (refine Gt ?_)
    all_goals (exact ⟨rfl, rfl⟩)
    skip))
    all_goals (first | (fail_if_success refine goB 10 ?_) | (
    refine goB 10 ?_
    all_goals (refine WC.skip ?_)
    skip))
    all_goals (refine Gn ?_)
    all_goals (first | (refine Br.keep ?_) | (refine WC.region ?_))
    all_goals (refine Go ?_)
    all_goals (first | (refine Br.keep ?_) | (first | (refine WL.step (ok_mulI rfl rfl (by omega)) rfl rfl rfl ?_) | (refine WL.step (ok_mul rfl rfl) rfl rfl rfl ?_)))
    all_goals (refine Go ?_)
    all_goals (first | (refine Br.keep ?_) | (refine Gs [(0, _), (1, _), (6, _), (26, _), (27, _)] ?_))
    all_goals (first | (refine Br.keep ?_) | (refine WC.region ?_))
    all_goals (refine Go ?_)
    all_goals (first | (refine Br.keep ?_) | (exact ⟨None, ⟨rfl, rfl, rfl, rfl, rfl, trivial⟩, (by exact ⟨⟩), (by simp; omega)⟩))
    all_goals (try (refine Br.mk (i := 1001) ?_))
    all_goals (refine Gn ?_)
    all_goals (refine Gs [(1, _), (6, _)] ?_)
    all_goals (refine WC.seq ?_)
    all_goals (refine WC.sr ?_)
    all_goals (refine Go ?_)
    all_goals (refine goC 11 12 ?_ ?_ <;> first | exact ⟨⟩ | refine Hb.mk fun hb => ?_ | skip)
    all_goals (first | (fail_if_success refine goB 11 ?_) | (
    refine goB 11 ?_
    all_goals (refine WC.sr ?_)
    all_goals (refine Go ?_)
    all_goals (refine Gs [(4, _), (5, _)] ?_)
    all_goals (refine Gt ?_)
    all_goals (exact ⟨rfl, rfl⟩)
    skip))
    all_goals (first | (fail_if_success refine goB 12 ?_) | (
    refine goB 12 ?_
    all_goals (refine WC.skip ?_)
    skip))
    all_goals (refine Gn ?_)
    all_goals (refine Gs [(6, _)] ?_)
    all_goals (refine WC.sr ?_)
    all_goals (refine Go ?_)
    all_goals (refine Gt ?_)
    all_goals (exact ⟨rfl, rfl⟩)
  · have hs : s ≠ [] := fun e => by rw [e] at h1; simp at h1
    refine calls [(0, _), (1, _)] Tryz.func186 rfl Tryz.ntmps186 rfl ⟨rfl, rfl, trivial⟩ ?_
    all_goals (refine WC.sr ?_)
    all_goals (refine Go ?_)
    all_goals (refine WC.seq ?_)
    all_goals (refine WC.block ?_)
    all_goals (refine WC.seq ?_)
    all_goals (refine WC.sr ?_)
    all_goals (refine Go ?_)
    all_goals (refine Gs [(0, _), (1, _), (10, _)] ?_)
    all_goals (refine goC 1 2 ?_ ?_ <;> first | exact ⟨⟩ | refine Hb.mk fun hb => ?_ | skip)
    all_goals (first | (fail_if_success refine goB 1 ?_) | (
    refine goB 1 ?_
    all_goals (refine WC.skip ?_)
    skip))
    all_goals (first | (fail_if_success refine goB 2 ?_) | (
    refine goB 2 ?_
    all_goals (refine WC.region ?_)
    all_goals (refine Go ?_)
    skip))
    all_goals (refine Gn ?_)
    all_goals (refine goC 3 4 ?_ ?_ <;> first | exact ⟨⟩ | refine Hb.mk fun hb => ?_ | skip)
    all_goals (first | (fail_if_success refine goB 3 ?_) | (
    refine goB 3 ?_
    all_goals (refine WC.sr ?_)
    all_goals (refine Go ?_)
    all_goals (refine Gt ?_)
    all_goals (exact ⟨rfl, rfl⟩)
    skip))
    all_goals (first | (fail_if_success refine goB 4 ?_) | (
    refine goB 4 ?_
    all_goals (refine WC.sr ?_)
    all_goals (refine Go ?_)
    all_goals (refine WL.step (ok_idxS Tryz.underlying9 rfl rfl (by omega) (by assumption)) rfl rfl rfl ?_)
    all_goals (refine Go ?_)
    all_goals (refine goP 20 ?_ ?_ <;> first | exact ⟨⟩ | refine Hb.mk fun hb => ?_ | skip)
    all_goals (refine Gg ?_)
    all_goals (refine Go ?_)
    all_goals (refine Gs [(0, _), (1, _), (16, _)] ?_)
    all_goals (refine goC 5 6 ?_ ?_ <;> first | exact ⟨⟩ | refine Hb.mk fun hb => ?_ | skip)
    all_goals (first | (fail_if_success refine goB 5 ?_) | (
    refine goB 5 ?_
    all_goals (refine WC.sr ?_)
    all_goals (refine Go ?_)
    all_goals (refine Gt ?_)
    all_goals (exact ⟨rfl, rfl⟩)
    skip))
    all_goals (first | (fail_if_success refine goB 6 ?_) | (
    refine goB 6 ?_
    all_goals (refine WC.skip ?_)
    skip))
    skip))
    all_goals (refine Gn ?_)
    all_goals (refine WC.sr ?_)
    all_goals (refine Go ?_)
    all_goals (refine WC.seq ?_)
    all_goals (refine WC.sr ?_)
    all_goals (refine Go ?_)
    all_goals (refine WC.block ?_)
    -- loop 0: slots that turn [6, 27], that stay [0, 1, 26]
    all_goals (refine WC.loopG (fun x => (None : Fr)) [(0, _), (1, _), (26, _)] (None) (None) (None) ⟨rfl, rfl, rfl, rfl, rfl, trivial⟩ (by exact ⟨⟩) ?_)
    all_goals (rintro x h1 hI)
    all_goals (refine WC.sub [(6, _), (27, _), (0, _), (1, _), (26, _)] ⟨rfl, rfl, rfl, rfl, rfl, trivial⟩ ?_)
    all_goals (refine WC.sr ?_)
    all_goals (refine Go ?_)
    all_goals (refine WC.seq ?_)
    all_goals (refine goC 7 8 ?_ ?_ <;> first | exact ⟨⟩ | refine Hb.mk fun hb => ?_ | skip)
    all_goals (first | (fail_if_success refine goB 7 ?_) | (
    refine goB 7 ?_
    all_goals (refine WC.skip ?_)
    skip))
    all_goals (first | (fail_if_success refine goB 8 ?_) | (
    refine goB 8 ?_
    all_goals (refine WC.exit ?_)
    all_goals (repeat' (with_reducible first | refine thenP_x ?_ | refine blockP_miss rfl ?_ | refine blockP_hit ?_ | refine blockP_n ?_ | refine thenP_n ?_))
    all_goals (refine Br.out (i := 1001) ?_)
    skip))
    all_goals (refine Gn ?_)
    all_goals (first | (refine Br.keep ?_) | (refine WC.seq ?_))
    all_goals (first | (refine Br.keep ?_) | (refine WC.block ?_))
    all_goals (first | (refine Br.keep ?_) | (refine WC.sr ?_))
    all_goals (refine Go ?_)
    all_goals (first | (refine Br.keep ?_) | (refine WC.sr ?_))
    all_goals (refine Go ?_)
    all_goals (first | (refine Br.keep ?_) | (refine WL.step (ok_idxS Tryz.underlying9 rfl rfl (by omega) (by assumption)) rfl rfl rfl ?_))
    all_goals (first | (refine Br.keep ?_) | (fail "no contract for call of remuda/digits.digit at 10.3"))
    all_goals (refine Go ?_)
    all_goals (first | (refine Br.keep ?_) | (refine Gs [(0, _), (1, _), (6, _), (8, _), (9, _), (26, _), (27, _)] ?_))
    all_goals (first | (refine Br.keep ?_) | (refine WC.seq ?_))
    all_goals (first | (refine Br.keep ?_) | (refine WC.sr ?_))
    all_goals (refine Go ?_)
    all_goals (first | (refine Br.keep ?_) | (refine goC 9 10 ?_ ?_ <;> first | exact ⟨⟩ | refine Hb.mk fun hb => ?_ | skip))
    all_goals (first | (fail_if_success refine goB 9 ?_) | (
    refine goB 9 ?_
    all_goals (refine WC.sr ?_)
    all_goals (refine Go ?_)
    all_goals (refine Gs [(4, _), (5, _)] ?_)
    all_goals (refine Gt ?_)
    all_goals (exact ⟨rfl, rfl⟩)
    skip))
    all_goals (first | (fail_if_success refine goB 10 ?_) | (
    refine goB 10 ?_
    all_goals (refine WC.skip ?_)
    skip))
    all_goals (refine Gn ?_)
    all_goals (first | (refine Br.keep ?_) | (refine WC.region ?_))
    all_goals (refine Go ?_)
    all_goals (first | (refine Br.keep ?_) | (first | (refine WL.step (ok_mulI rfl rfl (by omega)) rfl rfl rfl ?_) | (refine WL.step (ok_mul rfl rfl) rfl rfl rfl ?_)))
    all_goals (refine Go ?_)
    all_goals (first | (refine Br.keep ?_) | (refine Gs [(0, _), (1, _), (6, _), (26, _), (27, _)] ?_))
    all_goals (first | (refine Br.keep ?_) | (refine WC.region ?_))
    all_goals (refine Go ?_)
    all_goals (first | (refine Br.keep ?_) | (exact ⟨None, ⟨rfl, rfl, rfl, rfl, rfl, trivial⟩, (by exact ⟨⟩), (by simp; omega)⟩))
    all_goals (try (refine Br.mk (i := 1001) ?_))
    all_goals (refine Gn ?_)
    all_goals (refine Gs [(1, _), (6, _)] ?_)
    all_goals (refine WC.seq ?_)
    all_goals (refine WC.sr ?_)
    all_goals (refine Go ?_)
    all_goals (refine goC 11 12 ?_ ?_ <;> first | exact ⟨⟩ | refine Hb.mk fun hb => ?_ | skip)
    all_goals (first | (fail_if_success refine goB 11 ?_) | (
    refine goB 11 ?_
    all_goals (refine WC.sr ?_)
    all_goals (refine Go ?_)
    all_goals (refine Gs [(4, _), (5, _)] ?_)
    all_goals (refine Gt ?_)
    all_goals (exact ⟨rfl, rfl⟩)
    skip))
    all_goals (first | (fail_if_success refine goB 12 ?_) | (
    refine goB 12 ?_
    all_goals (refine WC.skip ?_)
    skip))
    all_goals (refine Gn ?_)
    all_goals (refine Gs [(6, _)] ?_)
    all_goals (refine WC.sr ?_)
    all_goals (refine Go ?_)
    all_goals (refine Gt ?_)
    all_goals (exact ⟨rfl, rfl⟩)
set_option maxHeartbeats 2000000 in
set_option maxRecDepth 100000 in
theorem parse_zero {h : Heap} (s : List UInt8) (most : Int) (h1 : s ≠ [] ∧ s.length ≤ 10) (h2 : s[0]? = some 48 ∧ 1 < s.length) : CallsH Tryz.prog 186 ⟨[St s, In most]⟩ h fun u h' => u = resD none ∧ h' = h := by
  have hs := h1.1
  have e0 := h2.1
  have h48 : (((48 : UInt8).toNat : Nat) : Int) = 48 := rfl
  refine calls [(0, _), (1, _)] Tryz.func186 rfl Tryz.ntmps186 rfl ⟨rfl, rfl, trivial⟩ ?_
  all_goals (refine WC.sr ?_)
  all_goals (refine Go ?_)
  all_goals (refine WC.seq ?_)
  all_goals (refine WC.block ?_)
  all_goals (refine WC.seq ?_)
  all_goals (refine WC.sr ?_)
  all_goals (refine Go ?_)
  all_goals (refine Gs [(0, _), (1, _), (10, _)] ?_)
  all_goals (refine goC 1 2 ?_ ?_ <;> first | exact ⟨⟩ | refine Hb.mk fun hb => ?_ | skip)
  all_goals (first | (fail_if_success refine goB 1 ?_) | (
  refine goB 1 ?_
  all_goals (refine WC.skip ?_)
  skip))
  all_goals (first | (fail_if_success refine goB 2 ?_) | (
  refine goB 2 ?_
  all_goals (refine WC.region ?_)
  all_goals (refine Go ?_)
  skip))
  all_goals (refine Gn ?_)
  all_goals (refine goC 3 4 ?_ ?_ <;> first | exact ⟨⟩ | refine Hb.mk fun hb => ?_ | skip)
  all_goals (first | (fail_if_success refine goB 3 ?_) | (
  refine goB 3 ?_
  all_goals (refine WC.sr ?_)
  all_goals (refine Go ?_)
  all_goals (refine Gt ?_)
  all_goals (exact ⟨rfl, rfl⟩)
  skip))
  all_goals (first | (fail_if_success refine goB 4 ?_) | (
  refine goB 4 ?_
  all_goals (refine WC.sr ?_)
  all_goals (refine Go ?_)
  all_goals (refine WL.step (ok_idxS Tryz.underlying9 rfl rfl (by omega) e0) rfl rfl rfl ?_)
  all_goals (refine Go ?_)
  all_goals (refine goP 20 ?_ ?_ <;> first | exact ⟨⟩ | refine Hb.mk fun hb => ?_ | skip)
  all_goals (refine Gg ?_)
  all_goals (refine Go ?_)
  all_goals (refine Gs [(0, _), (1, _), (16, _)] ?_)
  all_goals (refine goC 5 6 ?_ ?_ <;> first | exact ⟨⟩ | refine Hb.mk fun hb => ?_ | skip)
  all_goals (first | (fail_if_success refine goB 5 ?_) | (
  refine goB 5 ?_
  all_goals (refine WC.sr ?_)
  all_goals (refine Go ?_)
  all_goals (refine Gt ?_)
  all_goals (exact ⟨rfl, rfl⟩)
  skip))
  all_goals (first | (fail_if_success refine goB 6 ?_) | (
  refine goB 6 ?_
  all_goals (refine WC.skip ?_)
  skip))
  skip))
  all_goals (refine Gn ?_)
  all_goals (refine WC.sr ?_)
  all_goals (refine Go ?_)
  all_goals (refine WC.seq ?_)
  all_goals (refine WC.sr ?_)
  all_goals (refine Go ?_)
  all_goals (refine WC.block ?_)
  -- loop 0: slots that turn [6, 27], that stay [0, 1, 26]
  all_goals (refine WC.loopG (fun x => (None : Fr)) [(0, _), (1, _), (26, _)] (None) (None) (None) ⟨rfl, rfl, rfl, rfl, rfl, trivial⟩ (by exact ⟨⟩) ?_)
  all_goals (rintro x h1 hI)
  all_goals (refine WC.sub [(6, _), (27, _), (0, _), (1, _), (26, _)] ⟨rfl, rfl, rfl, rfl, rfl, trivial⟩ ?_)
  all_goals (refine WC.sr ?_)
  all_goals (refine Go ?_)
  all_goals (refine WC.seq ?_)
  all_goals (refine goC 7 8 ?_ ?_ <;> first | exact ⟨⟩ | refine Hb.mk fun hb => ?_ | skip)
  all_goals (first | (fail_if_success refine goB 7 ?_) | (
  refine goB 7 ?_
  all_goals (refine WC.skip ?_)
  skip))
  all_goals (first | (fail_if_success refine goB 8 ?_) | (
  refine goB 8 ?_
  all_goals (refine WC.exit ?_)
  all_goals (repeat' (with_reducible first | refine thenP_x ?_ | refine blockP_miss rfl ?_ | refine blockP_hit ?_ | refine blockP_n ?_ | refine thenP_n ?_))
  all_goals (refine Br.out (i := 1001) ?_)
  skip))
  all_goals (refine Gn ?_)
  all_goals (first | (refine Br.keep ?_) | (refine WC.seq ?_))
  all_goals (first | (refine Br.keep ?_) | (refine WC.block ?_))
  all_goals (first | (refine Br.keep ?_) | (refine WC.sr ?_))
  all_goals (refine Go ?_)
  all_goals (first | (refine Br.keep ?_) | (refine WC.sr ?_))
  all_goals (refine Go ?_)
  all_goals (first | (refine Br.keep ?_) | (refine WL.step (ok_idxS Tryz.underlying9 rfl rfl (by omega) (by assumption)) rfl rfl rfl ?_))
  all_goals (first | (refine Br.keep ?_) | (fail "no contract for call of remuda/digits.digit at 10.3"))
  all_goals (refine Go ?_)
  all_goals (first | (refine Br.keep ?_) | (refine Gs [(0, _), (1, _), (6, _), (8, _), (9, _), (26, _), (27, _)] ?_))
  all_goals (first | (refine Br.keep ?_) | (refine WC.seq ?_))
  all_goals (first | (refine Br.keep ?_) | (refine WC.sr ?_))
  all_goals (refine Go ?_)
  all_goals (first | (refine Br.keep ?_) | (refine goC 9 10 ?_ ?_ <;> first | exact ⟨⟩ | refine Hb.mk fun hb => ?_ | skip))
  all_goals (first | (fail_if_success refine goB 9 ?_) | (
  refine goB 9 ?_
  all_goals (refine WC.sr ?_)
  all_goals (refine Go ?_)
  all_goals (refine Gs [(4, _), (5, _)] ?_)
  all_goals (refine Gt ?_)
  all_goals (exact ⟨rfl, rfl⟩)
  skip))
  all_goals (first | (fail_if_success refine goB 10 ?_) | (
  refine goB 10 ?_
  all_goals (refine WC.skip ?_)
  skip))
  all_goals (refine Gn ?_)
  all_goals (first | (refine Br.keep ?_) | (refine WC.region ?_))
  all_goals (refine Go ?_)
  all_goals (first | (refine Br.keep ?_) | (first | (refine WL.step (ok_mulI rfl rfl (by omega)) rfl rfl rfl ?_) | (refine WL.step (ok_mul rfl rfl) rfl rfl rfl ?_)))
  all_goals (refine Go ?_)
  all_goals (first | (refine Br.keep ?_) | (refine Gs [(0, _), (1, _), (6, _), (26, _), (27, _)] ?_))
  all_goals (first | (refine Br.keep ?_) | (refine WC.region ?_))
  all_goals (refine Go ?_)
  all_goals (first | (refine Br.keep ?_) | (exact ⟨None, ⟨rfl, rfl, rfl, rfl, rfl, trivial⟩, (by exact ⟨⟩), (by simp; omega)⟩))
  all_goals (try (refine Br.mk (i := 1001) ?_))
  all_goals (refine Gn ?_)
  all_goals (refine Gs [(1, _), (6, _)] ?_)
  all_goals (refine WC.seq ?_)
  all_goals (refine WC.sr ?_)
  all_goals (refine Go ?_)
  all_goals (refine goC 11 12 ?_ ?_ <;> first | exact ⟨⟩ | refine Hb.mk fun hb => ?_ | skip)
  all_goals (first | (fail_if_success refine goB 11 ?_) | (
  refine goB 11 ?_
  all_goals (refine WC.sr ?_)
  all_goals (refine Go ?_)
  all_goals (refine Gs [(4, _), (5, _)] ?_)
  all_goals (refine Gt ?_)
  all_goals (exact ⟨rfl, rfl⟩)
  skip))
  all_goals (first | (fail_if_success refine goB 12 ?_) | (
  refine goB 12 ?_
  all_goals (refine WC.skip ?_)
  skip))
  all_goals (refine Gn ?_)
  all_goals (refine Gs [(6, _)] ?_)
  all_goals (refine WC.sr ?_)
  all_goals (refine Go ?_)
  all_goals (refine Gt ?_)
  all_goals (exact ⟨rfl, rfl⟩)
set_option maxHeartbeats 2000000 in
set_option maxRecDepth 100000 in
theorem parse_num {h : Heap} (s : List UInt8) (most : Int) (h1 : s ≠ [] ∧ s.length ≤ 10) (h2 : ¬ (s[0]? = some 48 ∧ 1 < s.length)) : CallsH Tryz.prog 186 ⟨[St s, In most]⟩ h fun u h' => u = resD (if s.all digB = true then (if most < valD s then none else some (valD s)) else none) ∧ h' = h := by
  have hs := h1.1
  have hp : 0 < s.length := List.length_pos_iff.2 hs
  obtain ⟨y0, e0⟩ : ∃ y, s[0]? = some y := ⟨_, List.getElem?_eq_getElem (by omega)⟩
  have hq : (y0.toNat : Int) ≠ 48 ∨ (y0.toNat : Int) = 48 ∧ ¬ (s.length : Int) > 1 := by
    by_cases e : (y0.toNat : Int) = 48
    · exact .inr ⟨e, fun e2 => h2 ⟨by rw [e0, show y0 = 48 from UInt8.toNat_inj.1 (by show _ = 48; omega)], by omega⟩⟩
    · exact .inl e
  have kd := fun (h' : Heap) (y : UInt8) => digit_v (h := h') y
  rcases hq with hq | ⟨hq, hq2⟩
  all_goals
    refine calls [(0, _), (1, _)] Tryz.func186 rfl Tryz.ntmps186 rfl ⟨rfl, rfl, trivial⟩ ?_
    all_goals (refine WC.sr ?_)
    all_goals (refine Go ?_)
    all_goals (refine WC.seq ?_)
    all_goals (refine WC.block ?_)
    all_goals (refine WC.seq ?_)
    all_goals (refine WC.sr ?_)
    all_goals (refine Go ?_)
    all_goals (refine Gs [(0, _), (1, _), (10, _)] ?_)
    all_goals (refine goC 1 2 ?_ ?_ <;> first | exact ⟨⟩ | refine Hb.mk fun hb => ?_ | skip)
    all_goals (first | (fail_if_success refine goB 1 ?_) | (
    refine goB 1 ?_
    all_goals (refine WC.skip ?_)
    skip))
    all_goals (first | (fail_if_success refine goB 2 ?_) | (
    refine goB 2 ?_
    all_goals (refine WC.region ?_)
    all_goals (refine Go ?_)
    skip))
    all_goals (refine Gn ?_)
    all_goals (refine goC 3 4 ?_ ?_ <;> first | exact ⟨⟩ | refine Hb.mk fun hb => ?_ | skip)
    all_goals (first | (fail_if_success refine goB 3 ?_) | (
    refine goB 3 ?_
    all_goals (refine WC.sr ?_)
    all_goals (refine Go ?_)
    all_goals (refine Gt ?_)
    all_goals (first
                | (rw [if_neg (show ¬ s.all digB = true from fun e => by have := List.all_eq_true.1 e y (List.mem_of_getElem? hy); rw [hdy] at this; cases this)]; exact ⟨rfl, rfl⟩)
                | (rw [show s.take j = s from List.take_of_length_le (by omega)] at hn ha; subst hn; rw [if_pos ha, if_pos (by omega)]; exact ⟨rfl, rfl⟩)
                | (rw [show s.take j = s from List.take_of_length_le (by omega)] at hn ha; subst hn; rw [if_pos ha, if_neg (by omega)]; exact ⟨rfl, rfl⟩))
    skip))
    all_goals (first | (fail_if_success refine goB 4 ?_) | (
    refine goB 4 ?_
    all_goals (refine WC.sr ?_)
    all_goals (refine Go ?_)
    all_goals (refine WL.step (ok_idxS Tryz.underlying9 rfl rfl (by omega) e0) rfl rfl rfl ?_)
    all_goals (refine Go ?_)
    all_goals (refine goP 20 ?_ ?_ <;> first | exact ⟨⟩ | refine Hb.mk fun hb => ?_ | skip)
    all_goals (refine Gg ?_)
    all_goals (refine Go ?_)
    all_goals (refine Gs [(0, _), (1, _), (16, _)] ?_)
    all_goals (refine goC 5 6 ?_ ?_ <;> first | exact ⟨⟩ | refine Hb.mk fun hb => ?_ | skip)
    all_goals (first | (fail_if_success refine goB 5 ?_) | (
    refine goB 5 ?_
    all_goals (refine WC.sr ?_)
    all_goals (refine Go ?_)
    all_goals (refine Gt ?_)
    all_goals (first
                | (rw [if_neg (show ¬ s.all digB = true from fun e => by have := List.all_eq_true.1 e y (List.mem_of_getElem? hy); rw [hdy] at this; cases this)]; exact ⟨rfl, rfl⟩)
                | (rw [show s.take j = s from List.take_of_length_le (by omega)] at hn ha; subst hn; rw [if_pos ha, if_pos (by omega)]; exact ⟨rfl, rfl⟩)
                | (rw [show s.take j = s from List.take_of_length_le (by omega)] at hn ha; subst hn; rw [if_pos ha, if_neg (by omega)]; exact ⟨rfl, rfl⟩))
    skip))
    all_goals (first | (fail_if_success refine goB 6 ?_) | (
    refine goB 6 ?_
    all_goals (refine WC.skip ?_)
    skip))
    skip))
    all_goals (refine Gn ?_)
    all_goals (refine WC.sr ?_)
    all_goals (refine Go ?_)
    all_goals (refine WC.seq ?_)
    all_goals (refine WC.sr ?_)
    all_goals (refine Go ?_)
    all_goals (refine WC.block ?_)
    -- loop 0: slots that turn [6, 27], that stay [0, 1, 26]
    all_goals (refine WC.loopG (X := Nat × Int) (fun x => ([(27, In (x.1 : Int)), (6, In x.2)] : Fr)) [(0, _), (1, _), (26, _)] (fun x h' => h' = h ∧ x.1 ≤ s.length ∧ x.2 = valD (s.take x.1) ∧ (s.take x.1).all digB = true) (fun x => s.length - x.1) ((0, 0)) ⟨rfl, rfl, rfl, rfl, rfl, trivial⟩ (by exact ⟨rfl, Nat.zero_le _, rfl, rfl⟩) ?_)
    all_goals (rintro ⟨j, n⟩ hh ⟨hz, hj, hn, ha⟩
               dsimp only at hj hn ha
               subst hz
               have hvl := valD_le j (s.take j) (by rw [List.length_take]; omega) ha
               have hpw := pow10 (show j ≤ 10 by omega))
    all_goals (refine WC.sub [(6, _), (27, _), (0, _), (1, _), (26, _)] ⟨rfl, rfl, rfl, rfl, rfl, trivial⟩ ?_)
    all_goals (dsimp only)
    all_goals (refine WC.sr ?_)
    all_goals (refine Go ?_)
    all_goals (refine WC.seq ?_)
    all_goals (refine goC 7 8 ?_ ?_ <;> first | exact ⟨⟩ | refine Hb.mk fun hb => ?_ | skip)
    all_goals (first | (fail_if_success refine goB 7 ?_) | (
    refine goB 7 ?_
    all_goals (refine WC.skip ?_)
    skip))
    all_goals (first | (fail_if_success refine goB 8 ?_) | (
    refine goB 8 ?_
    all_goals (refine WC.exit ?_)
    all_goals (repeat' (with_reducible first | refine thenP_x ?_ | refine blockP_miss rfl ?_ | refine blockP_hit ?_ | refine blockP_n ?_ | refine thenP_n ?_))
    all_goals (refine Br.out (i := 1001) ?_)
    skip))
    all_goals (refine Gn ?_)
    all_goals (first | (refine Br.keep ?_) | (refine WC.seq ?_))
    all_goals (first | (refine Br.keep ?_) | (refine WC.block ?_))
    all_goals (first | (refine Br.keep ?_) | (refine WC.sr ?_))
    all_goals (refine Go ?_)
    all_goals (first | (refine Br.keep ?_) | (refine WC.sr ?_))
    all_goals (first
                 | (refine Br.keep ?_)
                 | (obtain ⟨y, hy⟩ : ∃ y, s[j]? = some y := ⟨_, List.getElem?_eq_getElem (by omega)⟩
                    have hyl := y.toNat_lt))
    all_goals (first | (refine Br.keep ?_) | (refine WL.step (ok_move rfl) rfl rfl rfl ?_))
    all_goals (refine Go ?_)
    all_goals (first | (refine Br.keep ?_) | (refine WL.step (ok_idxS Tryz.underlying9 rfl rfl (by omega) hy) rfl rfl rfl ?_))
    all_goals (first
                 | (refine Br.keep ?_)
                 | (refine WL.call (vs := [_]) rfl (fun a w => Tryz.call210 a w) rfl (kd _ y) rfl rfl rfl ?_
                    rintro _ hq0 ⟨rfl, hz1⟩
                    subst hz1
                    obtain ⟨bd, hdy⟩ : ∃ b, digB y = b := ⟨_, rfl⟩
                    rw [hdy]
                    have hdi := fun (e : bd = true) => digB_i (hdy.trans e)
                    cases bd
                    all_goals first | (have hdi := hdi rfl) | clear hdi
                    all_goals unfold digR))
    all_goals (refine Go ?_)
    all_goals (first | (refine Br.keep ?_) | (refine Gs [(0, _), (1, _), (6, _), (8, _), (9, _), (26, _), (27, _)] ?_))
    all_goals (first | (refine Br.keep ?_) | (refine WC.seq ?_))
    all_goals (first | (refine Br.keep ?_) | (refine WC.sr ?_))
    all_goals (refine Go ?_)
    all_goals (first | (refine Br.keep ?_) | (refine goC 9 10 ?_ ?_ <;> first | exact ⟨⟩ | refine Hb.mk fun hb => ?_ | skip))
    all_goals (first | (fail_if_success refine goB 9 ?_) | (
    refine goB 9 ?_
    all_goals (refine WC.sr ?_)
    all_goals (refine Go ?_)
    all_goals (refine Gs [(4, _), (5, _)] ?_)
    all_goals (refine Gt ?_)
    all_goals (first
                | (rw [if_neg (show ¬ s.all digB = true from fun e => by have := List.all_eq_true.1 e y (List.mem_of_getElem? hy); rw [hdy] at this; cases this)]; exact ⟨rfl, rfl⟩)
                | (rw [show s.take j = s from List.take_of_length_le (by omega)] at hn ha; subst hn; rw [if_pos ha, if_pos (by omega)]; exact ⟨rfl, rfl⟩)
                | (rw [show s.take j = s from List.take_of_length_le (by omega)] at hn ha; subst hn; rw [if_pos ha, if_neg (by omega)]; exact ⟨rfl, rfl⟩))
    skip))
    all_goals (first | (fail_if_success refine goB 10 ?_) | (
    refine goB 10 ?_
    all_goals (refine WC.skip ?_)
    skip))
    all_goals (refine Gn ?_)
    all_goals (first | (refine Br.keep ?_) | (refine WC.region ?_))
    all_goals (refine Go ?_)
    all_goals (first | (refine Br.keep ?_) | (first | (refine WL.step (ok_mulI rfl rfl (by omega)) rfl rfl rfl ?_) | (refine WL.step (ok_mul rfl rfl) rfl rfl rfl ?_)))
    all_goals (refine Go ?_)
    all_goals (first | (refine Br.keep ?_) | (refine Gs [(0, _), (1, _), (6, _), (26, _), (27, _)] ?_))
    all_goals (first | (refine Br.keep ?_) | (refine WC.region ?_))
    all_goals (refine Go ?_)
    all_goals (first | (refine Br.keep ?_) | (exact ⟨(j + 1, _), ⟨rfl, rfl, rfl, rfl, rfl, trivial⟩, (by exact ⟨rfl, by omega, by rw [List.take_add_one, hy, Option.toList_some, valD_snoc, ← hn], by rw [List.take_add_one, hy]; simp [ha, hdy]⟩), (by dsimp only; omega)⟩))
    all_goals (try (refine Br.mk (i := 1001) ?_))
    all_goals (refine Gn ?_)
    all_goals (refine Gs [(1, _), (6, _)] ?_)
    all_goals (refine WC.seq ?_)
    all_goals (refine WC.sr ?_)
    all_goals (refine Go ?_)
    all_goals (refine goC 11 12 ?_ ?_ <;> first | exact ⟨⟩ | refine Hb.mk fun hb => ?_ | skip)
    all_goals (first | (fail_if_success refine goB 11 ?_) | (
    refine goB 11 ?_
    all_goals (refine WC.sr ?_)
    all_goals (refine Go ?_)
    all_goals (refine Gs [(4, _), (5, _)] ?_)
    all_goals (refine Gt ?_)
    all_goals (first
                | (rw [if_neg (show ¬ s.all digB = true from fun e => by have := List.all_eq_true.1 e y (List.mem_of_getElem? hy); rw [hdy] at this; cases this)]; exact ⟨rfl, rfl⟩)
                | (rw [show s.take j = s from List.take_of_length_le (by omega)] at hn ha; subst hn; rw [if_pos ha, if_pos (by omega)]; exact ⟨rfl, rfl⟩)
                | (rw [show s.take j = s from List.take_of_length_le (by omega)] at hn ha; subst hn; rw [if_pos ha, if_neg (by omega)]; exact ⟨rfl, rfl⟩))
    skip))
    all_goals (first | (fail_if_success refine goB 12 ?_) | (
    refine goB 12 ?_
    all_goals (refine WC.skip ?_)
    skip))
    all_goals (refine Gn ?_)
    all_goals (refine Gs [(6, _)] ?_)
    all_goals (refine WC.sr ?_)
    all_goals (refine Go ?_)
    all_goals (refine Gt ?_)
    all_goals (first
                | (rw [if_neg (show ¬ s.all digB = true from fun e => by have := List.all_eq_true.1 e y (List.mem_of_getElem? hy); rw [hdy] at this; cases this)]; exact ⟨rfl, rfl⟩)
                | (rw [show s.take j = s from List.take_of_length_le (by omega)] at hn ha; subst hn; rw [if_pos ha, if_pos (by omega)]; exact ⟨rfl, rfl⟩)
                | (rw [show s.take j = s from List.take_of_length_le (by omega)] at hn ha; subst hn; rw [if_pos ha, if_neg (by omega)]; exact ⟨rfl, rfl⟩))
end Go.Proofs.YtbokngiajfdanaaGreatDoor


