/-
  REGISTRY (layer 14): what the code's registry holds; look-ups.
-/
import Derived.Test.YtkpgnhhidnkmcaaKey
import Derived.Test.YtkpgnhhidnkmcaaMpk
namespace Go.Proofs.Ytkpgnhhidnkmcaa
open Go Go.RK

/-- A statement that is kept: its id, how many refer to it, its text and types; its record's block, and its row of types. -/
structure En where
  id : Int
  rf : Int
  t : List UInt8
  o : List Int
  p : Nat
  v : Value
def ptE (p : Nat) : Value := .pointer (some ⟨p, 0, none⟩)
structure Rg (B : Nat) (c : Int) (h : Heap) (b m1 m2 : Nat) (last : Int) (L : List En) : Prop where
  blk : h[b]? = some (.cells ⟨[.map (some m1), .map (some m2), In last]⟩ 73 (0, 0))
  mp1 : ∃ E, Mp (.int .i64) In h m1 E ∧ E.Perm (L.map fun e => (e.id, ptE e.p))
  mp2 : ∃ E, Mp .string St h m2 E ∧ E.Perm (L.map fun e => (keyB e.t e.o, In e.id))
  recs : ∀ e ∈ L, h[e.p]? = some (.cells ⟨[St e.t, e.v, In e.rf]⟩ 84 (0, 0))
  oid : ∀ e ∈ L, Own h e.v 3 1 e.o.length (ints e.o)
  fair : ∀ e ∈ L, fairS e.t e.o = true
  rf1 : ∀ e ∈ L, 1 ≤ e.rf ∧ e.rf ≤ c
  rise : L.Pairwise fun a b => a.id < b.id
  top : ∀ e ∈ L, 1 ≤ e.id ∧ e.id ≤ last
  keys : L.Pairwise fun a b => ¬ (a.t = b.t ∧ a.o = b.o)
  ptrs : L.Pairwise fun a b => a.p ≠ b.p
  lo : B ≤ b ∧ B ≤ m1 ∧ B ≤ m2 ∧ ∀ e ∈ L, B ≤ e.p ∧ ∀ q, e.v.ownBlock = some q → B ≤ q
  ne : m1 ≠ m2
  bd : 0 ≤ last ∧ last ≤ c ∧ (L.length : Int) ≤ c ∧ c ≤ 1000000
section
variable {B : Nat} {c : Int} {h h' : Heap} {b m1 m2 : Nat} {last : Int} {L : List En}
theorem alook_in {κ : Type} [DecidableEq κ] {F : List (κ × Value)} (hn : (F.map (·.1)).Nodup) {k : κ} {v : Value} (h : (k, v) ∈ F) : alook F k = some v := by
  induction F with
  | nil => cases h
  | cons a F ih =>
    simp only [List.map_cons, List.nodup_cons, List.mem_map, not_exists, not_and] at hn
    unfold alook at ih ⊢
    rw [List.find?_cons]
    rcases List.mem_cons.1 h with rfl | h
    · simp
    · have : ¬ a.1 = k := fun e => hn.1 (k, v) h e.symm
      simp only [this, decide_false]
      exact ih hn.2 h
theorem alook_out {κ : Type} [DecidableEq κ] {F : List (κ × Value)} {k : κ} (h : ∀ p ∈ F, p.1 ≠ k) : alook F k = none := by
  unfold alook
  rw [Option.map_eq_none_iff, List.find?_eq_none]
  exact fun p hp => by simpa using h p hp
theorem Rg.nd1 (r : Rg B c h b m1 m2 last L) : ((L.map fun e => (e.id, ptE e.p)).map (·.1)).Nodup := by
  rw [List.map_map]
  exact List.pairwise_map.2 (r.rise.imp fun {a b} hab e => by simp only [Function.comp] at e; omega)
theorem Rg.nd2 (r : Rg B c h b m1 m2 last L) : ((L.map fun e => (keyB e.t e.o, In e.id)).map (·.1)).Nodup := by
  rw [List.map_map]
  refine List.pairwise_map.2 ?_
  have := List.Pairwise.and_mem.1 r.keys
  exact this.imp fun {a b} hab e => hab.2.2 (keyB_inj (r.fair a hab.1) (r.fair b hab.2.1) e)
theorem Rg.at1 (r : Rg B c h b m1 m2 last L) : ∃ E, Mp (.int .i64) In h m1 E ∧ E.Perm (L.map fun e => (e.id, ptE e.p)) ∧ (∀ e ∈ L, alook E e.id = some (ptE e.p)) ∧ (∀ id, (∀ e ∈ L, e.id ≠ id) → alook E id = none) := by
  obtain ⟨E, hm, hp⟩ := r.mp1
  have hn : (E.map (·.1)).Nodup := (hp.map _).nodup_iff.2 r.nd1
  refine ⟨E, hm, hp, fun e he => alook_in hn (hp.mem_iff.2 (List.mem_map.2 ⟨e, he, rfl⟩)), fun id hid => alook_out fun p hpE e => ?_⟩
  obtain ⟨x, hx, rfl⟩ := List.mem_map.1 (hp.mem_iff.1 hpE)
  exact hid x hx e
theorem Rg.at2 (r : Rg B c h b m1 m2 last L) : ∃ E, Mp .string St h m2 E ∧ E.Perm (L.map fun e => (keyB e.t e.o, In e.id)) ∧ (∀ e ∈ L, alook E (keyB e.t e.o) = some (In e.id)) ∧ (∀ t o, (∀ e ∈ L, ¬ (e.t = t ∧ e.o = o)) → alook E (keyS_ t o) = none) := by
  obtain ⟨E, hm, hp⟩ := r.mp2
  have hn : (E.map (·.1)).Nodup := (hp.map _).nodup_iff.2 r.nd2
  refine ⟨E, hm, hp, fun e he => alook_in hn (hp.mem_iff.2 (List.mem_map.2 ⟨e, he, rfl⟩)), fun t o ho => alook_out fun p hpE e => ?_⟩
  obtain ⟨x, hx, rfl⟩ := List.mem_map.1 (hp.mem_iff.1 hpE)
  have hk : keyS_ x.t x.o = keyB x.t x.o := if_pos (r.fair x hx)
  have := (keyS_inj (r.fair x hx)).1 ((show keyS_ t o = keyS_ x.t x.o from e.symm.trans hk.symm))
  exact ho x hx ⟨this.1.symm, this.2.symm⟩
theorem Rg.lt (r : Rg B c h b m1 m2 last L) : b < h.size ∧ m1 < h.size ∧ m2 < h.size ∧ (∀ e ∈ L, e.p < h.size) ∧ ∀ e ∈ L, ∀ q, e.v.ownBlock = some q → q < h.size := by
  obtain ⟨E, hm, _⟩ := r.mp1
  obtain ⟨E2, hm2, _⟩ := r.mp2
  exact ⟨lt_of_some r.blk, hm.lt, hm2.lt, fun e he => lt_of_some (r.recs e he), fun e he q hq => (r.oid e he).lt hq⟩
theorem Rg.ext {S : Nat → Prop} (r : Rg B c h b m1 m2 last L) (a : Ext S h h') (h0 : ¬ S b) (h1 : ¬ S m1) (h2 : ¬ S m2) (h3 : ∀ e ∈ L, ¬ S e.p ∧ ∀ q, e.v.ownBlock = some q → ¬ S q) : Rg B c h' b m1 m2 last L := by
  obtain ⟨E, hm, hp⟩ := r.mp1
  obtain ⟨E2, hm2, hp2⟩ := r.mp2
  exact ⟨a.obj r.blk h0, ⟨E, hm.ext a h1, hp⟩, ⟨E2, hm2.ext a h2, hp2⟩, fun e he => a.obj (r.recs e he) (h3 e he).1, fun e he => (r.oid e he).ext a (h3 e he).2, r.fair, r.rf1, r.rise, r.top, r.keys, r.ptrs, r.lo, r.ne, r.bd⟩
theorem Rg.ext0 (r : Rg B c h b m1 m2 last L) (a : Ext No h h') : Rg B c h' b m1 m2 last L := r.ext a nos nos nos fun _ _ => ⟨nos, fun _ _ => nos⟩
/-- No block of it is another one's. -/
theorem Rg.sep (r : Rg B c h b m1 m2 last L) : b ≠ m1 ∧ b ≠ m2 ∧ (L ≠ [] → m1 ≠ m2) ∧ ∀ e ∈ L, e.p ≠ b ∧ e.p ≠ m1 ∧ e.p ≠ m2 ∧ (∀ q, e.v.ownBlock = some q → q ≠ b ∧ q ≠ m1 ∧ q ≠ m2 ∧ ∀ x ∈ L, q ≠ x.p) := by
  obtain ⟨E, ⟨_, _, hm, _⟩, _⟩ := id r.mp1
  obtain ⟨E2, ⟨_, _, hm2, _⟩, _⟩ := id r.mp2
  have kind : ∀ {x y : Nat} {cs : Array Value} {T : TypeId} {z} {es ck}, h[x]? = some (.cells cs T z) → h[y]? = some (.map es ck) → x ≠ y := fun h1 h2 e => by rw [e, h2] at h1; cases h1
  have kind2 : ∀ {x y : Nat} {cs cs' : Array Value} {T T' : TypeId} {z z'}, T ≠ T' → h[x]? = some (.cells cs T z) → h[y]? = some (.cells cs' T' z') → x ≠ y := fun ht h1 h2 e => by
    rw [e, h2] at h1
    simp only [Option.some.injEq, Obj.cells.injEq] at h1
    exact ht h1.2.1.symm
  refine ⟨kind r.blk hm, kind r.blk hm2, fun hne e => ?_, fun e he => ⟨kind2 (by decide) (r.recs e he) r.blk, kind (r.recs e he) hm, kind (r.recs e he) hm2, fun q hq => ?_⟩⟩
  · obtain ⟨x, hx⟩ := List.exists_mem_of_ne_nil L hne
    obtain ⟨E, hm, _, ha, _⟩ := r.at1
    obtain ⟨E2, hm2, _, hb, _⟩ := r.at2
    subst e
    obtain ⟨arr, ck, e1, _, e2⟩ := hm
    obtain ⟨arr2, ck2, e3, _, e4⟩ := hm2
    rw [e1] at e3
    simp only [Option.some.injEq, Obj.map.injEq] at e3
    obtain ⟨rfl, rfl⟩ := e3
    rw [e2] at e4
    have hx1 := ha x hx
    unfold alook at hx1
    obtain ⟨p, hp, _⟩ := Option.map_eq_some_iff.1 hx1
    have hpm := List.mem_of_find?_eq_some hp
    have : (In p.1, p.2) ∈ E.map fun p => (In p.1, p.2) := List.mem_map.2 ⟨p, hpm, rfl⟩
    rw [e4] at this
    obtain ⟨q, _, hq⟩ := List.mem_map.1 this
    simp only [Prod.mk.injEq] at hq
    cases hq.1
  · obtain ⟨_, ⟨e1, _⟩ | ⟨g, cap, cur, e1, hg, _⟩⟩ := r.oid e he
    · rw [e1] at hq; cases hq
    · rw [e1] at hq
      have e2 : g = q := by simpa [Value.ownBlock] using hq
      subst e2
      exact ⟨kind2 (by decide) hg r.blk, kind hg hm, kind hg hm2, fun x hx => kind2 (by decide) hg (r.recs x hx)⟩
set_option maxRecDepth 100000 in
theorem rg_ready (r : Rg B c h b m1 m2 last L) : CallsH Try.prog 43 ⟨[ptE b]⟩ h fun u h' => u = .bool true ∧ h' = h := by
  have hb := r.blk
  unfold ptE
  refine calls [(0, _)] Try.func43 rfl Try.ntmps43 rfl ⟨rfl, trivial⟩ ?_
  all_goals (refine WC.seq ?_)
  all_goals (refine WC.region ?_)
  all_goals (refine WL.step (ok_assign rfl) rfl rfl rfl ?_)
  all_goals (refine WL.nil ?_)
  all_goals (repeat' (with_reducible first | refine thenP_n ?_ | refine blockP_n ?_))
  all_goals (refine WC.seq ?_)
  all_goals (refine WC.region ?_)
  all_goals (refine WL.step (ok_move rfl) rfl rfl rfl ?_)
  all_goals (refine WL.step (ok_neqPn Try.underlying49 rfl rfl) rfl rfl rfl ?_)
  all_goals (refine WL.step (ok_move rfl) rfl rfl rfl ?_)
  all_goals (try ((fail_if_success (refine WL.part 5 (b := true) rfl (fun _ => ?_) (fun _ => ?_))); (fail_if_success (refine WL.part 5 (b := false) rfl (fun _ => ?_) (fun _ => ?_))); (refine WL.part 5 rfl (fun hb => ?_) (fun hb => ?_) <;> (first | replace hb := of_decide_eq_true hb | replace hb := of_decide_eq_false hb | replace hb := of_decide_eq_false (nt hb) | replace hb := of_decide_eq_true (nf hb) | skip))))
  all_goals (first | (refine WL.pass rfl rfl rfl ?_) | (refine WL.step (ok_move rfl) rfl rfl rfl ?_))
  all_goals (first | (refine WL.pass rfl rfl rfl ?_) | (refine WL.step (ok_nilCheck rfl) rfl rfl rfl ?_))
  all_goals (first | (refine WL.pass rfl rfl rfl ?_) | (refine WL.step (ok_fieldAddr rfl Try.underlying73 rfl (fun w => Try.sizeOf71 w)) rfl rfl rfl ?_))
  all_goals (first | (refine WL.pass rfl rfl rfl ?_) | (refine WL.step (ok_load (fun w => Try.isAgg71 w) rfl (by first | assumption | exact cell_blk (by assumption) rfl)) rfl rfl rfl ?_))
  all_goals (first | (refine WL.pass rfl rfl rfl ?_) | (refine WL.step (ok_neqMn Try.underlying71 rfl rfl) rfl rfl rfl ?_))
  all_goals (first | (refine WL.step (ok_pick_t rfl rfl) rfl rfl rfl ?_) | (refine WL.step (ok_pick_f rfl rfl) rfl rfl rfl ?_))
  all_goals (refine WL.step (ok_assign rfl) rfl rfl rfl ?_)
  all_goals (refine WL.nil ?_)
  all_goals (repeat' (with_reducible first | refine thenP_n ?_ | refine blockP_n ?_))
  all_goals (refine WC.sub [(2, _)] ⟨rfl, trivial⟩ ?_)
  all_goals (refine WC.ret ?_)
  all_goals (repeat' (with_reducible first | refine thenP_r ?_ | refine blockP_r ?_))
  all_goals (refine retP_1 _ ⟨rfl, trivial⟩ ?_)
  all_goals (exact ⟨rfl, rfl⟩)
set_option maxRecDepth 100000 in
theorem rg_len (r : Rg B c h b m1 m2 last L) : CallsH Try.prog 38 ⟨[ptE b]⟩ h fun u h' => u = In (L.length : Int) ∧ h' = h := by
  have hb := r.blk
  have k := rg_ready r
  obtain ⟨E, hm, hp⟩ := r.mp1
  have hl : E.length = L.length := by rw [hp.length_eq, List.length_map]
  unfold ptE at *
  rw [← hl]
  refine calls [(0, _)] Try.func38 rfl Try.ntmps38 rfl ⟨rfl, trivial⟩ ?_
  all_goals (refine WC.seq ?_)
  all_goals (refine WC.region ?_)
  all_goals (refine WL.step (ok_assign rfl) rfl rfl rfl ?_)
  all_goals (refine WL.nil ?_)
  all_goals (repeat' (with_reducible first | refine thenP_n ?_ | refine blockP_n ?_))
  all_goals (refine WC.seq ?_)
  all_goals (refine WC.seq ?_)
  all_goals (refine WC.region ?_)
  all_goals (refine WL.step (ok_move rfl) rfl rfl rfl ?_)
  all_goals (refine WL.call (vs := [_]) rfl (fun a w => Try.call43 a w) rfl (k) rfl rfl rfl ?_
             rintro _ hz ⟨rfl, _⟩
             subst hz)
  all_goals (refine WL.step (ok_not rfl) rfl rfl rfl ?_)
  all_goals (refine WL.nil ?_)
  all_goals (repeat' (with_reducible first | refine thenP_n ?_ | refine blockP_n ?_))
  all_goals (first | refine WC.condB_t 1 rfl ?_ | refine WC.condB_f 2 rfl ?_ | (refine WC.condB 1 2 rfl (fun hb => ?_) (fun hb => ?_) <;> (first | replace hb := of_decide_eq_true hb | replace hb := of_decide_eq_false hb | replace hb := of_decide_eq_false (nt hb) | replace hb := of_decide_eq_true (nf hb) | skip)))
  all_goals (first
    | (fail_if_success (refine Br.mk (i := 1) ?_))
    | (refine Br.mk (i := 1) ?_
       all_goals (refine WC.seq ?_)
       all_goals (refine WC.region ?_)
       all_goals (refine WL.step (ok_assign rfl) rfl rfl rfl ?_)
       all_goals (refine WL.nil ?_)
       all_goals (repeat' (with_reducible first | refine thenP_n ?_ | refine blockP_n ?_))
       all_goals (refine WC.sub [(2, _)] ⟨rfl, trivial⟩ ?_)
       all_goals (refine WC.ret ?_)
       all_goals (repeat' (with_reducible first | refine thenP_r ?_ | refine blockP_r ?_))
       all_goals (refine retP_1 _ ⟨rfl, trivial⟩ ?_)
       all_goals (exact ⟨rfl, rfl⟩)
       skip))
  all_goals (first
    | (fail_if_success (refine Br.mk (i := 2) ?_))
    | (refine Br.mk (i := 2) ?_
       all_goals (refine WC.skip ?_)
       skip))
  all_goals (repeat' (with_reducible first | refine thenP_n ?_ | refine blockP_n ?_))
  all_goals (refine WC.sub [(0, _)] ⟨rfl, trivial⟩ ?_)
  all_goals (refine WC.seq ?_)
  all_goals (refine WC.region ?_)
  all_goals (refine WL.step (ok_move rfl) rfl rfl rfl ?_)
  all_goals (refine WL.step (ok_nilCheck rfl) rfl rfl rfl ?_)
  all_goals (refine WL.step (ok_fieldAddr rfl Try.underlying73 rfl (fun w => Try.sizeOf71 w)) rfl rfl rfl ?_)
  all_goals (refine WL.step (ok_load (fun w => Try.isAgg71 w) rfl (by first | assumption | exact cell_blk (by assumption) rfl)) rfl rfl rfl ?_)
  all_goals (first | (refine WL.step (ok_lenM rfl Try.underlying71 rfl (by assumption)) rfl rfl rfl ?_) | (refine WL.step (ok_lenM0 rfl Try.underlying71 rfl) rfl rfl rfl ?_))
  all_goals (refine WL.step (ok_assign rfl) rfl rfl rfl ?_)
  all_goals (refine WL.nil ?_)
  all_goals (repeat' (with_reducible first | refine thenP_n ?_ | refine blockP_n ?_))
  all_goals (refine WC.sub [(2, _)] ⟨rfl, trivial⟩ ?_)
  all_goals (refine WC.ret ?_)
  all_goals (repeat' (with_reducible first | refine thenP_r ?_ | refine blockP_r ?_))
  all_goals (refine retP_1 _ ⟨rfl, trivial⟩ ?_)
  all_goals (exact ⟨rfl, rfl⟩)
set_option maxRecDepth 100000 in
theorem rg_of (r : Rg B c h b m1 m2 last L) {e : En} (he : e ∈ L) : CallsH Try.prog 46 ⟨[ptE b, In e.id]⟩ h fun u h' => u = .tuple ⟨[ptE e.p, .bool true]⟩ ∧ h' = h := by
  have hb := r.blk
  have k := rg_ready r
  obtain ⟨E, hm, hp, ha, _⟩ := r.at1
  have hv := ha e he
  unfold ptE at *
  refine calls [(0, _), (1, _)] Try.func46 rfl Try.ntmps46 rfl ⟨rfl, rfl, trivial⟩ ?_
  all_goals (refine WC.seq ?_)
  all_goals (refine WC.region ?_)
  all_goals (refine WL.step (ok_assign rfl) rfl rfl rfl ?_)
  all_goals (refine WL.step (ok_assign rfl) rfl rfl rfl ?_)
  all_goals (refine WL.nil ?_)
  all_goals (repeat' (with_reducible first | refine thenP_n ?_ | refine blockP_n ?_))
  all_goals (refine WC.seq ?_)
  all_goals (refine WC.seq ?_)
  all_goals (refine WC.region ?_)
  all_goals (refine WL.step (ok_move rfl) rfl rfl rfl ?_)
  all_goals (refine WL.call (vs := [_]) rfl (fun a w => Try.call43 a w) rfl (k) rfl rfl rfl ?_
             rintro _ hz ⟨rfl, _⟩
             subst hz)
  all_goals (refine WL.step (ok_not rfl) rfl rfl rfl ?_)
  all_goals (refine WL.nil ?_)
  all_goals (repeat' (with_reducible first | refine thenP_n ?_ | refine blockP_n ?_))
  all_goals (refine WC.sub [(0, _), (1, _), (10, _)] ⟨rfl, rfl, rfl, trivial⟩ ?_)
  all_goals (first | refine WC.condB_t 1 rfl ?_ | refine WC.condB_f 2 rfl ?_ | (refine WC.condB 1 2 rfl (fun hb => ?_) (fun hb => ?_) <;> (first | replace hb := of_decide_eq_true hb | replace hb := of_decide_eq_false hb | replace hb := of_decide_eq_false (nt hb) | replace hb := of_decide_eq_true (nf hb) | skip)))
  all_goals (first
    | (fail_if_success (refine Br.mk (i := 1) ?_))
    | (refine Br.mk (i := 1) ?_
       all_goals (refine WC.seq ?_)
       all_goals (refine WC.region ?_)
       all_goals (refine WL.step (ok_assign rfl) rfl rfl rfl ?_)
       all_goals (refine WL.step (ok_assign rfl) rfl rfl rfl ?_)
       all_goals (refine WL.nil ?_)
       all_goals (repeat' (with_reducible first | refine thenP_n ?_ | refine blockP_n ?_))
       all_goals (refine WC.ret ?_)
       all_goals (repeat' (with_reducible first | refine thenP_r ?_ | refine blockP_r ?_))
       all_goals (refine retP_2 _ _ ⟨rfl, rfl, trivial⟩ ?_)
       all_goals (exact ⟨rfl, rfl⟩)
       skip))
  all_goals (first
    | (fail_if_success (refine Br.mk (i := 2) ?_))
    | (refine Br.mk (i := 2) ?_
       all_goals (refine WC.skip ?_)
       skip))
  all_goals (repeat' (with_reducible first | refine thenP_n ?_ | refine blockP_n ?_))
  all_goals (refine WC.seq ?_)
  all_goals (refine WC.region ?_)
  all_goals (refine WL.step (ok_move rfl) rfl rfl rfl ?_)
  all_goals (refine WL.step (ok_nilCheck rfl) rfl rfl rfl ?_)
  all_goals (refine WL.step (ok_fieldAddr rfl Try.underlying73 rfl (fun w => Try.sizeOf71 w)) rfl rfl rfl ?_)
  all_goals (refine WL.step (ok_load (fun w => Try.isAgg71 w) rfl (by first | assumption | exact cell_blk (by assumption) rfl)) rfl rfl rfl ?_)
  all_goals (refine WL.step (ok_move rfl) rfl rfl rfl ?_)
  all_goals (first | (refine WL.step ((ok_lookup keyI Try.underlying71 Try.underlying3 rfl rfl (by assumption) (by assumption)).1) rfl rfl rfl ?_) | (refine WL.step ((ok_lookup_no keyI Try.underlying71 Try.underlying3 (fun w => Try.zeroValue85 w) rfl rfl (by assumption) (by assumption)).1) rfl rfl rfl ?_) | (refine WL.step ((ok_lookup_nil keyI Try.underlying71 Try.underlying3 (fun w => Try.zeroValue85 w) rfl rfl).1) rfl rfl rfl ?_))
  all_goals (refine WL.step (ok_move rfl) rfl rfl rfl ?_)
  all_goals (refine WL.step (ok_extract rfl rfl) rfl rfl rfl ?_)
  all_goals (refine WL.step (ok_extract rfl rfl) rfl rfl rfl ?_)
  all_goals (refine WL.step (ok_assign rfl) rfl rfl rfl ?_)
  all_goals (refine WL.step (ok_assign rfl) rfl rfl rfl ?_)
  all_goals (refine WL.nil ?_)
  all_goals (repeat' (with_reducible first | refine thenP_n ?_ | refine blockP_n ?_))
  all_goals (refine WC.sub [(6, _), (7, _)] ⟨rfl, rfl, trivial⟩ ?_)
  all_goals (refine WC.seq ?_)
  all_goals (refine WC.region ?_)
  all_goals (refine WL.step (ok_move rfl) rfl rfl rfl ?_)
  all_goals (refine WL.step (ok_move rfl) rfl rfl rfl ?_)
  all_goals (refine WL.step (ok_assign rfl) rfl rfl rfl ?_)
  all_goals (refine WL.step (ok_assign rfl) rfl rfl rfl ?_)
  all_goals (refine WL.nil ?_)
  all_goals (repeat' (with_reducible first | refine thenP_n ?_ | refine blockP_n ?_))
  all_goals (refine WC.sub [(4, _), (5, _)] ⟨rfl, rfl, trivial⟩ ?_)
  all_goals (refine WC.ret ?_)
  all_goals (repeat' (with_reducible first | refine thenP_r ?_ | refine blockP_r ?_))
  all_goals (refine retP_2 _ _ ⟨rfl, rfl, trivial⟩ ?_)
  all_goals (exact ⟨rfl, rfl⟩)
set_option maxRecDepth 100000 in
theorem rg_of_no (r : Rg B c h b m1 m2 last L) {id : Int} (hid : ∀ e ∈ L, e.id ≠ id) : CallsH Try.prog 46 ⟨[ptE b, In id]⟩ h fun u h' => u = .tuple ⟨[.pointer none, .bool false]⟩ ∧ h' = h := by
  have hb := r.blk
  have k := rg_ready r
  obtain ⟨E, hm, hp, _, ha⟩ := r.at1
  have hv := ha id hid
  unfold ptE at *
  refine calls [(0, _), (1, _)] Try.func46 rfl Try.ntmps46 rfl ⟨rfl, rfl, trivial⟩ ?_
  all_goals (refine WC.seq ?_)
  all_goals (refine WC.region ?_)
  all_goals (refine WL.step (ok_assign rfl) rfl rfl rfl ?_)
  all_goals (refine WL.step (ok_assign rfl) rfl rfl rfl ?_)
  all_goals (refine WL.nil ?_)
  all_goals (repeat' (with_reducible first | refine thenP_n ?_ | refine blockP_n ?_))
  all_goals (refine WC.seq ?_)
  all_goals (refine WC.seq ?_)
  all_goals (refine WC.region ?_)
  all_goals (refine WL.step (ok_move rfl) rfl rfl rfl ?_)
  all_goals (refine WL.call (vs := [_]) rfl (fun a w => Try.call43 a w) rfl (k) rfl rfl rfl ?_
             rintro _ hz ⟨rfl, _⟩
             subst hz)
  all_goals (refine WL.step (ok_not rfl) rfl rfl rfl ?_)
  all_goals (refine WL.nil ?_)
  all_goals (repeat' (with_reducible first | refine thenP_n ?_ | refine blockP_n ?_))
  all_goals (refine WC.sub [(0, _), (1, _), (10, _)] ⟨rfl, rfl, rfl, trivial⟩ ?_)
  all_goals (first | refine WC.condB_t 1 rfl ?_ | refine WC.condB_f 2 rfl ?_ | (refine WC.condB 1 2 rfl (fun hb => ?_) (fun hb => ?_) <;> (first | replace hb := of_decide_eq_true hb | replace hb := of_decide_eq_false hb | replace hb := of_decide_eq_false (nt hb) | replace hb := of_decide_eq_true (nf hb) | skip)))
  all_goals (first
    | (fail_if_success (refine Br.mk (i := 1) ?_))
    | (refine Br.mk (i := 1) ?_
       all_goals (refine WC.seq ?_)
       all_goals (refine WC.region ?_)
       all_goals (refine WL.step (ok_assign rfl) rfl rfl rfl ?_)
       all_goals (refine WL.step (ok_assign rfl) rfl rfl rfl ?_)
       all_goals (refine WL.nil ?_)
       all_goals (repeat' (with_reducible first | refine thenP_n ?_ | refine blockP_n ?_))
       all_goals (refine WC.ret ?_)
       all_goals (repeat' (with_reducible first | refine thenP_r ?_ | refine blockP_r ?_))
       all_goals (refine retP_2 _ _ ⟨rfl, rfl, trivial⟩ ?_)
       all_goals (exact ⟨rfl, rfl⟩)
       skip))
  all_goals (first
    | (fail_if_success (refine Br.mk (i := 2) ?_))
    | (refine Br.mk (i := 2) ?_
       all_goals (refine WC.skip ?_)
       skip))
  all_goals (repeat' (with_reducible first | refine thenP_n ?_ | refine blockP_n ?_))
  all_goals (refine WC.seq ?_)
  all_goals (refine WC.region ?_)
  all_goals (refine WL.step (ok_move rfl) rfl rfl rfl ?_)
  all_goals (refine WL.step (ok_nilCheck rfl) rfl rfl rfl ?_)
  all_goals (refine WL.step (ok_fieldAddr rfl Try.underlying73 rfl (fun w => Try.sizeOf71 w)) rfl rfl rfl ?_)
  all_goals (refine WL.step (ok_load (fun w => Try.isAgg71 w) rfl (by first | assumption | exact cell_blk (by assumption) rfl)) rfl rfl rfl ?_)
  all_goals (refine WL.step (ok_move rfl) rfl rfl rfl ?_)
  all_goals (first | (refine WL.step ((ok_lookup keyI Try.underlying71 Try.underlying3 rfl rfl (by assumption) (by assumption)).1) rfl rfl rfl ?_) | (refine WL.step ((ok_lookup_no keyI Try.underlying71 Try.underlying3 (fun w => Try.zeroValue85 w) rfl rfl (by assumption) (by assumption)).1) rfl rfl rfl ?_) | (refine WL.step ((ok_lookup_nil keyI Try.underlying71 Try.underlying3 (fun w => Try.zeroValue85 w) rfl rfl).1) rfl rfl rfl ?_))
  all_goals (refine WL.step (ok_move rfl) rfl rfl rfl ?_)
  all_goals (refine WL.step (ok_extract rfl rfl) rfl rfl rfl ?_)
  all_goals (refine WL.step (ok_extract rfl rfl) rfl rfl rfl ?_)
  all_goals (refine WL.step (ok_assign rfl) rfl rfl rfl ?_)
  all_goals (refine WL.step (ok_assign rfl) rfl rfl rfl ?_)
  all_goals (refine WL.nil ?_)
  all_goals (repeat' (with_reducible first | refine thenP_n ?_ | refine blockP_n ?_))
  all_goals (refine WC.sub [(6, _), (7, _)] ⟨rfl, rfl, trivial⟩ ?_)
  all_goals (refine WC.seq ?_)
  all_goals (refine WC.region ?_)
  all_goals (refine WL.step (ok_move rfl) rfl rfl rfl ?_)
  all_goals (refine WL.step (ok_move rfl) rfl rfl rfl ?_)
  all_goals (refine WL.step (ok_assign rfl) rfl rfl rfl ?_)
  all_goals (refine WL.step (ok_assign rfl) rfl rfl rfl ?_)
  all_goals (refine WL.nil ?_)
  all_goals (repeat' (with_reducible first | refine thenP_n ?_ | refine blockP_n ?_))
  all_goals (refine WC.sub [(4, _), (5, _)] ⟨rfl, rfl, trivial⟩ ?_)
  all_goals (refine WC.ret ?_)
  all_goals (repeat' (with_reducible first | refine thenP_r ?_ | refine blockP_r ?_))
  all_goals (refine retP_2 _ _ ⟨rfl, rfl, trivial⟩ ?_)
  all_goals (exact ⟨rfl, rfl⟩)
set_option maxRecDepth 100000 in
theorem rg_refs (r : Rg B c h b m1 m2 last L) {e : En} (he : e ∈ L) : CallsH Try.prog 34 ⟨[ptE b, In e.id]⟩ h fun u h' => u = In e.rf ∧ h' = h := by
  have k := rg_of r he
  have hr := r.recs e he
  unfold ptE at *
  refine calls [(0, _), (1, _)] Try.func34 rfl Try.ntmps34 rfl ⟨rfl, rfl, trivial⟩ ?_
  all_goals (refine WC.seq ?_)
  all_goals (refine WC.region ?_)
  all_goals (refine WL.step (ok_assign rfl) rfl rfl rfl ?_)
  all_goals (refine WL.nil ?_)
  all_goals (repeat' (with_reducible first | refine thenP_n ?_ | refine blockP_n ?_))
  all_goals (refine WC.seq ?_)
  all_goals (refine WC.region ?_)
  all_goals (refine WL.step (ok_move rfl) rfl rfl rfl ?_)
  all_goals (refine WL.step (ok_move rfl) rfl rfl rfl ?_)
  all_goals (refine WL.call (vs := [_, _]) rfl (fun a w => Try.call46 a w) rfl (k) rfl rfl rfl ?_
             rintro _ hz ⟨rfl, _⟩
             subst hz)
  all_goals (refine WL.step (ok_move rfl) rfl rfl rfl ?_)
  all_goals (refine WL.step (ok_extract rfl rfl) rfl rfl rfl ?_)
  all_goals (refine WL.step (ok_extract rfl rfl) rfl rfl rfl ?_)
  all_goals (refine WL.step (ok_assign rfl) rfl rfl rfl ?_)
  all_goals (refine WL.step (ok_assign rfl) rfl rfl rfl ?_)
  all_goals (refine WL.nil ?_)
  all_goals (repeat' (with_reducible first | refine thenP_n ?_ | refine blockP_n ?_))
  all_goals (refine WC.sub [(5, _), (6, _)] ⟨rfl, rfl, trivial⟩ ?_)
  all_goals (refine WC.seq ?_)
  all_goals (refine WC.seq ?_)
  all_goals (refine WC.region ?_)
  all_goals (refine WL.step (ok_move rfl) rfl rfl rfl ?_)
  all_goals (refine WL.step (ok_not rfl) rfl rfl rfl ?_)
  all_goals (refine WL.nil ?_)
  all_goals (repeat' (with_reducible first | refine thenP_n ?_ | refine blockP_n ?_))
  all_goals (first | refine WC.condB_t 1 rfl ?_ | refine WC.condB_f 2 rfl ?_ | (refine WC.condB 1 2 rfl (fun hb => ?_) (fun hb => ?_) <;> (first | replace hb := of_decide_eq_true hb | replace hb := of_decide_eq_false hb | replace hb := of_decide_eq_false (nt hb) | replace hb := of_decide_eq_true (nf hb) | skip)))
  all_goals (first
    | (fail_if_success (refine Br.mk (i := 1) ?_))
    | (refine Br.mk (i := 1) ?_
       all_goals (refine WC.seq ?_)
       all_goals (refine WC.region ?_)
       all_goals (refine WL.step (ok_assign rfl) rfl rfl rfl ?_)
       all_goals (refine WL.nil ?_)
       all_goals (repeat' (with_reducible first | refine thenP_n ?_ | refine blockP_n ?_))
       all_goals (refine WC.sub [(4, _)] ⟨rfl, trivial⟩ ?_)
       all_goals (refine WC.ret ?_)
       all_goals (repeat' (with_reducible first | refine thenP_r ?_ | refine blockP_r ?_))
       all_goals (refine retP_1 _ ⟨rfl, trivial⟩ ?_)
       all_goals (exact ⟨rfl, rfl⟩)
       skip))
  all_goals (first
    | (fail_if_success (refine Br.mk (i := 2) ?_))
    | (refine Br.mk (i := 2) ?_
       all_goals (refine WC.skip ?_)
       skip))
  all_goals (repeat' (with_reducible first | refine thenP_n ?_ | refine blockP_n ?_))
  all_goals (refine WC.seq ?_)
  all_goals (refine WC.region ?_)
  all_goals (refine WL.step (ok_move rfl) rfl rfl rfl ?_)
  all_goals (refine WL.step (ok_nilCheck rfl) rfl rfl rfl ?_)
  all_goals (refine WL.step (ok_fieldAddr rfl Try.underlying84 rfl (fun w => Try.sizeOf3 w)) rfl rfl rfl ?_)
  all_goals (refine WL.step (ok_load (fun w => Try.isAgg3 w) rfl (by first | assumption | exact cell_blk (by assumption) rfl)) rfl rfl rfl ?_)
  all_goals (refine WL.step (ok_assign rfl) rfl rfl rfl ?_)
  all_goals (refine WL.nil ?_)
  all_goals (repeat' (with_reducible first | refine thenP_n ?_ | refine blockP_n ?_))
  all_goals (refine WC.sub [(4, _)] ⟨rfl, trivial⟩ ?_)
  all_goals (refine WC.ret ?_)
  all_goals (repeat' (with_reducible first | refine thenP_r ?_ | refine blockP_r ?_))
  all_goals (refine retP_1 _ ⟨rfl, trivial⟩ ?_)
  all_goals (exact ⟨rfl, rfl⟩)
set_option maxRecDepth 100000 in
theorem rg_refs_no (r : Rg B c h b m1 m2 last L) {id : Int} (hid : ∀ e ∈ L, e.id ≠ id) : CallsH Try.prog 34 ⟨[ptE b, In id]⟩ h fun u h' => u = In 0 ∧ h' = h := by
  have k := rg_of_no r hid
  unfold ptE at *
  refine calls [(0, _), (1, _)] Try.func34 rfl Try.ntmps34 rfl ⟨rfl, rfl, trivial⟩ ?_
  all_goals (refine WC.seq ?_)
  all_goals (refine WC.region ?_)
  all_goals (refine WL.step (ok_assign rfl) rfl rfl rfl ?_)
  all_goals (refine WL.nil ?_)
  all_goals (repeat' (with_reducible first | refine thenP_n ?_ | refine blockP_n ?_))
  all_goals (refine WC.seq ?_)
  all_goals (refine WC.region ?_)
  all_goals (refine WL.step (ok_move rfl) rfl rfl rfl ?_)
  all_goals (refine WL.step (ok_move rfl) rfl rfl rfl ?_)
  all_goals (refine WL.call (vs := [_, _]) rfl (fun a w => Try.call46 a w) rfl (k) rfl rfl rfl ?_
             rintro _ hz ⟨rfl, _⟩
             subst hz)
  all_goals (refine WL.step (ok_move rfl) rfl rfl rfl ?_)
  all_goals (refine WL.step (ok_extract rfl rfl) rfl rfl rfl ?_)
  all_goals (refine WL.step (ok_extract rfl rfl) rfl rfl rfl ?_)
  all_goals (refine WL.step (ok_assign rfl) rfl rfl rfl ?_)
  all_goals (refine WL.step (ok_assign rfl) rfl rfl rfl ?_)
  all_goals (refine WL.nil ?_)
  all_goals (repeat' (with_reducible first | refine thenP_n ?_ | refine blockP_n ?_))
  all_goals (refine WC.sub [(5, _), (6, _)] ⟨rfl, rfl, trivial⟩ ?_)
  all_goals (refine WC.seq ?_)
  all_goals (refine WC.seq ?_)
  all_goals (refine WC.region ?_)
  all_goals (refine WL.step (ok_move rfl) rfl rfl rfl ?_)
  all_goals (refine WL.step (ok_not rfl) rfl rfl rfl ?_)
  all_goals (refine WL.nil ?_)
  all_goals (repeat' (with_reducible first | refine thenP_n ?_ | refine blockP_n ?_))
  all_goals (first | refine WC.condB_t 1 rfl ?_ | refine WC.condB_f 2 rfl ?_ | (refine WC.condB 1 2 rfl (fun hb => ?_) (fun hb => ?_) <;> (first | replace hb := of_decide_eq_true hb | replace hb := of_decide_eq_false hb | replace hb := of_decide_eq_false (nt hb) | replace hb := of_decide_eq_true (nf hb) | skip)))
  all_goals (first
    | (fail_if_success (refine Br.mk (i := 1) ?_))
    | (refine Br.mk (i := 1) ?_
       all_goals (refine WC.seq ?_)
       all_goals (refine WC.region ?_)
       all_goals (refine WL.step (ok_assign rfl) rfl rfl rfl ?_)
       all_goals (refine WL.nil ?_)
       all_goals (repeat' (with_reducible first | refine thenP_n ?_ | refine blockP_n ?_))
       all_goals (refine WC.sub [(4, _)] ⟨rfl, trivial⟩ ?_)
       all_goals (refine WC.ret ?_)
       all_goals (repeat' (with_reducible first | refine thenP_r ?_ | refine blockP_r ?_))
       all_goals (refine retP_1 _ ⟨rfl, trivial⟩ ?_)
       all_goals (exact ⟨rfl, rfl⟩)
       skip))
  all_goals (first
    | (fail_if_success (refine Br.mk (i := 2) ?_))
    | (refine Br.mk (i := 2) ?_
       all_goals (refine WC.skip ?_)
       skip))
  all_goals (repeat' (with_reducible first | refine thenP_n ?_ | refine blockP_n ?_))
  all_goals (refine WC.seq ?_)
  all_goals (refine WC.region ?_)
  all_goals (refine WL.step (ok_move rfl) rfl rfl rfl ?_)
  all_goals (refine WL.step (ok_nilCheck rfl) rfl rfl rfl ?_)
  all_goals (refine WL.step (ok_fieldAddr rfl Try.underlying84 rfl (fun w => Try.sizeOf3 w)) rfl rfl rfl ?_)
  all_goals (refine WL.step (ok_load (fun w => Try.isAgg3 w) rfl (by first | assumption | exact cell_blk (by assumption) rfl)) rfl rfl rfl ?_)
  all_goals (refine WL.step (ok_assign rfl) rfl rfl rfl ?_)
  all_goals (refine WL.nil ?_)
  all_goals (repeat' (with_reducible first | refine thenP_n ?_ | refine blockP_n ?_))
  all_goals (refine WC.sub [(4, _)] ⟨rfl, trivial⟩ ?_)
  all_goals (refine WC.ret ?_)
  all_goals (repeat' (with_reducible first | refine thenP_r ?_ | refine blockP_r ?_))
  all_goals (refine retP_1 _ ⟨rfl, trivial⟩ ?_)
  all_goals (exact ⟨rfl, rfl⟩)
set_option maxRecDepth 100000 in
theorem rg_find (r : Rg B c h b m1 m2 last L) {e : En} (he : e ∈ L) {v : Value} (hv : Rd h v 1 e.o.length (ints e.o)) : CallsH Try.prog 31 ⟨[ptE b, .agg ⟨[St e.t, v]⟩]⟩ h fun u h' => u = .tuple ⟨[In e.id, .bool true]⟩ ∧ Ext No h h' := by
  have hb := r.blk
  have hfs := r.fair e he
  have hm0 : e.o.length ≤ maxLen := by have := (fairS_yes hfs).2.1; unfold maxLen; omega
  have kr := fun h' (hx : Ext No h h') => rg_ready (r.ext0 hx)
  have ko := fun h' (hx : Ext No h h') => of_v e.t e.o (hv.ext0 hx) hm0
  obtain ⟨A, cc, rfl, _⟩ := id hv
  obtain ⟨E, hm, hp, ha, _⟩ := r.at2
  have hl := ha e he
  rw [show keyS_ e.t e.o = keyB e.t e.o from if_pos hfs] at ko
  unfold ptE at *
  refine calls [(0, _), (1, _)] Try.func31 rfl Try.ntmps31 rfl ⟨rfl, rfl, trivial⟩ ?_
  all_goals (refine WC.seq ?_)
  all_goals (refine WC.region ?_)
  all_goals (refine WL.stepR (okE_box rfl) rfl rfl rfl ?_
             rintro _ h1 ⟨b1, rfl, hg1, hb1, hx1⟩)
  all_goals (refine WL.step (ok_assign rfl) rfl rfl rfl ?_)
  all_goals (refine WL.step (ok_assign rfl) rfl rfl rfl ?_)
  all_goals (refine WL.nil ?_)
  all_goals (repeat' (with_reducible first | refine thenP_n ?_ | refine blockP_n ?_))
  all_goals (refine WC.seq ?_)
  all_goals (refine WC.seq ?_)
  all_goals (refine WC.region ?_)
  all_goals (refine WL.step (ok_move rfl) rfl rfl rfl ?_)
  all_goals (refine WL.call (vs := [_]) rfl (fun a w => Try.call43 a w) rfl (kr _ hx1) rfl rfl rfl ?_
             rintro _ hz ⟨rfl, _⟩
             subst hz)
  all_goals (refine WL.step (ok_not rfl) rfl rfl rfl ?_)
  all_goals (refine WL.nil ?_)
  all_goals (repeat' (with_reducible first | refine thenP_n ?_ | refine blockP_n ?_))
  all_goals (refine WC.sub [(0, _), (3, _), (10, _)] ⟨rfl, rfl, rfl, trivial⟩ ?_)
  all_goals (first | refine WC.condB_t 1 rfl ?_ | refine WC.condB_f 2 rfl ?_ | (refine WC.condB 1 2 rfl (fun hb => ?_) (fun hb => ?_) <;> (first | replace hb := of_decide_eq_true hb | replace hb := of_decide_eq_false hb | replace hb := of_decide_eq_false (nt hb) | replace hb := of_decide_eq_true (nf hb) | skip)))
  all_goals (first
    | (fail_if_success (refine Br.mk (i := 1) ?_))
    | (refine Br.mk (i := 1) ?_
       all_goals (refine WC.seq ?_)
       all_goals (refine WC.region ?_)
       all_goals (refine WL.step (ok_assign rfl) rfl rfl rfl ?_)
       all_goals (refine WL.step (ok_assign rfl) rfl rfl rfl ?_)
       all_goals (refine WL.nil ?_)
       all_goals (repeat' (with_reducible first | refine thenP_n ?_ | refine blockP_n ?_))
       all_goals (refine WC.ret ?_)
       all_goals (repeat' (with_reducible first | refine thenP_r ?_ | refine blockP_r ?_))
       all_goals (refine retP_2 _ _ ⟨rfl, rfl, trivial⟩ ?_)
       all_goals (exact ⟨rfl, hx1.trans hx2⟩)
       skip))
  all_goals (first
    | (fail_if_success (refine Br.mk (i := 2) ?_))
    | (refine Br.mk (i := 2) ?_
       all_goals (refine WC.skip ?_)
       skip))
  all_goals (repeat' (with_reducible first | refine thenP_n ?_ | refine blockP_n ?_))
  all_goals (refine WC.seq ?_)
  all_goals (refine WC.drawH (fun h' => Ext No h1 h') 12 12 rfl fol ?_)
  all_goals (refine WH.take 0 rfl (by kernel_rfl) (by kernel_rfl) (by kernel_rfl) (by kernel_rfl) rfl (by first | exact Ext.refl _ _ | assumption) (fun hq hC => ok_move rfl) rfl rfl rfl ?_)
  all_goals (refine WH.take 1 rfl (by kernel_rfl) (by kernel_rfl) (by kernel_rfl) (by kernel_rfl) rfl (by first | exact Ext.refl _ _ | assumption) (fun hq hC => ok_nilCheck rfl) rfl rfl rfl ?_)
  all_goals (refine WH.take 2 rfl (by kernel_rfl) (by kernel_rfl) (by kernel_rfl) (by kernel_rfl) rfl (by first | exact Ext.refl _ _ | assumption) (fun hq hC => ok_fieldAddr rfl Try.underlying73 rfl (fun w => Try.sizeOf39 w)) rfl rfl rfl ?_)
  all_goals (refine WH.take 3 rfl (by kernel_rfl) (by kernel_rfl) (by kernel_rfl) (by kernel_rfl) rfl (by first | exact Ext.refl _ _ | assumption) (fun hq hC => ok_load (fun w => Try.isAgg39 w) rfl (by first | exact hC.cell (by first | exact cell_blk (hx1.obj hb nos) rfl | assumption | exact cell_blk (by assumption) rfl) nos)) rfl rfl rfl ?_)
  all_goals (refine WH.take 4 rfl (by kernel_rfl) (by kernel_rfl) (by kernel_rfl) (by kernel_rfl) rfl (by first | exact Ext.refl _ _ | assumption) (fun hq hC => ok_loadN (fun w => Try.isAgg57 w) (fun w => Try.sizeOf57 w) rfl rfl (by exact At.of_block (hC.obj hb1 nos))) rfl rfl rfl ?_)
  all_goals (refine WH.one 5 (by kernel_rfl) ?_)
  all_goals (refine Comes1.call (vs := [_]) rfl rfl (fun a w => Try.call42 a w) rfl (ko _ hx1) rfl rfl rfl ?_ (fun _ => by kernel_rfl)
             rintro _ h2 ⟨rfl, hx2⟩)
  all_goals (refine ⟨fun _ => hx2, ?_⟩)
  all_goals (first | (refine WH.take 6 rfl (by kernel_rfl) (by kernel_rfl) (by kernel_rfl) (by kernel_rfl) rfl (by first | exact Ext.refl _ _ | assumption) (fun hq hC => (ok_lookup keyS Try.underlying39 Try.underlying9 rfl rfl (hm.ext (hx1.trans hC) nos) hl).1) rfl rfl rfl ?_) | (refine WH.take 6 rfl (by kernel_rfl) (by kernel_rfl) (by kernel_rfl) (by kernel_rfl) rfl (by first | exact Ext.refl _ _ | assumption) (fun hq hC => (ok_lookup_no keyS Try.underlying39 Try.underlying9 (fun w => Try.zeroValue3 w) rfl rfl (hm.ext (hx1.trans hC) nos) hl).1) rfl rfl rfl ?_) | (refine WH.take 6 rfl (by kernel_rfl) (by kernel_rfl) (by kernel_rfl) (by kernel_rfl) rfl (by first | exact Ext.refl _ _ | assumption) (fun hq hC => (ok_lookup_nil keyS Try.underlying39 Try.underlying9 (fun w => Try.zeroValue3 w) rfl rfl).1) rfl rfl rfl ?_))
  all_goals (refine WH.take 7 rfl (by kernel_rfl) (by kernel_rfl) (by kernel_rfl) (by kernel_rfl) rfl (by first | exact Ext.refl _ _ | assumption) (fun hq hC => ok_move rfl) rfl rfl rfl ?_)
  all_goals (refine WH.take 8 rfl (by kernel_rfl) (by kernel_rfl) (by kernel_rfl) (by kernel_rfl) rfl (by first | exact Ext.refl _ _ | assumption) (fun hq hC => ok_extract rfl rfl) rfl rfl rfl ?_)
  all_goals (refine WH.take 9 rfl (by kernel_rfl) (by kernel_rfl) (by kernel_rfl) (by kernel_rfl) rfl (by first | exact Ext.refl _ _ | assumption) (fun hq hC => ok_extract rfl rfl) rfl rfl rfl ?_)
  all_goals (refine WH.take 10 rfl (by kernel_rfl) (by kernel_rfl) (by kernel_rfl) (by kernel_rfl) rfl (by first | exact Ext.refl _ _ | assumption) (fun hq hC => ok_assign rfl) rfl rfl rfl ?_)
  all_goals (refine WH.take 11 rfl (by kernel_rfl) (by kernel_rfl) (by kernel_rfl) (by kernel_rfl) rfl (by first | exact Ext.refl _ _ | assumption) (fun hq hC => ok_assign rfl) rfl rfl rfl ?_)
  all_goals (refine WH.done (by kernel_rfl) ?_)
  all_goals (repeat' (with_reducible first | refine thenP_n ?_ | refine blockP_n ?_))
  all_goals (refine WC.sub [(6, _), (7, _)] ⟨rfl, rfl, trivial⟩ ?_)
  all_goals (refine WC.seq ?_)
  all_goals (refine WC.region ?_)
  all_goals (refine WL.step (ok_move rfl) rfl rfl rfl ?_)
  all_goals (refine WL.step (ok_move rfl) rfl rfl rfl ?_)
  all_goals (refine WL.step (ok_assign rfl) rfl rfl rfl ?_)
  all_goals (refine WL.step (ok_assign rfl) rfl rfl rfl ?_)
  all_goals (refine WL.nil ?_)
  all_goals (repeat' (with_reducible first | refine thenP_n ?_ | refine blockP_n ?_))
  all_goals (refine WC.sub [(4, _), (5, _)] ⟨rfl, rfl, trivial⟩ ?_)
  all_goals (refine WC.ret ?_)
  all_goals (repeat' (with_reducible first | refine thenP_r ?_ | refine blockP_r ?_))
  all_goals (refine retP_2 _ _ ⟨rfl, rfl, trivial⟩ ?_)
  all_goals (exact ⟨rfl, hx1.trans hx2⟩)
set_option maxRecDepth 100000 in
theorem rg_find_no (r : Rg B c h b m1 m2 last L) {t : List UInt8} {o : List Int} (hno : ∀ e ∈ L, ¬ (e.t = t ∧ e.o = o)) {v : Value} (hv : Rd h v 1 o.length (ints o)) (hol : o.length ≤ maxLen) : CallsH Try.prog 31 ⟨[ptE b, .agg ⟨[St t, v]⟩]⟩ h fun u h' => u = .tuple ⟨[In 0, .bool false]⟩ ∧ Ext No h h' := by
  have hb := r.blk
  have kr := fun h' (hx : Ext No h h') => rg_ready (r.ext0 hx)
  have ko := fun h' (hx : Ext No h h') => of_v t o (hv.ext0 hx) hol
  obtain ⟨A, cc, rfl, _⟩ := id hv
  obtain ⟨E, hm, hp, _, ha⟩ := r.at2
  have hl := ha t o hno
  unfold ptE at *
  refine calls [(0, _), (1, _)] Try.func31 rfl Try.ntmps31 rfl ⟨rfl, rfl, trivial⟩ ?_
  all_goals (refine WC.seq ?_)
  all_goals (refine WC.region ?_)
  all_goals (refine WL.stepR (okE_box rfl) rfl rfl rfl ?_
             rintro _ h1 ⟨b1, rfl, hg1, hb1, hx1⟩)
  all_goals (refine WL.step (ok_assign rfl) rfl rfl rfl ?_)
  all_goals (refine WL.step (ok_assign rfl) rfl rfl rfl ?_)
  all_goals (refine WL.nil ?_)
  all_goals (repeat' (with_reducible first | refine thenP_n ?_ | refine blockP_n ?_))
  all_goals (refine WC.seq ?_)
  all_goals (refine WC.seq ?_)
  all_goals (refine WC.region ?_)
  all_goals (refine WL.step (ok_move rfl) rfl rfl rfl ?_)
  all_goals (refine WL.call (vs := [_]) rfl (fun a w => Try.call43 a w) rfl (kr _ hx1) rfl rfl rfl ?_
             rintro _ hz ⟨rfl, _⟩
             subst hz)
  all_goals (refine WL.step (ok_not rfl) rfl rfl rfl ?_)
  all_goals (refine WL.nil ?_)
  all_goals (repeat' (with_reducible first | refine thenP_n ?_ | refine blockP_n ?_))
  all_goals (refine WC.sub [(0, _), (3, _), (10, _)] ⟨rfl, rfl, rfl, trivial⟩ ?_)
  all_goals (first | refine WC.condB_t 1 rfl ?_ | refine WC.condB_f 2 rfl ?_ | (refine WC.condB 1 2 rfl (fun hb => ?_) (fun hb => ?_) <;> (first | replace hb := of_decide_eq_true hb | replace hb := of_decide_eq_false hb | replace hb := of_decide_eq_false (nt hb) | replace hb := of_decide_eq_true (nf hb) | skip)))
  all_goals (first
    | (fail_if_success (refine Br.mk (i := 1) ?_))
    | (refine Br.mk (i := 1) ?_
       all_goals (refine WC.seq ?_)
       all_goals (refine WC.region ?_)
       all_goals (refine WL.step (ok_assign rfl) rfl rfl rfl ?_)
       all_goals (refine WL.step (ok_assign rfl) rfl rfl rfl ?_)
       all_goals (refine WL.nil ?_)
       all_goals (repeat' (with_reducible first | refine thenP_n ?_ | refine blockP_n ?_))
       all_goals (refine WC.ret ?_)
       all_goals (repeat' (with_reducible first | refine thenP_r ?_ | refine blockP_r ?_))
       all_goals (refine retP_2 _ _ ⟨rfl, rfl, trivial⟩ ?_)
       all_goals (exact ⟨rfl, hx1.trans hx2⟩)
       skip))
  all_goals (first
    | (fail_if_success (refine Br.mk (i := 2) ?_))
    | (refine Br.mk (i := 2) ?_
       all_goals (refine WC.skip ?_)
       skip))
  all_goals (repeat' (with_reducible first | refine thenP_n ?_ | refine blockP_n ?_))
  all_goals (refine WC.seq ?_)
  all_goals (refine WC.drawH (fun h' => Ext No h1 h') 12 12 rfl fol ?_)
  all_goals (refine WH.take 0 rfl (by kernel_rfl) (by kernel_rfl) (by kernel_rfl) (by kernel_rfl) rfl (by first | exact Ext.refl _ _ | assumption) (fun hq hC => ok_move rfl) rfl rfl rfl ?_)
  all_goals (refine WH.take 1 rfl (by kernel_rfl) (by kernel_rfl) (by kernel_rfl) (by kernel_rfl) rfl (by first | exact Ext.refl _ _ | assumption) (fun hq hC => ok_nilCheck rfl) rfl rfl rfl ?_)
  all_goals (refine WH.take 2 rfl (by kernel_rfl) (by kernel_rfl) (by kernel_rfl) (by kernel_rfl) rfl (by first | exact Ext.refl _ _ | assumption) (fun hq hC => ok_fieldAddr rfl Try.underlying73 rfl (fun w => Try.sizeOf39 w)) rfl rfl rfl ?_)
  all_goals (refine WH.take 3 rfl (by kernel_rfl) (by kernel_rfl) (by kernel_rfl) (by kernel_rfl) rfl (by first | exact Ext.refl _ _ | assumption) (fun hq hC => ok_load (fun w => Try.isAgg39 w) rfl (by first | exact hC.cell (by first | exact cell_blk (hx1.obj hb nos) rfl | assumption | exact cell_blk (by assumption) rfl) nos)) rfl rfl rfl ?_)
  all_goals (refine WH.take 4 rfl (by kernel_rfl) (by kernel_rfl) (by kernel_rfl) (by kernel_rfl) rfl (by first | exact Ext.refl _ _ | assumption) (fun hq hC => ok_loadN (fun w => Try.isAgg57 w) (fun w => Try.sizeOf57 w) rfl rfl (by exact At.of_block (hC.obj hb1 nos))) rfl rfl rfl ?_)
  all_goals (refine WH.one 5 (by kernel_rfl) ?_)
  all_goals (refine Comes1.call (vs := [_]) rfl rfl (fun a w => Try.call42 a w) rfl (ko _ hx1) rfl rfl rfl ?_ (fun _ => by kernel_rfl)
             rintro _ h2 ⟨rfl, hx2⟩)
  all_goals (refine ⟨fun _ => hx2, ?_⟩)
  all_goals (first | (refine WH.take 6 rfl (by kernel_rfl) (by kernel_rfl) (by kernel_rfl) (by kernel_rfl) rfl (by first | exact Ext.refl _ _ | assumption) (fun hq hC => (ok_lookup keyS Try.underlying39 Try.underlying9 rfl rfl (hm.ext (hx1.trans hC) nos) hl).1) rfl rfl rfl ?_) | (refine WH.take 6 rfl (by kernel_rfl) (by kernel_rfl) (by kernel_rfl) (by kernel_rfl) rfl (by first | exact Ext.refl _ _ | assumption) (fun hq hC => (ok_lookup_no keyS Try.underlying39 Try.underlying9 (fun w => Try.zeroValue3 w) rfl rfl (hm.ext (hx1.trans hC) nos) hl).1) rfl rfl rfl ?_) | (refine WH.take 6 rfl (by kernel_rfl) (by kernel_rfl) (by kernel_rfl) (by kernel_rfl) rfl (by first | exact Ext.refl _ _ | assumption) (fun hq hC => (ok_lookup_nil keyS Try.underlying39 Try.underlying9 (fun w => Try.zeroValue3 w) rfl rfl).1) rfl rfl rfl ?_))
  all_goals (refine WH.take 7 rfl (by kernel_rfl) (by kernel_rfl) (by kernel_rfl) (by kernel_rfl) rfl (by first | exact Ext.refl _ _ | assumption) (fun hq hC => ok_move rfl) rfl rfl rfl ?_)
  all_goals (refine WH.take 8 rfl (by kernel_rfl) (by kernel_rfl) (by kernel_rfl) (by kernel_rfl) rfl (by first | exact Ext.refl _ _ | assumption) (fun hq hC => ok_extract rfl rfl) rfl rfl rfl ?_)
  all_goals (refine WH.take 9 rfl (by kernel_rfl) (by kernel_rfl) (by kernel_rfl) (by kernel_rfl) rfl (by first | exact Ext.refl _ _ | assumption) (fun hq hC => ok_extract rfl rfl) rfl rfl rfl ?_)
  all_goals (refine WH.take 10 rfl (by kernel_rfl) (by kernel_rfl) (by kernel_rfl) (by kernel_rfl) rfl (by first | exact Ext.refl _ _ | assumption) (fun hq hC => ok_assign rfl) rfl rfl rfl ?_)
  all_goals (refine WH.take 11 rfl (by kernel_rfl) (by kernel_rfl) (by kernel_rfl) (by kernel_rfl) rfl (by first | exact Ext.refl _ _ | assumption) (fun hq hC => ok_assign rfl) rfl rfl rfl ?_)
  all_goals (refine WH.done (by kernel_rfl) ?_)
  all_goals (repeat' (with_reducible first | refine thenP_n ?_ | refine blockP_n ?_))
  all_goals (refine WC.sub [(6, _), (7, _)] ⟨rfl, rfl, trivial⟩ ?_)
  all_goals (refine WC.seq ?_)
  all_goals (refine WC.region ?_)
  all_goals (refine WL.step (ok_move rfl) rfl rfl rfl ?_)
  all_goals (refine WL.step (ok_move rfl) rfl rfl rfl ?_)
  all_goals (refine WL.step (ok_assign rfl) rfl rfl rfl ?_)
  all_goals (refine WL.step (ok_assign rfl) rfl rfl rfl ?_)
  all_goals (refine WL.nil ?_)
  all_goals (repeat' (with_reducible first | refine thenP_n ?_ | refine blockP_n ?_))
  all_goals (refine WC.sub [(4, _), (5, _)] ⟨rfl, rfl, trivial⟩ ?_)
  all_goals (refine WC.ret ?_)
  all_goals (repeat' (with_reducible first | refine thenP_r ?_ | refine blockP_r ?_))
  all_goals (refine retP_2 _ _ ⟨rfl, rfl, trivial⟩ ?_)
  all_goals (exact ⟨rfl, hx1.trans hx2⟩)
set_option maxRecDepth 100000 in
theorem rg_get (r : Rg B c h b m1 m2 last L) {e : En} (he : e ∈ L) : CallsH Try.prog 29 ⟨[ptE b, In e.id]⟩ h fun u h' => ∃ v', u = .tuple ⟨[.agg ⟨[St e.t, v']⟩, .bool true]⟩ ∧ Own h' v' 3 1 e.o.length (ints e.o) ∧ Ext No h h' ∧ ∀ q, v'.ownBlock = some q → h.size ≤ q := by
  have k := fun h' (hx : Ext No h h') => rg_of (r.ext0 hx) he
  have hr := r.recs e he
  have ho := (r.oid e he).rd
  have hol := (fairS_yes (r.fair e he)).2.1
  obtain ⟨A, cc, ev, _⟩ := id ho
  rw [ev] at hr ho
  have kc := fun h' (hx : Ext No h h') => clone_int e.o (ho.ext0 hx) (by omega)
  unfold ptE at *
  refine calls [(0, _), (1, _)] Try.func29 rfl Try.ntmps29 rfl ⟨rfl, rfl, trivial⟩ ?_
  all_goals (refine WC.seq ?_)
  all_goals (refine WC.region ?_)
  all_goals (refine WL.stepR (okE_alloc (fun w => Try.zeroValue57 w)) rfl rfl rfl ?_
             rintro _ h1 ⟨b1, rfl, hg1, hb1, hx1⟩)
  all_goals (refine WL.step (ok_assign rfl) rfl rfl rfl ?_)
  all_goals (refine WL.nil ?_)
  all_goals (repeat' (with_reducible first | refine thenP_n ?_ | refine blockP_n ?_))
  all_goals (refine WC.seq ?_)
  all_goals (refine WC.region ?_)
  all_goals (refine WL.step (ok_move rfl) rfl rfl rfl ?_)
  all_goals (refine WL.step (ok_move rfl) rfl rfl rfl ?_)
  all_goals (refine WL.call (vs := [_, _]) rfl (fun a w => Try.call46 a w) rfl (k _ hx1) rfl rfl rfl ?_
             rintro _ hz ⟨rfl, _⟩
             subst hz)
  all_goals (refine WL.step (ok_move rfl) rfl rfl rfl ?_)
  all_goals (refine WL.step (ok_extract rfl rfl) rfl rfl rfl ?_)
  all_goals (refine WL.step (ok_extract rfl rfl) rfl rfl rfl ?_)
  all_goals (refine WL.step (ok_assign rfl) rfl rfl rfl ?_)
  all_goals (refine WL.step (ok_assign rfl) rfl rfl rfl ?_)
  all_goals (refine WL.nil ?_)
  all_goals (repeat' (with_reducible first | refine thenP_n ?_ | refine blockP_n ?_))
  all_goals (refine WC.sub [(4, _), (6, _), (7, _)] ⟨rfl, rfl, rfl, trivial⟩ ?_)
  all_goals (refine WC.seq ?_)
  all_goals (refine WC.seq ?_)
  all_goals (refine WC.region ?_)
  all_goals (refine WL.step (ok_move rfl) rfl rfl rfl ?_)
  all_goals (refine WL.step (ok_not rfl) rfl rfl rfl ?_)
  all_goals (refine WL.nil ?_)
  all_goals (repeat' (with_reducible first | refine thenP_n ?_ | refine blockP_n ?_))
  all_goals (first | refine WC.condB_t 1 rfl ?_ | refine WC.condB_f 2 rfl ?_ | (refine WC.condB 1 2 rfl (fun hb => ?_) (fun hb => ?_) <;> (first | replace hb := of_decide_eq_true hb | replace hb := of_decide_eq_false hb | replace hb := of_decide_eq_false (nt hb) | replace hb := of_decide_eq_true (nf hb) | skip)))
  all_goals (first
    | (fail_if_success (refine Br.mk (i := 1) ?_))
    | (refine Br.mk (i := 1) ?_
       all_goals (refine WC.seq ?_)
       all_goals (refine WC.region ?_)
       all_goals (refine WL.step (ok_buildF (vs := []) (cs := [_, _]) (fun | [] => [(St []), (.slice none 0 0)] | _ => []) rfl rfl (by kernel_rfl)) rfl rfl rfl ?_)
       all_goals (refine WL.stepR0 (okE_storeW (fun w => Try.sizeOf57 w) rfl rfl rfl (by assumption) rfl (by simp [Value.oneCell'])) rfl rfl ?_
                  rintro _ h1 ⟨hb1, hx1⟩)
       all_goals (refine WL.step (ok_assign rfl) rfl rfl rfl ?_)
       all_goals (refine WL.nil ?_)
       all_goals (repeat' (with_reducible first | refine thenP_n ?_ | refine blockP_n ?_))
       all_goals (refine WC.sub [(4, _), (5, _)] ⟨rfl, rfl, trivial⟩ ?_)
       all_goals (refine WC.ret ?_)
       all_goals (repeat' (with_reducible first | refine thenP_r ?_ | refine blockP_r ?_))
       all_goals (refine retP_2 _ _ ⟨⟨_, rfl, ld_blk (fun w => Try.isAgg57 w) (fun w => Try.sizeOf57 w) hb3 rfl⟩, rfl, trivial⟩ ?_)
       all_goals (exact ⟨_, rfl, ho2.ext hx3 (fun q hq e => by have := hf2 q hq; have := lt_of_some hb1; omega), (hx1.trans hx2).trans' hx3 (fun q hq e => by omega), fun q hq => by have := hf2 q hq; have := hx1.size; omega⟩)
       skip))
  all_goals (first
    | (fail_if_success (refine Br.mk (i := 2) ?_))
    | (refine Br.mk (i := 2) ?_
       all_goals (refine WC.skip ?_)
       skip))
  all_goals (repeat' (with_reducible first | refine thenP_n ?_ | refine blockP_n ?_))
  all_goals (refine WC.seq ?_)
  all_goals (refine WC.drawH (fun h' => Ext No h1 h') 12 14 rfl fol ?_)
  all_goals (refine WH.take 0 rfl (by kernel_rfl) (by kernel_rfl) (by kernel_rfl) (by kernel_rfl) rfl (by first | exact Ext.refl _ _ | assumption) (fun hq hC => ok_move rfl) rfl rfl rfl ?_)
  all_goals (refine WH.take 1 rfl (by kernel_rfl) (by kernel_rfl) (by kernel_rfl) (by kernel_rfl) rfl (by first | exact Ext.refl _ _ | assumption) (fun hq hC => ok_nilCheck rfl) rfl rfl rfl ?_)
  all_goals (refine WH.take 2 rfl (by kernel_rfl) (by kernel_rfl) (by kernel_rfl) (by kernel_rfl) rfl (by first | exact Ext.refl _ _ | assumption) (fun hq hC => ok_fieldAddr rfl Try.underlying84 rfl (fun w => Try.sizeOf57 w)) rfl rfl rfl ?_)
  all_goals (refine WH.take 3 rfl (by kernel_rfl) (by kernel_rfl) (by kernel_rfl) (by kernel_rfl) rfl (by first | exact Ext.refl _ _ | assumption) (fun hq hC => ok_fieldAddr rfl Try.underlying57 rfl (fun w => Try.sizeOf9 w)) rfl rfl rfl ?_)
  all_goals (refine WH.take 4 rfl (by kernel_rfl) (by kernel_rfl) (by kernel_rfl) (by kernel_rfl) rfl (by first | exact Ext.refl _ _ | assumption) (fun hq hC => ok_load (fun w => Try.isAgg9 w) rfl (by first | exact hC.cell (by first | exact cell_blk (hx1.obj hr nos) rfl | assumption | exact cell_blk (by assumption) rfl) nos)) rfl rfl rfl ?_)
  all_goals (refine WH.take 5 rfl (by kernel_rfl) (by kernel_rfl) (by kernel_rfl) (by kernel_rfl) rfl (by first | exact Ext.refl _ _ | assumption) (fun hq hC => ok_move rfl) rfl rfl rfl ?_)
  all_goals (refine WH.take 6 rfl (by kernel_rfl) (by kernel_rfl) (by kernel_rfl) (by kernel_rfl) rfl (by first | exact Ext.refl _ _ | assumption) (fun hq hC => ok_nilCheck rfl) rfl rfl rfl ?_)
  all_goals (refine WH.take 7 rfl (by kernel_rfl) (by kernel_rfl) (by kernel_rfl) (by kernel_rfl) rfl (by first | exact Ext.refl _ _ | assumption) (fun hq hC => ok_fieldAddr rfl Try.underlying84 rfl (fun w => Try.sizeOf57 w)) rfl rfl rfl ?_)
  all_goals (refine WH.take 8 rfl (by kernel_rfl) (by kernel_rfl) (by kernel_rfl) (by kernel_rfl) rfl (by first | exact Ext.refl _ _ | assumption) (fun hq hC => ok_fieldAddr rfl Try.underlying57 rfl (fun w => Try.sizeOf55 w)) rfl rfl rfl ?_)
  all_goals (refine WH.take 9 rfl (by kernel_rfl) (by kernel_rfl) (by kernel_rfl) (by kernel_rfl) rfl (by first | exact Ext.refl _ _ | assumption) (fun hq hC => ok_load (fun w => Try.isAgg55 w) rfl (by first | exact hC.cell (by first | exact cell_blk (hx1.obj hr nos) rfl | assumption | exact cell_blk (by assumption) rfl) nos)) rfl rfl rfl ?_)
  all_goals (refine WH.one 10 (by kernel_rfl) ?_)
  all_goals (refine Comes1.call (vs := [_]) rfl rfl (fun a w => Try.call44 a w) rfl (kc _ hx1) rfl rfl rfl ?_ (fun _ => by kernel_rfl)
             rintro v2 h2 ⟨ho2, hx2, hf2⟩)
  all_goals (refine ⟨fun _ => hx2, ?_⟩)
  all_goals (have hb12 := hx2.obj hb1 nos
             obtain ⟨A2, c2, rfl, _⟩ := ho2.slice)
  all_goals (refine WH.take 11 rfl (by kernel_rfl) (by kernel_rfl) (by kernel_rfl) (by kernel_rfl) rfl (by first | exact Ext.refl _ _ | assumption) (fun hq hC => ok_buildF (vs := [_, _]) (cs := [_, _]) (fun | [a0, a1] => [a0, a1] | _ => []) rfl rfl (by kernel_rfl)) rfl rfl rfl ?_)
  all_goals (refine WH.one 12 (by kernel_rfl) ?_)
  all_goals (refine Comes1.run0 rfl (okE_storeW (fun w => Try.sizeOf57 w) rfl rfl rfl hb12 rfl (by simp [Value.oneCell'])) rfl rfl ?_ (fun _ => by kernel_rfl)
             rintro _ h3 ⟨hb3, hx3⟩)
  all_goals (refine ⟨fun e => (by cases e), ?_⟩)
  all_goals (refine WH.one 13 (by kernel_rfl) ?_)
  all_goals (refine Comes1.run rfl (OkP.r (ok_assign rfl)) rfl rfl rfl ?_ (fun _ => by kernel_rfl)
             rintro _ hz ⟨rfl, _⟩
             subst hz)
  all_goals (refine ⟨fun e => (by cases e), ?_⟩)
  all_goals (refine WH.done (by kernel_rfl) ?_)
  all_goals (repeat' (with_reducible first | refine thenP_n ?_ | refine blockP_n ?_))
  all_goals (refine WC.sub [(4, _), (5, _)] ⟨rfl, rfl, trivial⟩ ?_)
  all_goals (refine WC.ret ?_)
  all_goals (repeat' (with_reducible first | refine thenP_r ?_ | refine blockP_r ?_))
  all_goals (refine retP_2 _ _ ⟨⟨_, rfl, ld_blk (fun w => Try.isAgg57 w) (fun w => Try.sizeOf57 w) hb3 rfl⟩, rfl, trivial⟩ ?_)
  all_goals (exact ⟨_, rfl, ho2.ext hx3 (fun q hq e => by have := hf2 q hq; have := lt_of_some hb1; omega), (hx1.trans hx2).trans' hx3 (fun q hq e => by omega), fun q hq => by have := hf2 q hq; have := hx1.size; omega⟩)
set_option maxRecDepth 100000 in
theorem rg_get_no (r : Rg B c h b m1 m2 last L) {id : Int} (hid : ∀ e ∈ L, e.id ≠ id) : CallsH Try.prog 29 ⟨[ptE b, In id]⟩ h fun u h' => u = .tuple ⟨[.agg ⟨[St [], .slice none 0 0]⟩, .bool false]⟩ ∧ Ext No h h' := by
  have k := fun h' (hx : Ext No h h') => rg_of_no (r.ext0 hx) hid
  unfold ptE at *
  refine calls [(0, _), (1, _)] Try.func29 rfl Try.ntmps29 rfl ⟨rfl, rfl, trivial⟩ ?_
  all_goals (refine WC.seq ?_)
  all_goals (refine WC.region ?_)
  all_goals (refine WL.stepR (okE_alloc (fun w => Try.zeroValue57 w)) rfl rfl rfl ?_
             rintro _ h1 ⟨b1, rfl, hg1, hb1, hx1⟩)
  all_goals (refine WL.step (ok_assign rfl) rfl rfl rfl ?_)
  all_goals (refine WL.nil ?_)
  all_goals (repeat' (with_reducible first | refine thenP_n ?_ | refine blockP_n ?_))
  all_goals (refine WC.seq ?_)
  all_goals (refine WC.region ?_)
  all_goals (refine WL.step (ok_move rfl) rfl rfl rfl ?_)
  all_goals (refine WL.step (ok_move rfl) rfl rfl rfl ?_)
  all_goals (refine WL.call (vs := [_, _]) rfl (fun a w => Try.call46 a w) rfl (k _ hx1) rfl rfl rfl ?_
             rintro _ hz ⟨rfl, _⟩
             subst hz)
  all_goals (refine WL.step (ok_move rfl) rfl rfl rfl ?_)
  all_goals (refine WL.step (ok_extract rfl rfl) rfl rfl rfl ?_)
  all_goals (refine WL.step (ok_extract rfl rfl) rfl rfl rfl ?_)
  all_goals (refine WL.step (ok_assign rfl) rfl rfl rfl ?_)
  all_goals (refine WL.step (ok_assign rfl) rfl rfl rfl ?_)
  all_goals (refine WL.nil ?_)
  all_goals (repeat' (with_reducible first | refine thenP_n ?_ | refine blockP_n ?_))
  all_goals (refine WC.sub [(4, _), (6, _), (7, _)] ⟨rfl, rfl, rfl, trivial⟩ ?_)
  all_goals (refine WC.seq ?_)
  all_goals (refine WC.seq ?_)
  all_goals (refine WC.region ?_)
  all_goals (refine WL.step (ok_move rfl) rfl rfl rfl ?_)
  all_goals (refine WL.step (ok_not rfl) rfl rfl rfl ?_)
  all_goals (refine WL.nil ?_)
  all_goals (repeat' (with_reducible first | refine thenP_n ?_ | refine blockP_n ?_))
  all_goals (first | refine WC.condB_t 1 rfl ?_ | refine WC.condB_f 2 rfl ?_ | (refine WC.condB 1 2 rfl (fun hb => ?_) (fun hb => ?_) <;> (first | replace hb := of_decide_eq_true hb | replace hb := of_decide_eq_false hb | replace hb := of_decide_eq_false (nt hb) | replace hb := of_decide_eq_true (nf hb) | skip)))
  all_goals (first
    | (fail_if_success (refine Br.mk (i := 1) ?_))
    | (refine Br.mk (i := 1) ?_
       all_goals (refine WC.seq ?_)
       all_goals (refine WC.region ?_)
       all_goals (refine WL.step (ok_buildF (vs := []) (cs := [_, _]) (fun | [] => [(St []), (.slice none 0 0)] | _ => []) rfl rfl (by kernel_rfl)) rfl rfl rfl ?_)
       all_goals (refine WL.stepR0 (okE_storeW (fun w => Try.sizeOf57 w) rfl rfl rfl hb1 rfl (by simp [Value.oneCell'])) rfl rfl ?_
                  rintro _ h3 ⟨hb3, hx3⟩)
       all_goals (refine WL.step (ok_assign rfl) rfl rfl rfl ?_)
       all_goals (refine WL.nil ?_)
       all_goals (repeat' (with_reducible first | refine thenP_n ?_ | refine blockP_n ?_))
       all_goals (refine WC.sub [(4, _), (5, _)] ⟨rfl, rfl, trivial⟩ ?_)
       all_goals (refine WC.ret ?_)
       all_goals (repeat' (with_reducible first | refine thenP_r ?_ | refine blockP_r ?_))
       all_goals (refine retP_2 _ _ ⟨⟨_, rfl, ld_blk (fun w => Try.isAgg57 w) (fun w => Try.sizeOf57 w) hb3 rfl⟩, rfl, trivial⟩ ?_)
       all_goals (exact ⟨rfl, hx1.trans' hx3 (fun q hq e => by omega)⟩)
       skip))
  all_goals (first
    | (fail_if_success (refine Br.mk (i := 2) ?_))
    | (refine Br.mk (i := 2) ?_
       all_goals (refine WC.skip ?_)
       skip))
  all_goals (repeat' (with_reducible first | refine thenP_n ?_ | refine blockP_n ?_))
  all_goals (refine WC.seq ?_)
  all_goals (refine WC.drawE fol (by kernel_rfl) ?_)
  all_goals (refine WQ.stepE (ok_move rfl) rfl rfl rfl ?_)
  all_goals (refine WQ.stepE (ok_nilCheck rfl) rfl rfl rfl ?_)
  all_goals (refine WQ.stepE (ok_fieldAddr rfl Try.underlying84 rfl (fun w => Try.sizeOf57 w)) rfl rfl rfl ?_)
  all_goals (refine WQ.stepE (ok_fieldAddr rfl Try.underlying57 rfl (fun w => Try.sizeOf9 w)) rfl rfl rfl ?_)
  all_goals (refine WQ.stepE (ok_load (fun w => Try.isAgg9 w) rfl (by first | assumption | exact cell_blk (by assumption) rfl)) rfl rfl rfl ?_)
  all_goals (refine WQ.stepE (ok_move rfl) rfl rfl rfl ?_)
  all_goals (refine WQ.stepE (ok_nilCheck rfl) rfl rfl rfl ?_)
  all_goals (refine WQ.stepE (ok_fieldAddr rfl Try.underlying84 rfl (fun w => Try.sizeOf57 w)) rfl rfl rfl ?_)
  all_goals (refine WQ.stepE (ok_fieldAddr rfl Try.underlying57 rfl (fun w => Try.sizeOf55 w)) rfl rfl rfl ?_)
  all_goals (refine WQ.stepE (ok_load (fun w => Try.isAgg55 w) rfl (by first | assumption | exact cell_blk (by assumption) rfl)) rfl rfl rfl ?_)
  all_goals (fail "no contract for call of slices.Clone[[]int,int] at 4.10")
  all_goals (refine WQ.stepE (ok_buildF (vs := [_, _]) (cs := [_, _]) (fun | [a0, a1] => [a0, a1] | _ => []) rfl rfl (by kernel_rfl)) rfl rfl rfl ?_)
  all_goals (refine WL.stepR0 (okE_storeW (fun w => Try.sizeOf57 w) rfl rfl rfl (by assumption) rfl (by simp [Value.oneCell'])) rfl rfl ?_
             rintro _ h1 ⟨hb1, hx1⟩)
  all_goals (refine WQ.stepE (ok_assign rfl) rfl rfl rfl ?_)
  all_goals (refine WQ.nil ?_)
  all_goals (repeat' (with_reducible first | refine thenP_n ?_ | refine blockP_n ?_))
  all_goals (refine WC.sub [(4, _), (5, _)] ⟨rfl, rfl, trivial⟩ ?_)
  all_goals (refine WC.ret ?_)
  all_goals (repeat' (with_reducible first | refine thenP_r ?_ | refine blockP_r ?_))
  all_goals (refine retP_2 _ _ ⟨⟨_, rfl, ld_blk (fun w => Try.isAgg57 w) (fun w => Try.sizeOf57 w) hb3 rfl⟩, rfl, trivial⟩ ?_)
  all_goals (exact ⟨rfl, hx1.trans' hx3 (fun q hq e => by omega)⟩)
end
end Go.Proofs.Ytkpgnhhidnkmcaa

