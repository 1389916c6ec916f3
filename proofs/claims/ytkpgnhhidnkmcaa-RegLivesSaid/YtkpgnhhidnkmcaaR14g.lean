/-
  REGISTRY (layer 14): both registries, side by side; the law's calls.
-/
import Derived.Test.YtkpgnhhidnkmcaaR14f
namespace Go.Proofs.Ytkpgnhhidnkmcaa
open Go Go.RK

def MC (b m1 m2 : Nat) (L : List En) (q : Nat) : Prop := q = b ∨ q = m1 ∨ q = m2 ∨ ∃ e ∈ L, q = e.p
def MV (bt : Nat) (v : Value) (q : Nat) : Prop := q = bt ∨ v.ownBlock = some q
/-- Both registries; c bounds the calls made. -/
structure T14 (h0 h : Heap) (B : Nat) (c : Int) (b m1 m2 bt : Nat) (v : Value) (last : Int) (L G : List En) : Prop where
  rg : Rg B c h b m1 m2 last L
  rf : R14 B h bt v last G
  pr : G.map pr = L.map pr
  ext : Ext No h0 h
  hB : h0.size ≤ B
def M14 (b m1 m2 bt : Nat) (v : Value) (L : List En) (q : Nat) : Prop := MC b m1 m2 L q ∨ MV bt v q
section
variable {h0 h h1 h' : Heap} {B : Nat} {c : Int} {b m1 m2 bt : Nat} {v : Value} {last : Int} {L G L1 L2 : List En} {e : En}
theorem Rg.notC (r : Rg B c h b m1 m2 last L) {g : Nat} {cs : Array Value} {T : TypeId} (hg : h[g]? = some (.cells cs T (0, 0))) (t1 : T ≠ 73) (t2 : T ≠ 84) : ¬ MC b m1 m2 L g := by
  rintro (rfl | rfl | rfl | ⟨e, he, rfl⟩)
  · exact ne_kind t1 hg r.blk rfl
  · obtain ⟨_, ⟨_, _, e, _⟩, _⟩ := r.mp1; rw [hg] at e; cases e
  · obtain ⟨_, ⟨_, _, e, _⟩, _⟩ := r.mp2; rw [hg] at e; cases e
  · exact ne_kind t2 hg (r.recs e he) rfl
theorem R14.notV (r : R14 B h bt v last G) {g : Nat} {cs : Array Value} {T : TypeId} (hg : h[g]? = some (.cells cs T (0, 0))) (t1 : T ≠ 54) (t2 : T ≠ 88) : ¬ MV bt v g := by
  rintro (rfl | hq)
  · exact ne_kind t1 hg r.blk rfl
  · obtain ⟨_, e1⟩ := own_kind14 r.own hq; exact ne_kind t2 hg e1 rfl
theorem R14.notM (r : R14 B h bt v last G) {g : Nat} {es ck} (hg : h[g]? = some (.map es ck)) : ¬ MV bt v g := by
  rintro (rfl | hq)
  · rw [r.blk] at hg; cases hg
  · obtain ⟨_, e1⟩ := own_kind14 r.own hq; rw [e1] at hg; cases hg
theorem T14.not (d : T14 h0 h B c b m1 m2 bt v last L G) {g : Nat} {cs : Array Value} {T : TypeId} (hg : h[g]? = some (.cells cs T (0, 0))) (t1 : T ≠ 73) (t2 : T ≠ 84) (t3 : T ≠ 54) (t4 : T ≠ 88) : ¬ M14 b m1 m2 bt v L g := fun e => e.elim (d.rg.notC hg t1 t2) (d.rf.notV hg t3 t4)
theorem T14.ge (d : T14 h0 h B c b m1 m2 bt v last L G) {q : Nat} (hq : M14 b m1 m2 bt v L q) : h0.size ≤ q := by
  have := d.hB
  rcases hq with hq | hq
  · have : B ≤ q := MR.ge d.rg (by rcases hq with h | h | h | ⟨e, he, h⟩; exact .inl h; exact .inr (.inl h); exact .inr (.inr (.inl h)); exact .inr (.inr (.inr ⟨e, he, .inl h⟩)))
    omega
  · have : B ≤ q := d.rf.ge (by rcases hq with h | h; exact .inl h; exact .inr (.inl h))
    omega
/-- What the code's call turns leaves the document's registry. -/
theorem T14.codeOff (d : T14 h0 h B c b m1 m2 bt v last L G) (a : Ext (MC b m1 m2 L) h h1) : R14 B h1 bt v last G := d.rf.ext a fun q hq => by
  rcases hq with rfl | hq | ⟨e, he, hq⟩
  · exact d.rg.notC d.rf.blk (by decide) (by decide)
  · obtain ⟨_, e1⟩ := own_kind14 d.rf.own hq; exact d.rg.notC e1 (by decide) (by decide)
  · obtain ⟨_, e1⟩ := own_kind14 (d.rf.oid e he) hq; exact d.rg.notC e1 (by decide) (by decide)
/-- What the document's call turns leaves the code's registry. -/
theorem docOff (r : Rg B c h b m1 m2 last L) {last' : Int} {G' : List En} (q : R14 B h bt v last' G') (a : Ext (MV bt v) h h1) : Rg B c h1 b m1 m2 last L := by
  obtain ⟨_, ⟨_, _, e1, _⟩, _⟩ := id r.mp1
  obtain ⟨_, ⟨_, _, e2, _⟩, _⟩ := id r.mp2
  exact r.ext a (q.notV r.blk (by decide) (by decide)) (q.notM e1) (q.notM e2) fun e he => ⟨q.notV (r.recs e he) (by decide) (by decide), fun z hz => by obtain ⟨_, e3⟩ := own_kind14 (r.oid e he) hz; exact q.notV e3 (by decide) (by decide)⟩
theorem T14.stay (d : T14 h0 h B c b m1 m2 bt v last L G) (a : Ext No h h1) : T14 h0 h1 B c b m1 m2 bt v last L G := ⟨d.rg.ext0 a, d.rf.ext0 a, d.pr, d.ext.trans a, d.hB⟩
theorem T14.up (d : T14 h0 h B c b m1 m2 bt v last L G) {c' : Int} (h1 : c ≤ c') (h2 : c' ≤ 1000000) : T14 h0 h B c' b m1 m2 bt v last L G := ⟨d.rg.up h1 h2, d.rf, d.pr, d.ext, d.hB⟩
theorem split_pr (hpr : G.map pr = (L1 ++ e :: L2).map pr) : ∃ G1 p w G2, G = G1 ++ ⟨e.id, e.rf, e.t, e.o, p, w⟩ :: G2 ∧ G1.map pr = L1.map pr ∧ G2.map pr = L2.map pr := by
  rw [List.map_append, List.map_cons, List.map_eq_append_iff] at hpr
  obtain ⟨G1, G', rfl, h1, h2⟩ := hpr
  obtain ⟨g, G2, rfl, h3, h4⟩ := List.map_eq_cons_iff.1 h2
  obtain ⟨i, r, t, o, p, w⟩ := g
  simp only [pr, Prod.mk.injEq] at h3
  obtain ⟨rfl, rfl, rfl, rfl⟩ := h3
  exact ⟨G1, p, w, G2, rfl, h1, h4⟩
theorem mem_pr (hpr : G.map pr = L.map pr) {x : En} (hx : x ∈ G) : ∃ y ∈ L, y.id = x.id ∧ y.rf = x.rf ∧ y.t = x.t ∧ y.o = x.o := by
  have : pr x ∈ L.map pr := hpr ▸ List.mem_map.2 ⟨x, hx, rfl⟩
  obtain ⟨y, hy, e⟩ := List.mem_map.1 this
  simp only [pr, Prod.mk.injEq] at e
  exact ⟨y, hy, e.1, e.2.1, e.2.2.1, e.2.2.2⟩
theorem rise_pr (r : Rg B c h b m1 m2 last (L1 ++ e :: L2)) {G1 : List En} (hpr : G1.map pr = L1.map pr) : ∀ x ∈ G1, x.id ≠ e.id := fun x hx z => by
  obtain ⟨y, hy, h1, _⟩ := mem_pr hpr hx
  have ri := r.rise
  simp only [List.pairwise_append, List.pairwise_cons, List.mem_cons, forall_eq_or_imp] at ri
  have := (ri.2.2 y hy).1
  omega
theorem uniq_pr (r : Rg B c h b m1 m2 last (L1 ++ e :: L2)) (hpr : G.map pr = (L1 ++ e :: L2).map pr) : ∀ y ∈ G, y.t = e.t ∧ y.o = e.o → y.id = e.id := fun x hx z => by
  obtain ⟨y, hy, h1, _, h3, h4⟩ := mem_pr hpr hx
  have ky := r.keys
  simp only [List.pairwise_append, List.pairwise_cons, List.mem_cons, forall_eq_or_imp] at ky
  rcases List.mem_append.1 hy with hy | hy
  · exact absurd ⟨h3.trans z.1, h4.trans z.2⟩ (ky.2.2 y hy).1
  · rcases List.mem_cons.1 hy with rfl | hy
    · exact h1.symm
    · exact absurd ⟨(h3.trans z.1).symm, (h4.trans z.2).symm⟩ (ky.2.1.1 y hy)
theorem len_pr (hpr : G.map pr = L.map pr) : G.length = L.length := by have := congrArg List.length hpr; simpa using this
theorem put_both (d : T14 h0 h B c b m1 m2 bt v last L G) (s : Stm) (ok : stOk h0 s) (hc : c + 1 ≤ 1000) :
    CallsH Try.prog 23 ⟨[ptE b, .agg ⟨stC s⟩]⟩ h fun u h1 => ∃ x, u = In x ∧ Ext (M14 b m1 m2 bt v L) h h1 ∧
      CallsH Try.prog 24 ⟨[ptE bt, .agg ⟨stC s⟩]⟩ h1 fun u h2 => u = In x ∧ Ext (M14 b m1 m2 bt v L) h1 h2 ∧ ∃ v' last' L' G', T14 h0 h2 B (c + 1) b m1 m2 bt v' last' L' G' := by
  have bd := d.rg.bd
  have hlG := len_pr d.pr
  have x0 := d.ext
  by_cases hf : fairS s.1 s.2.2 = true
  · by_cases hm : ∃ e ∈ L, e.t = s.1 ∧ e.o = s.2.2
    · obtain ⟨e, he, hs⟩ := hm
      have hrf := d.rg.rf1 e he
      obtain ⟨L1, L2, rfl⟩ := split_of he
      have okk : Rd h s.2.1 1 e.o.length (ints e.o) := by rw [hs.2]; exact ok.1.ext0 x0
      have k1 := rg_put_old d.rg okk (by omega)
      rw [hs.1] at k1
      refine k1.mono fun u h1 ⟨hu, r1, x1⟩ => ⟨_, hu, x1.mono fun q _ z => .inl (.inr (.inr (.inr ⟨e, he, z⟩))), ?_⟩
      have q1 := d.codeOff (x1.mono fun q _ z => .inr (.inr (.inr ⟨e, he, z⟩)))
      obtain ⟨G1, p, w, G2, rfl, g1, g2⟩ := split_pr d.pr
      have x01 : Ext No h0 h1 := x0.trans' x1 (fun q hq z => by have := d.rg.lo.2.2.2 e he; have := d.hB; omega)
      refine (put14_old q1 s ⟨ok.1.ext0 x01, ok.2⟩ hf hs (fun y hy z => uniq_pr d.rg d.pr y hy ⟨z.1.trans hs.1.symm, z.2.trans hs.2.symm⟩) (rise_pr d.rg g1) ⟨hrf.1, by have := hrf.2; show e.rf ≤ _; omega⟩).mono fun u h2 ⟨hu2, q2, x2⟩ => ⟨hu2, x2.mono fun q _ z => .inr (.inr z), _, _, _, _, docOff r1 q1 (x2.mono fun q _ z => .inr z), q2, by simp [g1, g2, hs.1], x01.trans' x2 (fun q hq z => by have := d.rf.lo.2.1 q z; have := d.hB; omega), d.hB⟩
    · have k1 := rg_put_new d.rg hf (fun e he z => hm ⟨e, he, z⟩) ok.1 x0 d.hB (by omega)
      refine k1.mono fun u h1 ⟨hu, ⟨p, v', r1⟩, x1⟩ => ⟨_, hu, x1.mono fun q _ z => .inl (by rcases z with z | z | z; exact .inl z; exact .inr (.inl z); exact .inr (.inr (.inl z))), ?_⟩
      have x1' : Ext (MC b m1 m2 L) h h1 := x1.mono fun q _ z => by rcases z with z | z | z; exact .inl z; exact .inr (.inl z); exact .inr (.inr (.inl z))
      have q1 := d.codeOff x1'
      have x01 : Ext No h0 h1 := x0.trans' x1' (fun q hq z => by have := d.ge (.inl z); omega)
      exact (put14_new q1 s ok x01 d.hB hf (fun y hy z => by obtain ⟨y', hy', _, _, h3, h4⟩ := mem_pr d.pr hy; exact hm ⟨y', hy', h3.trans z.1, h4.trans z.2⟩) (by omega) (by omega)).mono fun u h2 ⟨hu2, ⟨v', v2, q2⟩, x2⟩ => ⟨hu2, x2.mono fun q _ z => .inr z, _, _, _, _, docOff r1 q1 x2, q2, by simp [d.pr], x01.trans' x2 (fun q hq z => by have := d.ge (.inr z); omega), d.hB⟩
  · have hf' : fairS s.1 s.2.2 = false := by simpa using hf
    refine (rg_put_zero d.rg hf' (ok.1.ext0 x0) ok.le).mono fun u h1 ⟨hu, x1⟩ => ⟨_, hu, x1.mono fun _ _ z => z.elim, ?_⟩
    have d1 := d.stay x1
    exact (put14_zero d1.rf s ⟨ok.1.ext0 d1.ext, ok.2⟩ hf').mono fun u h2 ⟨hu2, x2⟩ => ⟨hu2, x2.mono fun _ _ z => z.elim, _, _, _, _, (d1.stay x2).up (by omega) (by omega)⟩
theorem no_pr (hpr : G.map pr = L.map pr) {id : Int} (hm : ¬ ∃ e ∈ L, e.id = id) : ∀ x ∈ G, x.id ≠ id := fun x hx z => by
  obtain ⟨y, hy, h1, _⟩ := mem_pr hpr hx
  exact hm ⟨y, hy, h1.trans z⟩
theorem ref_both (d : T14 h0 h B c b m1 m2 bt v last L G) (id : Int) (hc : c + 1 ≤ 1000) :
    CallsH Try.prog 25 ⟨[ptE b, In id]⟩ h fun u h1 => ∃ x, u = .bool x ∧ Ext (M14 b m1 m2 bt v L) h h1 ∧
      CallsH Try.prog 26 ⟨[ptE bt, In id]⟩ h1 fun u h2 => u = .bool x ∧ Ext (M14 b m1 m2 bt v L) h1 h2 ∧ ∃ v' last' L' G', T14 h0 h2 B (c + 1) b m1 m2 bt v' last' L' G' := by
  have bd := d.rg.bd
  have x0 := d.ext
  by_cases hm : ∃ e ∈ L, e.id = id
  · obtain ⟨e, he, rfl⟩ := hm
    have hrf := d.rg.rf1 e he
    obtain ⟨L1, L2, rfl⟩ := split_of he
    refine (rg_ref d.rg (by omega)).mono fun u h1 ⟨hu, r1, x1⟩ => ⟨_, hu, x1.mono fun q _ z => .inl (.inr (.inr (.inr ⟨e, he, z⟩))), ?_⟩
    have q1 := d.codeOff (x1.mono fun q _ z => .inr (.inr (.inr ⟨e, he, z⟩)))
    obtain ⟨G1, p, w, G2, rfl, g1, g2⟩ := split_pr d.pr
    have x01 : Ext No h0 h1 := x0.trans' x1 (fun q hq z => by have := d.rg.lo.2.2.2 e he; have := d.hB; omega)
    exact (ref14 q1 (rise_pr d.rg g1) ⟨hrf.1, by have := hrf.2; show e.rf ≤ _; omega⟩).mono fun u h2 ⟨hu2, q2, x2⟩ => ⟨hu2, x2.mono fun q _ z => .inr (.inr z), _, _, _, _, docOff r1 q1 (x2.mono fun q _ z => .inr z), q2, by simp [g1, g2], x01.trans' x2 (fun q hq z => by have := d.rf.lo.2.1 q z; have := d.hB; omega), d.hB⟩
  · refine (rg_ref_no d.rg (fun e he z => hm ⟨e, he, z⟩)).mono fun u h1 ⟨hu, x1⟩ => ⟨_, hu, x1 ▸ .refl _ _, ?_⟩
    subst x1
    exact (ref14_no d.rf (no_pr d.pr hm)).mono fun u h2 ⟨hu2, x2⟩ => ⟨hu2, x2 ▸ .refl _ _, _, _, _, _, x2 ▸ d.up (by omega) (by omega)⟩
theorem drop_both (d : T14 h0 h B c b m1 m2 bt v last L G) (id : Int) (hc : c + 1 ≤ 1000) :
    CallsH Try.prog 27 ⟨[ptE b, In id]⟩ h fun u h1 => ∃ x, u = .bool x ∧ Ext (M14 b m1 m2 bt v L) h h1 ∧
      CallsH Try.prog 28 ⟨[ptE bt, In id]⟩ h1 fun u h2 => u = .bool x ∧ Ext (M14 b m1 m2 bt v L) h1 h2 ∧ ∃ v' last' L' G', T14 h0 h2 B (c + 1) b m1 m2 bt v' last' L' G' := by
  have bd := d.rg.bd
  have x0 := d.ext
  by_cases hm : ∃ e ∈ L, e.id = id
  · obtain ⟨e, he, rfl⟩ := hm
    have hrf := d.rg.rf1 e he
    obtain ⟨L1, L2, rfl⟩ := split_of he
    by_cases h1 : e.rf = 1
    · refine (rg_drop_out d.rg h1).mono fun u h1' ⟨hu, r1, x1⟩ => ⟨_, hu, x1.mono fun q _ z => .inl (by rcases z with z | z | z; exact .inr (.inr (.inr ⟨e, he, z⟩)); exact .inr (.inl z); exact .inr (.inr (.inl z))), ?_⟩
      have x1' : Ext (MC b m1 m2 (L1 ++ e :: L2)) h h1' := x1.mono fun q _ z => by rcases z with z | z | z; exact .inr (.inr (.inr ⟨e, he, z⟩)); exact .inr (.inl z); exact .inr (.inr (.inl z))
      have q1 := d.codeOff x1'
      have x01 : Ext No h0 h1' := x0.trans' x1' (fun q hq z => by have := d.ge (.inl z); omega)
      obtain ⟨G1, p, w, G2, rfl, g1, g2⟩ := split_pr d.pr
      exact (drop14_out q1 (rise_pr d.rg g1) h1).mono fun u h2 ⟨hu2, ⟨v', q2⟩, x2⟩ => ⟨hu2, x2.mono fun q _ z => .inr z, _, _, _, _, (docOff r1 q1 x2).up (by omega) (by omega), q2, by simp [g1, g2], x01.trans' x2 (fun q hq z => by have := d.ge (.inr z); omega), d.hB⟩
    · refine (rg_drop_dec d.rg (by omega) (by omega)).mono fun u h1' ⟨hu, r1, x1⟩ => ⟨_, hu, x1.mono fun q _ z => .inl (.inr (.inr (.inr ⟨e, he, z⟩))), ?_⟩
      have q1 := d.codeOff (x1.mono fun q _ z => .inr (.inr (.inr ⟨e, he, z⟩)))
      obtain ⟨G1, p, w, G2, rfl, g1, g2⟩ := split_pr d.pr
      have x01 : Ext No h0 h1' := x0.trans' x1 (fun q hq z => by have := d.rg.lo.2.2.2 e he; have := d.hB; omega)
      exact (drop14_dec q1 (rise_pr d.rg g1) ⟨by show 2 ≤ e.rf; omega, by show e.rf ≤ _; omega⟩).mono fun u h2 ⟨hu2, q2, x2⟩ => ⟨hu2, x2.mono fun q _ z => .inr (.inr z), _, _, _, _, docOff r1 q1 (x2.mono fun q _ z => .inr z), q2, by simp [g1, g2], x01.trans' x2 (fun q hq z => by have := d.rf.lo.2.1 q z; have := d.hB; omega), d.hB⟩
  · refine (rg_drop_no d.rg (fun e he z => hm ⟨e, he, z⟩)).mono fun u h1 ⟨hu, x1⟩ => ⟨_, hu, x1 ▸ .refl _ _, ?_⟩
    subst x1
    exact (drop14_no d.rf (no_pr d.pr hm)).mono fun u h2 ⟨hu2, x2⟩ => ⟨hu2, x2 ▸ .refl _ _, _, _, _, _, x2 ▸ d.up (by omega) (by omega)⟩
/-- What Get, Find and Refs answer, alike in both. -/
theorem get_both (d : T14 h0 h B c b m1 m2 bt v last L G) (id : Int) :
    ∃ (bb : Bool) (t : List UInt8) (o : List Int), o.length ≤ 65535 ∧
      (∀ h', Ext No h h' → CallsH Try.prog 29 ⟨[ptE b, In id]⟩ h' fun u h1 => ∃ v1, u = .tuple ⟨[.agg ⟨[St t, v1]⟩, .bool bb]⟩ ∧ Rd h1 v1 1 o.length (ints o) ∧ Ext No h' h1) ∧
      (∀ h', Ext No h h' → CallsH Try.prog 30 ⟨[ptE bt, In id]⟩ h' fun u h1 => ∃ v1, u = .tuple ⟨[.agg ⟨[St t, v1]⟩, .bool bb]⟩ ∧ Rd h1 v1 1 o.length (ints o) ∧ Ext No h' h1) := by
  by_cases hm : ∃ e ∈ L, e.id = id
  · obtain ⟨e, he, rfl⟩ := hm
    have hol := (fairS_yes (d.rg.fair e he)).2.1
    obtain ⟨L1, L2, rfl⟩ := split_of he
    obtain ⟨G1, p, w, G2, rfl, g1, g2⟩ := split_pr d.pr
    refine ⟨true, e.t, e.o, hol, fun h' x => (rg_get (d.rg.ext0 x) he).mono fun u h1 ⟨v', hu, ho, x1, _⟩ => ⟨v', hu, ho.rd, x1⟩, fun h' x => (get14 (d.rf.ext0 x) (rise_pr d.rg g1)).mono fun u h1 ⟨hu, x1⟩ => ⟨w, hu, (d.rf.oid ⟨e.id, e.rf, e.t, e.o, p, w⟩ (by simp)).rd.ext0 (x.trans x1), x1⟩⟩
  · exact ⟨false, [], [], by decide, fun h' x => (rg_get_no (d.rg.ext0 x) (fun e he z => hm ⟨e, he, z⟩)).mono fun u h1 ⟨hu, x1⟩ => ⟨_, hu, (Own.nil h1 3 1).rd, x1⟩, fun h' x => (get14_no (d.rf.ext0 x) (no_pr d.pr hm)).mono fun u h1 ⟨hu, x1⟩ => ⟨_, hu, (Own.nil h1 3 1).rd, x1⟩⟩
theorem find_both (d : T14 h0 h B c b m1 m2 bt v last L G) (s : Stm) (ok : stOk h0 s) :
    ∃ (x : Int) (bb : Bool),
      (∀ h', Ext No h h' → CallsH Try.prog 31 ⟨[ptE b, .agg ⟨stC s⟩]⟩ h' fun u h1 => u = .tuple ⟨[In x, .bool bb]⟩ ∧ Ext No h' h1) ∧
      (∀ h', Ext No h h' → CallsH Try.prog 32 ⟨[ptE bt, .agg ⟨stC s⟩]⟩ h' fun u h1 => u = .tuple ⟨[In x, .bool bb]⟩ ∧ Ext No h' h1) := by
  by_cases hm : ∃ e ∈ L, e.t = s.1 ∧ e.o = s.2.2
  · obtain ⟨e, he, hs⟩ := hm
    obtain ⟨L1, L2, rfl⟩ := split_of he
    refine ⟨e.id, true, fun h' x => ?_, fun h' x => (find14 (d.rf.ext0 x) s ⟨ok.1.ext0 (d.ext.trans x), ok.2⟩).mono fun u h1 ⟨⟨y, bb, hu, hres⟩, x1⟩ => ⟨?_, x1⟩⟩
    · have k := rg_find (d.rg.ext0 x) he (v := s.2.1) (by rw [hs.2]; exact ok.1.ext0 (d.ext.trans x))
      rw [hs.1] at k
      exact k
    · obtain ⟨rfl, rfl⟩ : y = e.id ∧ bb = true := by
        rcases hres with ⟨hb1, z, hz, hzs, e1⟩ | ⟨_, _, hz⟩
        · exact ⟨e1.trans (uniq_pr d.rg d.pr z hz ⟨hzs.1.trans hs.1.symm, hzs.2.trans hs.2.symm⟩), hb1⟩
        · obtain ⟨G1, p, w, G2, rfl, g1, g2⟩ := split_pr d.pr
          exact absurd hs (hz ⟨e.id, e.rf, e.t, e.o, p, w⟩ (by simp))
      exact hu
  · refine ⟨0, false, fun h' x => rg_find_no (d.rg.ext0 x) (fun e he z => hm ⟨e, he, z⟩) (ok.1.ext0 (d.ext.trans x)) ok.le, fun h' x => (find14 (d.rf.ext0 x) s ⟨ok.1.ext0 (d.ext.trans x), ok.2⟩).mono fun u h1 ⟨⟨y, bb, hu, hres⟩, x1⟩ => ⟨?_, x1⟩⟩
    obtain ⟨rfl, rfl⟩ : y = 0 ∧ bb = false := by
      rcases hres with ⟨_, z, hz, hzs, _⟩ | ⟨e1, e2, _⟩
      · obtain ⟨y', hy', _, _, h3, h4⟩ := mem_pr d.pr hz
        exact absurd ⟨y', hy', h3.trans hzs.1, h4.trans hzs.2⟩ hm
      · exact ⟨e2, e1⟩
    exact hu
theorem refs_both (d : T14 h0 h B c b m1 m2 bt v last L G) (id : Int) :
    ∃ (x : Int),
      (∀ h', Ext No h h' → CallsH Try.prog 34 ⟨[ptE b, In id]⟩ h' fun u h1 => u = In x ∧ h1 = h') ∧
      (∀ h', Ext No h h' → CallsH Try.prog 35 ⟨[ptE bt, In id]⟩ h' fun u h1 => u = In x ∧ h1 = h') := by
  by_cases hm : ∃ e ∈ L, e.id = id
  · obtain ⟨e, he, rfl⟩ := hm
    obtain ⟨L1, L2, rfl⟩ := split_of he
    obtain ⟨G1, p, w, G2, rfl, g1, g2⟩ := split_pr d.pr
    exact ⟨e.rf, fun h' x => rg_refs (d.rg.ext0 x) he, fun h' x => refs14 (d := ⟨e.id, e.rf, e.t, e.o, p, w⟩) (d.rf.ext0 x) (rise_pr d.rg g1)⟩
  · exact ⟨0, fun h' x => rg_refs_no (d.rg.ext0 x) (fun e he z => hm ⟨e, he, z⟩), fun h' x => refs14_no (d.rf.ext0 x) (no_pr d.pr hm)⟩
theorem same12_t {h : Heap} {v u : Value} (t : List UInt8) (l : List Int) (hr : Rd h v 1 l.length (ints l)) (hs : Rd h u 1 l.length (ints l)) (hl : l.length ≤ maxLen) :
    CallsH Try.prog 33 ⟨[.agg ⟨[St t, v]⟩, .agg ⟨[St t, u]⟩]⟩ h fun u h' => u = .bool true ∧ Ext No h h' := (same12 t t l l hr hs hl hl).mono fun _ _ z => ⟨z.1.trans (by rw [decide_eq_true ⟨rfl, rfl⟩]), z.2⟩
end
end Go.Proofs.Ytkpgnhhidnkmcaa

