/-
  PORTAL (layer 28): both sets side by side, and how each call turns them.
-/
import Derived.Test.YtgfbilmlgibbfaaPort9
namespace Go.Proofs.Ytgfbilmlgibbfaa
open Go Go.RK

theorem mem_setL' {α : Type} {L : List (List UInt8 × α)} (h : Rise L) {n : List UInt8} {v : α} {p : List UInt8 × α} (hp : p ∈ setL L n v) : p = (n, v) ∨ (p ∈ L ∧ p.1 ≠ n) := by
  rw [← setL_del h] at hp
  rcases mem_setL hp with e | e
  · exact .inl e
  · have := List.mem_filter.1 e
    exact .inr ⟨this.1, by simpa using this.2⟩
/-- Both sets: the code's at b, its map at m; the document's at b2. -/
structure D28 (h0 h : Heap) (b m b2 : Nat) (v : Value) (L : List (List UInt8 × It28)) : Prop where
  set : h[b]? = some (.cells ⟨[.map (some m)]⟩ 102 (0, 0))
  map : ∃ E, Mp .string St h m (encE ptE E) ∧ E.Perm L
  rise : Rise L
  it : ∀ q ∈ L, h[q.2.p]? = some (.cells ⟨q.2.d.cells⟩ 58 (0, 0)) ∧ q.2.d.ok h ∧ q.2.d.pl = q.2.e.pl
  x : Xs h0.size h b2 v L
  ext : Ext No h0 h
  lo : h0.size ≤ b ∧ h0.size ≤ m ∧ ∀ q ∈ L, h0.size ≤ q.2.p
  df : ∀ q ∈ L, ∀ k, q.2.d.F k → h0.size ≤ k ∧ k ≠ m ∧ k ≠ b2 ∧ v.ownBlock ≠ some k ∧ ∀ q' ∈ L, k ≠ q'.2.p
  pp : ∀ q ∈ L, ∀ q' ∈ L, q.2.p = q'.2.p → q.1 = q'.1
section
variable {h0 h h1 h2 : Heap} {b m b2 : Nat} {v v' : Value} {L : List (List UInt8 × It28)}
theorem own_type {g : Nat} {cs : List Value} {T T2 : TypeId} {sz n : Nat} {xs : List Value} (ho : Own h v T2 sz n xs) (hg : h[g]? = some (.cells ⟨cs⟩ T (0, 0))) (ht : T2 ≠ T) : v.ownBlock ≠ some g := own_ne ho hg ht.symm
/-- What lies apart, by its kind. -/
theorem D28.sep (d : D28 h0 h b m b2 v L) : b ≠ m ∧ b2 ≠ m ∧ b ≠ b2 ∧ v.ownBlock ≠ some m ∧ v.ownBlock ≠ some b ∧ v.ownBlock ≠ some b2 ∧ ∀ q ∈ L, q.2.p ≠ m ∧ q.2.p ≠ b ∧ q.2.p ≠ b2 ∧ v.ownBlock ≠ some q.2.p := by
  obtain ⟨E, hm, _⟩ := d.map
  have hb := d.set
  have hx := d.x.blk
  have hno : ∀ {g : Nat} {cs : List Value} {T : TypeId}, h[g]? = some (.cells ⟨cs⟩ T (0, 0)) → g ≠ m := by
    rintro g cs T hg rfl
    obtain ⟨_, _, e, _⟩ := hm
    rw [hg] at e
    cases e
  have htt : ∀ {g g' : Nat} {cs cs' : List Value} {T T' : TypeId}, h[g]? = some (.cells ⟨cs⟩ T (0, 0)) → h[g']? = some (.cells ⟨cs'⟩ T' (0, 0)) → T ≠ T' → g ≠ g' := by
    rintro g g' cs cs' T T' hg hg' ht rfl
    rw [hg] at hg'
    simp only [Option.some.injEq, Obj.cells.injEq] at hg'
    exact ht hg'.2.1
  refine ⟨hno hb, hno hx, htt hb hx (by decide), ?_, own_type d.x.own hb (by decide), d.x.ne, fun q hq => ⟨hno (d.it q hq).1, htt (d.it q hq).1 hb (by decide), htt (d.it q hq).1 hx (by decide), own_type d.x.own (d.it q hq).1 (by decide)⟩⟩
  obtain ⟨hl, ⟨hv, h0⟩ | ⟨g0, cap0, cur, hv, hg, _⟩⟩ := d.x.own
  · rw [hv]; simp [Value.ownBlock]
  · rw [hv]
    intro e
    simp only [Value.ownBlock, Option.some.injEq] at e
    exact hno (g := g0) (cs := cur.toList) (T := 122) hg e
theorem D28.look (d : D28 h0 h b m b2 v L) (n : List UInt8) : ∃ E, Mp .string St h m (encE ptE E) ∧ E.Perm L ∧ alook (encE ptE E) n = (getL L n).map ptE := by
  obtain ⟨E, hm, hp⟩ := d.map
  exact ⟨E, hm, hp, by rw [alook_enc, getL_perm hp d.rise.nd]⟩
theorem D28.stay {S : Nat → Prop} (d : D28 h0 h b m b2 v L) (e : Ext S h h1) (hS : ∀ k, k < h.size → ¬ S k) : D28 h0 h1 b m b2 v L := by
  obtain ⟨E, hm, hp⟩ := d.map
  refine ⟨e.obj d.set (hS _ (lt_of_some d.set)), ⟨E, hm.ext e (hS _ hm.lt), hp⟩, d.rise, fun q hq => ?_, d.x.ext e (hS _ (lt_of_some d.x.blk)) (fun k hk => hS k (d.x.own.lt hk)) (fun k hk => hS k (by have := d.ext.size; omega)), d.ext.trans' e (fun k hk hs => hS k (by have := d.ext.size; omega) hs), d.lo, d.df, d.pp⟩
  obtain ⟨a1, a2, a3⟩ := d.it q hq
  exact ⟨e.obj a1 (hS _ (lt_of_some a1)), a2.ext e (fun k hk => hS k (a2.lt hk)), a3⟩
/-- A portal put. -/
theorem D28.put (d : D28 h0 h b m b2 v L) {n : List UInt8} {p : Nat} {d' P : PD} {E : List (List UInt8 × It28)} (hE : E.Perm L) (hm1 : Mp .string St h1 m (aput (encE ptE E) n (.pointer (some ⟨p, 0, none⟩)))) (hp1 : h1[p]? = some (.cells ⟨d'.cells⟩ 58 (0, 0))) (ok1 : d'.ok h1) (pl1 : d'.pl = P.pl) (hgp : h.size ≤ p) (hf1 : ∀ k, d'.F k → h.size ≤ k ∧ k ≠ p) (x1 : Ext (fun k => k = m) h h1)
    (r2 : Xs h0.size h2 b2 v' (setL L n ⟨p, d', P⟩)) (x2 : Ext (fun q => q = b2) h1 h2) (hv : ∀ q, v'.ownBlock = some q → h1.size ≤ q) : D28 h0 h2 b m b2 v' (setL L n ⟨p, d', P⟩) := by
  obtain ⟨s1, s2, s3, s4, s5, s6, s7⟩ := d.sep
  have hsz := d.ext.size
  have hs1 := x1.size
  have hbl := lt_of_some d.set
  have hb2l := lt_of_some d.x.blk
  have hml : m < h.size := by obtain ⟨_, hm, _⟩ := d.map; exact hm.lt
  obtain ⟨l1, l2, l3⟩ := d.lo
  have hb2lo := d.x.lo
  refine ⟨x2.obj (x1.obj d.set s1) s3, ⟨_, ?_, put_perm hE d.rise n ⟨p, d', P⟩⟩, d.rise.set _ _, fun q hq => ?_, r2, (d.ext.trans' x1 fun k hk e => by omega).trans' x2 (fun k hk e => by omega), ⟨l1, l2, fun q hq => ?_⟩, fun q hq k hk => ?_, fun q hq q' hq' e => ?_⟩
  · rw [← aput_enc]
    exact hm1.ext x2 (fun e => s2 e.symm)
  · rcases mem_setL' d.rise hq with rfl | ⟨hq, _⟩
    · exact ⟨x2.obj hp1 (by show ¬ p = b2; omega), ok1.ext x2 (fun k hk e => by have := (hf1 k hk).1; omega), pl1⟩
    · obtain ⟨a1, a2, a3⟩ := d.it q hq
      have := s7 q hq
      exact ⟨x2.obj (x1.obj a1 this.1) this.2.2.1, (a2.ext x1 fun k hk e => (d.df q hq k hk).2.1 e).ext x2 (fun k hk e => (d.df q hq k hk).2.2.1 e), a3⟩
  · rcases mem_setL' d.rise hq with rfl | ⟨hq, _⟩
    · show h0.size ≤ p; omega
    · exact l3 q hq
  · rcases mem_setL' d.rise hq with rfl | ⟨hq, _⟩
    · obtain ⟨f1, f2⟩ := hf1 k hk
      have := ok1.lt hk
      refine ⟨by omega, by omega, by omega, fun e => by have := hv k e; omega, fun q' hq' e => ?_⟩
      rcases mem_setL' d.rise hq' with rfl | ⟨hq', _⟩
      · exact f2 e
      · have := lt_of_some (d.it q' hq').1; omega
    · obtain ⟨f1, f2, f3, f4, f5⟩ := d.df q hq k hk
      have hkl := (d.it q hq).2.1.lt hk
      refine ⟨f1, f2, f3, fun e => by have := hv k e; omega, fun q' hq' e => ?_⟩
      rcases mem_setL' d.rise hq' with rfl | ⟨hq', _⟩
      · have e' : k = p := e; omega
      · exact f5 q' hq' e
  · rcases mem_setL' d.rise hq with rfl | ⟨hq, _⟩ <;> rcases mem_setL' d.rise hq' with rfl | ⟨hq', _⟩
    · rfl
    · have := lt_of_some (d.it q' hq').1
      have e' : p = q'.2.p := e
      omega
    · have := lt_of_some (d.it q hq).1
      have e' : q.2.p = p := e
      omega
    · exact d.pp q hq q' hq' e
/-- A portal turned, in its place. -/
theorem D28.upd (d : D28 h0 h b m b2 v L) {n : List UInt8} {it : It28} (hg : getL L n = some it) {d' e' : PD} (hp1 : h1[it.p]? = some (.cells ⟨d'.cells⟩ 58 (0, 0))) (ok1 : d'.ok h1) (pl1 : d'.pl = e'.pl) (hf1 : ∀ k, d'.F k → it.d.F k ∨ h.size ≤ k) (x1 : Ext (fun k => k = it.p) h h1)
    (r2 : Xs h0.size h2 b2 v (setL L n ⟨it.p, d', e'⟩)) (x2 : Ext (fun q => v.ownBlock = some q) h1 h2) : D28 h0 h2 b m b2 v (setL L n ⟨it.p, d', e'⟩) := by
  obtain ⟨s1, s2, s3, s4, s5, s6, s7⟩ := d.sep
  have hin := getL_mem hg
  have hi := d.it _ hin
  have hip := s7 _ hin
  have hidf := d.df _ hin
  simp only at hi hip hidf
  have hsz := d.ext.size
  have hs1 := x1.size
  have hbl := lt_of_some d.set
  have hb2l := lt_of_some d.x.blk
  have hpl := lt_of_some hi.1
  have hml : m < h.size := by obtain ⟨_, hm, _⟩ := d.map; exact hm.lt
  obtain ⟨l1, l2, l3⟩ := d.lo
  obtain ⟨E, hm, hE⟩ := d.map
  have hEq : encE ptE (putE E n ⟨it.p, d', e'⟩) = encE ptE E := by
    have hgE : getL E n = some it := by rw [getL_perm hE d.rise.nd]; exact hg
    have hnE : (E.map (·.1)).Nodup := (hE.map (·.1)).symm.nodup d.rise.nd
    unfold putE
    rw [if_pos (by rw [hgE]; rfl)]
    unfold encE
    rw [List.map_map]
    refine List.map_congr_left fun q hq => ?_
    simp only [Function.comp_apply]
    by_cases e : q.1 = n
    · rw [if_pos e]
      have : getL E n = some q.2 := getL_of hnE (by rw [← e]; exact hq)
      rw [hgE] at this
      have e2 := Option.some.inj this
      show (n, ptE ⟨it.p, d', e'⟩) = (q.1, ptE q.2)
      rw [e, ← e2]
      rfl
    · rw [if_neg e]
  have hap : ∀ q ∈ L, q.1 ≠ n → q.2.p ≠ it.p := fun q hq hne e => hne (d.pp q hq _ hin e)
  have hfv := d.x.fv
  refine ⟨x2.obj (x1.obj d.set (fun e => hip.2.1 e.symm)) s5, ⟨_, ?_, put_perm hE d.rise n ⟨it.p, d', e'⟩⟩, d.rise.set _ _, fun q hq => ?_, r2, (d.ext.trans' x1 fun k hk e => by have := l3 _ hin; simp only at this; omega).trans' x2 (fun k hk e => by have := hfv k e; omega), ⟨l1, l2, fun q hq => ?_⟩, fun q hq k hk => ?_, fun q hq q' hq' e => ?_⟩
  · rw [hEq]
    exact (hm.ext x1 (fun e => hip.1 e.symm)).ext x2 s4
  · rcases mem_setL' d.rise hq with rfl | ⟨hq, hne⟩
    · exact ⟨x2.obj hp1 hip.2.2.2, ok1.ext x2 (fun k hk e => by rcases hf1 k hk with hk | hk; exact (hidf k hk).2.2.2.1 e; have := d.x.own.lt e; omega), pl1⟩
    · obtain ⟨a1, a2, a3⟩ := d.it q hq
      have := s7 q hq
      exact ⟨x2.obj (x1.obj a1 (hap q hq hne)) this.2.2.2, (a2.ext x1 fun k hk e => (d.df q hq k hk).2.2.2.2 _ hin e).ext x2 (fun k hk e => (d.df q hq k hk).2.2.2.1 e), a3⟩
  · rcases mem_setL' d.rise hq with rfl | ⟨hq, _⟩
    · exact l3 (n, it) hin
    · exact l3 q hq
  · have hold : ∀ k, (∀ q' ∈ L, k ≠ q'.2.p) → ∀ q' ∈ setL L n ⟨it.p, d', e'⟩, k ≠ q'.2.p := by
      intro k hk q' hq'
      rcases mem_setL' d.rise hq' with rfl | ⟨hq', _⟩
      · exact hk (n, it) hin
      · exact hk q' hq'
    rcases mem_setL' d.rise hq with rfl | ⟨hq, _⟩
    · rcases hf1 k hk with hk' | hk'
      · obtain ⟨f1, f2, f3, f4, f5⟩ := hidf k hk'
        exact ⟨f1, f2, f3, f4, hold k f5⟩
      · refine ⟨by omega, by omega, by omega, fun e => by have := d.x.own.lt e; omega, hold k fun q' hq' e => ?_⟩
        have := lt_of_some (d.it q' hq').1
        omega
    · obtain ⟨f1, f2, f3, f4, f5⟩ := d.df q hq k hk
      exact ⟨f1, f2, f3, f4, hold k f5⟩
  · rcases mem_setL' d.rise hq with rfl | ⟨hq, _⟩ <;> rcases mem_setL' d.rise hq' with rfl | ⟨hq', _⟩
    · rfl
    · exact d.pp (n, it) hin q' hq' e
    · exact d.pp q hq (n, it) hin e
    · exact d.pp q hq q' hq' e
/-- A portal gone. -/
theorem D28.del (d : D28 h0 h b m b2 v L) {n : List UInt8} {E : List (List UInt8 × It28)} (hE : E.Perm L) (hm1 : Mp .string St h1 m (adel (encE ptE E) n)) (x1 : Ext (fun k => k = m) h h1)
    (r2 : Xs h0.size h2 b2 v' (delL L n)) (x2 : Ext (fun q => q = b2) h1 h2) (hv : ∀ q, v'.ownBlock = some q → h1.size ≤ q) : D28 h0 h2 b m b2 v' (delL L n) := by
  obtain ⟨s1, s2, s3, s4, s5, s6, s7⟩ := d.sep
  have hsz := d.ext.size
  have hs1 := x1.size
  have hsub : ∀ q ∈ delL L n, q ∈ L := fun q hq => (List.mem_filter.1 hq).1
  obtain ⟨l1, l2, l3⟩ := d.lo
  have hb2lo := d.x.lo
  refine ⟨x2.obj (x1.obj d.set s1) s3, ⟨_, ?_, del_perm hE n⟩, d.rise.del n, fun q hq => ?_, r2, (d.ext.trans' x1 fun k hk e => by omega).trans' x2 (fun k hk e => by omega), ⟨l1, l2, fun q hq => l3 q (hsub q hq)⟩, fun q hq k hk => ?_, fun q hq q' hq' e => d.pp q (hsub q hq) q' (hsub q' hq') e⟩
  · rw [← adel_enc]
    exact hm1.ext x2 (fun e => s2 e.symm)
  · obtain ⟨a1, a2, a3⟩ := d.it q (hsub q hq)
    have := s7 q (hsub q hq)
    exact ⟨x2.obj (x1.obj a1 this.1) this.2.2.1, (a2.ext x1 fun k hk e => (d.df q (hsub q hq) k hk).2.1 e).ext x2 (fun k hk e => (d.df q (hsub q hq) k hk).2.2.1 e), a3⟩
  · obtain ⟨f1, f2, f3, f4, f5⟩ := d.df q (hsub q hq) k hk
    have hkl := (d.it q (hsub q hq)).2.1.lt hk
    exact ⟨f1, f2, f3, fun e => by have := hv k e; omega, fun q' hq' => f5 q' (hsub q' hq')⟩
/-- All gone. -/
theorem D28.clear (d : D28 h0 h b m b2 v L) (hm1 : Mp .string St h1 m ([] : List (List UInt8 × Value))) (x1 : Ext (fun k => k = m) h h1) (hb2 : h2[b2]? = some (.cells ⟨[.slice none 0 0]⟩ 113 (0, 0))) (x2 : Ext (fun q => q = b2) h1 h2) : D28 h0 h2 b m b2 (.slice none 0 0) [] := by
  obtain ⟨s1, s2, s3, _⟩ := d.sep
  obtain ⟨l1, l2, l3⟩ := d.lo
  have hb2lo := d.x.lo
  exact ⟨x2.obj (x1.obj d.set s1) s3, ⟨[], hm1.ext x2 (fun e => s2 e.symm), .refl _⟩, List.Pairwise.nil, by simp, ⟨hb2, Own.nil _ _ _, by simp, hb2lo, by simp [Value.ownBlock], by simp⟩, (d.ext.trans' x1 fun k hk e => by omega).trans' x2 (fun k hk e => by omega), ⟨l1, l2, by simp⟩, by simp, by simp⟩
end
end Go.Proofs.Ytgfbilmlgibbfaa

