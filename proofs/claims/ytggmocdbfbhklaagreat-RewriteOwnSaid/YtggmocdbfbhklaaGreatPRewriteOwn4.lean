/-
  SEVERAL TEXTS IN ONE: RwR, RwJ, RwJ2, RwJ3, RwJ4, Tb, RfT, Tb15.
-/
import Derived.Test.YtggmocdbfbhklaaGreatPRewriteOwn3
/-
  REGISTRIES (layer 14) of the code and of the document, each by itself: what is kept is a plain list, and each call a function on it.
-/
namespace Go.Proofs.YtggmocdbfbhklaaGreat
open Go Go.RK

abbrev Qd := Int × Int × List UInt8 × List Int
/-- The last id, and what is kept: ids, how many refer to them, texts, types. -/
abbrev RS := Int × List Qd
def bumpS (id : Int) (l : List Qd) : List Qd := l.map fun q => if q.1 = id then (q.1, q.2.1 + 1, q.2.2) else q
def isS (t : List UInt8) (o : List Int) (q : Qd) : Bool := decide (q.2.2.1 = t ∧ q.2.2.2 = o)
def putS (s : RS) (t : List UInt8) (o : List Int) : RS × Int :=
  if fairS t o = true then
    match s.2.find? (isS t o) with
    | some q => ((s.1, bumpS q.1 s.2), q.1)
    | none => ((s.1 + 1, s.2 ++ [(s.1 + 1, 1, t, o)]), s.1 + 1)
  else (s, 0)
def refS (s : RS) (id : Int) : RS := (s.1, bumpS id s.2)
def idS (id : Int) (q : Qd) : Bool := decide (q.1 = id)
def getS (s : RS) (id : Int) : Option (List UInt8 × List Int) := (s.2.find? (idS id)).map fun q => q.2.2
def refsS (s : RS) (id : Int) : Int := ((s.2.find? (idS id)).map fun q => q.2.1).getD 0
structure Sv (c : Int) (s : RS) : Prop where
  rise : s.2.Pairwise fun a b => a.1 < b.1
  keys : s.2.Pairwise fun a b => ¬ (a.2.2.1 = b.2.2.1 ∧ a.2.2.2 = b.2.2.2)
  rf : ∀ q ∈ s.2, 1 ≤ q.2.1 ∧ q.2.1 ≤ c
  top : ∀ q ∈ s.2, 1 ≤ q.1 ∧ q.1 ≤ s.1
  bd : 0 ≤ s.1 ∧ s.1 ≤ c ∧ (s.2.length : Int) ≤ c
theorem Sv.up {c c' : Int} {s : RS} (k : Sv c s) (h : c ≤ c') : Sv c' s := ⟨k.rise, k.keys, fun q hq => ⟨(k.rf q hq).1, by have := (k.rf q hq).2; omega⟩, k.top, ⟨k.bd.1, by have := k.bd.2; omega, by have := k.bd.2; omega⟩⟩
theorem bump_len (id : Int) (l : List Qd) : (bumpS id l).length = l.length := by simp [bumpS]
theorem bump_mem {id : Int} {l : List Qd} {q : Qd} (h : q ∈ bumpS id l) : ∃ p ∈ l, q.1 = p.1 ∧ q.2.2 = p.2.2 ∧ (q.2.1 = p.2.1 ∨ q.2.1 = p.2.1 + 1) := by
  obtain ⟨p, hp, rfl⟩ := List.mem_map.1 h
  refine ⟨p, hp, ?_⟩
  split
  · exact ⟨rfl, rfl, .inr rfl⟩
  · exact ⟨rfl, rfl, .inl rfl⟩
theorem pw_map {α β : Type} {R : β → β → Prop} {f : α → β} {l : List α} : (l.map f).Pairwise R ↔ l.Pairwise fun a b => R (f a) (f b) := List.pairwise_map
theorem Sv.ref {c : Int} {s : RS} (k : Sv c s) (id : Int) : Sv (c + 1) (refS s id) := by
  refine ⟨?_, ?_, fun q hq => ?_, fun q hq => ?_, ?_⟩
  · show (bumpS id s.2).Pairwise _
    unfold bumpS
    rw [pw_map]
    refine k.rise.imp fun {a b} h => ?_
    split <;> split <;> exact h
  · show (bumpS id s.2).Pairwise _
    unfold bumpS
    rw [pw_map]
    refine k.keys.imp fun {a b} h => ?_
    split <;> split <;> exact h
  · obtain ⟨p, hp, e1, e2, e3⟩ := bump_mem hq
    have := k.rf p hp
    omega
  · obtain ⟨p, hp, e1, e2, e3⟩ := bump_mem hq
    have := k.top p hp
    show 1 ≤ q.1 ∧ q.1 ≤ s.1
    omega
  · have := k.bd
    have h2 : (refS s id).2.length = s.2.length := bump_len _ _
    refine ⟨this.1, ?_, ?_⟩
    · show s.1 ≤ _; omega
    · rw [h2]; omega
theorem Sv.put {c : Int} {s : RS} (k : Sv c s) (t : List UInt8) (o : List Int) : Sv (c + 1) (putS s t o).1 := by
  unfold putS
  split
  · split
    · exact k.ref _
    · rename_i hf hn
      have hno := List.find?_eq_none.1 hn
      refine ⟨?_, ?_, fun q hq => ?_, fun q hq => ?_, ?_⟩
      · refine List.pairwise_append.2 ⟨k.rise, List.pairwise_singleton _ _, fun a ha b hb => ?_⟩
        obtain rfl := List.mem_singleton.1 hb
        have := k.top a ha
        show a.1 < s.1 + 1
        omega
      · refine List.pairwise_append.2 ⟨k.keys, List.pairwise_singleton _ _, fun a ha b hb => ?_⟩
        obtain rfl := List.mem_singleton.1 hb
        have := hno a ha
        simpa [isS] using this
      · have := k.bd
        have hq : q ∈ s.2 ++ [(s.1 + 1, 1, t, o)] := hq
        rcases List.mem_append.1 hq with hq | hq
        · have := k.rf q hq; omega
        · obtain rfl := List.mem_singleton.1 hq; show 1 ≤ (1 : Int) ∧ (1 : Int) ≤ c + 1; omega
      · have := k.bd
        have hq : q ∈ s.2 ++ [(s.1 + 1, 1, t, o)] := hq
        show 1 ≤ q.1 ∧ q.1 ≤ s.1 + 1
        rcases List.mem_append.1 hq with hq | hq
        · have := k.top q hq; omega
        · obtain rfl := List.mem_singleton.1 hq; show 1 ≤ s.1 + 1 ∧ s.1 + 1 ≤ s.1 + 1; omega
      · have := k.bd
        refine ⟨?_, ?_, ?_⟩
        · show 0 ≤ s.1 + 1; omega
        · show s.1 + 1 ≤ _; omega
        · show ((s.2 ++ [(s.1 + 1, 1, t, o)]).length : Int) ≤ _; simp; omega
  · exact k.up (by omega)
theorem find_mid {α : Type} {p : α → Bool} {l1 l2 : List α} {a : α} (ha : p a = true) (h1 : ∀ x ∈ l1, p x = false) : (l1 ++ a :: l2).find? p = some a := by
  rw [List.find?_append, List.find?_eq_none.2 fun x hx => by rw [h1 x hx]; decide, Option.none_or, List.find?_cons, ha]
theorem bump_mid {id : Int} {l1 l2 : List Qd} {q : Qd} (hq : q.1 = id) (h1 : ∀ x ∈ l1, x.1 ≠ id) (h2 : ∀ x ∈ l2, x.1 ≠ id) : bumpS id (l1 ++ q :: l2) = l1 ++ (q.1, q.2.1 + 1, q.2.2) :: l2 := by
  unfold bumpS
  rw [List.map_append, List.map_cons, if_pos hq]
  congr 1
  · conv => rhs; rw [← List.map_id l1]
    exact List.map_congr_left fun x hx => if_neg (h1 x hx)
  · congr 1
    conv => rhs; rw [← List.map_id l2]
    exact List.map_congr_left fun x hx => if_neg (h2 x hx)
theorem bump_no {id : Int} {l : List Qd} (h : ∀ x ∈ l, x.1 ≠ id) : bumpS id l = l := by
  unfold bumpS
  conv => rhs; rw [← List.map_id l]
  exact List.map_congr_left fun x hx => if_neg (h x hx)
theorem Sv.split {c : Int} {s : RS} (k : Sv c s) {l1 l2 : List Qd} {q : Qd} (e : s.2 = l1 ++ q :: l2) : (∀ x ∈ l1, x.1 ≠ q.1) ∧ (∀ x ∈ l2, x.1 ≠ q.1) ∧ ∀ x ∈ l1, ¬ (x.2.2.1 = q.2.2.1 ∧ x.2.2.2 = q.2.2.2) := by
  have h1 := k.rise
  have h2 := k.keys
  rw [e] at h1 h2
  have a1 := List.pairwise_append.1 h1
  have a2 := List.pairwise_append.1 h2
  refine ⟨fun x hx z => ?_, fun x hx z => ?_, fun x hx => a2.2.2 x hx q (by simp)⟩
  · have := a1.2.2 x hx q (by simp); omega
  · have := (List.pairwise_cons.1 a1.2.1).1 x hx; omega

/-! ### the code's -/
def regT : List TypeId := [105, 99]
structure Cst (h0 h : Heap) (B : Nat) (c : Int) (b m1 m2 : Nat) (s : RS) : Prop where
  rg : ∃ L, Rg B c h b m1 m2 s.1 L ∧ L.map pr = s.2
  hB : h0.size ≤ B
abbrev CS (h0 : Heap) (m1 m2 : Nat) : Heap → Nat → Prop := Fs h0 [m1, m2] regT
section
variable {h0 h h1 h' : Heap} {B : Nat} {c : Int} {b m1 m2 bt : Nat} {s : RS} {S : Nat → Prop}
theorem Cst.sv (d : Cst h0 h B c b m1 m2 s) : Sv c s := by
  obtain ⟨⟨L, r, e⟩, _⟩ := d
  refine ⟨?_, ?_, fun q hq => ?_, fun q hq => ?_, ?_⟩
  · rw [← e, pw_map]; exact r.rise
  · rw [← e, pw_map]; exact r.keys
  · rw [← e] at hq; obtain ⟨x, hx, rfl⟩ := List.mem_map.1 hq; exact r.rf1 x hx
  · rw [← e] at hq; obtain ⟨x, hx, rfl⟩ := List.mem_map.1 hq; exact r.top x hx
  · have := r.bd; rw [← e, List.length_map]; exact ⟨this.1, this.2.1, this.2.2.1⟩
theorem Cst.ext (d : Cst h0 h B c b m1 m2 s) (a : Ext S h h1) (hS : ∀ q, S q → q ≠ m1 ∧ q ≠ m2 ∧ ¬ Ty (3 :: regT) h q) : Cst h0 h1 B c b m1 m2 s := by
  obtain ⟨⟨L, r, e⟩, hB⟩ := d
  refine ⟨⟨L, r.ext a (fun z => (hS _ z).2.2 ⟨_, _, r.blk, by simp [regT]⟩) (fun z => (hS _ z).1 rfl) (fun z => (hS _ z).2.1 rfl) (fun x hx => ⟨fun z => (hS _ z).2.2 ⟨_, _, r.recs x hx, by simp [regT]⟩, fun q hq z => ?_⟩), e⟩, hB⟩
  obtain ⟨cur, hc⟩ := own_ty (r.oid x hx) hq
  exact (hS _ z).2.2 ⟨_, _, hc, by simp⟩
theorem Cst.ext0 (d : Cst h0 h B c b m1 m2 s) (a : Ext No h h1) : Cst h0 h1 B c b m1 m2 s := d.ext a fun _ e => e.elim
theorem Cst.up (d : Cst h0 h B c b m1 m2 s) {c' : Int} (k1 : c ≤ c') (k2 : c' ≤ 1000000) : Cst h0 h B c' b m1 m2 s := by
  obtain ⟨⟨L, r, e⟩, hB⟩ := d
  exact ⟨⟨L, r.up k1 k2, e⟩, hB⟩
theorem Cst.maps (d : Cst h0 h B c b m1 m2 s) : (∃ es ck, h[m1]? = some (.map es ck)) ∧ ∃ es ck, h[m2]? = some (.map es ck) := by
  obtain ⟨⟨L, r, e⟩, _⟩ := d
  obtain ⟨_, ⟨_, _, e1, _⟩, _⟩ := r.mp1
  obtain ⟨_, ⟨_, _, e2, _⟩, _⟩ := r.mp2
  exact ⟨⟨_, _, e1⟩, _, _, e2⟩
/-- What the code's registry turns is no data. -/
theorem Cst.sf (d : Cst h0 h B c b m1 m2 s) : Sf h0 h (CS h0 m1 m2 h) := by
  obtain ⟨⟨es, ck, e1⟩, es2, ck2, e2⟩ := d.maps
  refine fs_sf (fun q hq => ?_) (by decide)
  simp only [List.mem_cons, List.not_mem_nil, or_false] at hq
  rcases hq with rfl | rfl
  · exact ty_map e1
  · exact ty_map e2
theorem cs_of {L : List Rn} {last : Int} (r : Rg B c h b m1 m2 last L) (hB : h0.size ≤ B) {q : Nat} (k : q = b ∨ q = m1 ∨ q = m2 ∨ ∃ e ∈ L, q = e.p) : CS h0 m1 m2 h q := by
  have lo := r.lo
  rcases k with rfl | rfl | rfl | ⟨e, he, rfl⟩
  · exact ⟨by omega, .inr ⟨_, _, r.blk, by simp [regT]⟩⟩
  · exact ⟨by omega, .inl (by simp)⟩
  · exact ⟨by omega, .inl (by simp)⟩
  · exact ⟨by have := lo.2.2.2 e he; omega, .inr ⟨_, _, r.recs e he, by simp [regT]⟩⟩
theorem c_put (d : Cst h0 h B c b m1 m2 s) (t : List UInt8) (o : List Int) {v : Value} (hvS : ∀ h', Ext (CS h0 m1 m2 h) h h' → Rd h' v 1 o.length (ints o)) (hol : o.length ≤ maxLen) (hc : c + 1 ≤ 1000000) :
    CallsH Tryz.prog 21 ⟨[ptE b, .agg ⟨[St t, v]⟩]⟩ h fun u h' => u = In (putS s t o).2 ∧ Cst h0 h' B (c + 1) b m1 m2 (putS s t o).1 ∧ Ext (CS h0 m1 m2 h) h h' := by
  have sv := d.sv
  obtain ⟨⟨L, r, e⟩, hB⟩ := d
  have hv := hvS h (.refl _ _)
  by_cases hf : fairS t o = true
  · unfold putS
    rw [if_pos hf]
    by_cases hm : ∃ x ∈ L, x.t = t ∧ x.o = o
    · obtain ⟨x, hx, rfl, rfl⟩ := hm
      obtain ⟨L1, L2, rfl⟩ := split_of hx
      have es : s.2 = L1.map pr ++ pr x :: L2.map pr := by rw [← e]; simp
      obtain ⟨u1, u2, u3⟩ := sv.split es
      have hfi : s.2.find? (isS x.t x.o) = some (pr x) := by
        rw [es]
        refine find_mid (by simp [isS]) fun y hy => ?_
        have := u3 y hy
        simpa [isS] using this
      rw [hfi]
      dsimp only
      refine (rg_put_old r hv hc).mono fun u h' ⟨e1, e2, e3⟩ => ⟨e1, ⟨⟨_, e2, ?_⟩, hB⟩, e3.mono fun q _ z => cs_of r hB (.inr (.inr (.inr ⟨x, hx, z⟩)))⟩
      rw [es, bump_mid rfl u1 u2]
      simp
    · have hfi : s.2.find? (isS t o) = none := List.find?_eq_none.2 fun y hy => by
        rw [← e] at hy
        obtain ⟨x, hx, rfl⟩ := List.mem_map.1 hy
        simp only [isS, decide_eq_true_eq]
        exact fun z => hm ⟨x, hx, z⟩
      rw [hfi]
      dsimp only
      have hsub : ∀ q, (q = b ∨ q = m1 ∨ q = m2) → CS h0 m1 m2 h q := fun q z => cs_of r hB (by rcases z with z | z | z; exact .inl z; exact .inr (.inl z); exact .inr (.inr (.inl z)))
      refine (rg_put_newS r hf (fun x hx z => hm ⟨x, hx, z⟩) (fun h' x => hvS h' (x.mono fun q _ z => hsub q z)) hc).mono fun u h' ⟨e1, ⟨p, v', e2⟩, e3⟩ => ⟨e1, ⟨⟨_, e2, ?_⟩, hB⟩, e3.mono fun q _ z => hsub q z⟩
      rw [← e]; simp
  · have hf' : fairS t o = false := by simpa using hf
    unfold putS
    rw [if_neg hf]
    exact (rg_put_zero r hf' hv hol).mono fun u h' ⟨e1, e2⟩ => ⟨e1, ⟨⟨L, (r.ext0 e2).up (by omega) hc, e⟩, hB⟩, fs_no e2⟩
theorem c_ref (d : Cst h0 h B c b m1 m2 s) (id : Int) (hc : c + 1 ≤ 1000000) :
    CallsH Tryz.prog 87 ⟨[ptE b, In id]⟩ h fun u h' => (∃ x, u = .bool x) ∧ Cst h0 h' B (c + 1) b m1 m2 (refS s id) ∧ Ext (CS h0 m1 m2 h) h h' := by
  have sv := d.sv
  obtain ⟨⟨L, r, e⟩, hB⟩ := d
  by_cases hm : ∃ x ∈ L, x.id = id
  · obtain ⟨x, hx, rfl⟩ := hm
    obtain ⟨L1, L2, rfl⟩ := split_of hx
    have es : s.2 = L1.map pr ++ pr x :: L2.map pr := by rw [← e]; simp
    obtain ⟨u1, u2, u3⟩ := sv.split es
    refine (rg_ref r hc).mono fun u h' ⟨e1, e2, e3⟩ => ⟨⟨_, e1⟩, ⟨⟨_, e2, ?_⟩, hB⟩, e3.mono fun q _ z => cs_of r hB (.inr (.inr (.inr ⟨x, hx, z⟩)))⟩
    show _ = bumpS x.id s.2
    rw [es, bump_mid (q := pr x) rfl u1 u2]
    simp
  · refine (rg_ref_no r fun x hx z => hm ⟨x, hx, z⟩).mono fun u h' ⟨e1, e2⟩ => ⟨⟨_, e1⟩, ⟨⟨L, by rw [e2]; exact r.up (by omega) hc, ?_⟩, hB⟩, by rw [e2]; exact .refl _ _⟩
    show _ = bumpS id s.2
    rw [bump_no fun y hy => ?_, e]
    rw [← e] at hy
    obtain ⟨x, hx, rfl⟩ := List.mem_map.1 hy
    exact fun z => hm ⟨x, hx, z⟩
theorem c_get (d : Cst h0 h B c b m1 m2 s) (id : Int) :
    CallsH Tryz.prog 92 ⟨[ptE b, In id]⟩ h fun u h' => ∃ v', u = .tuple ⟨[.agg ⟨[St ((getS s id).map (·.1) |>.getD []), v']⟩, .bool (getS s id).isSome]⟩ ∧ Own h' v' 3 1 ((getS s id).map (·.2) |>.getD []).length (ints ((getS s id).map (·.2) |>.getD [])) ∧ Ext No h h' ∧ ∀ q, v'.ownBlock = some q → h.size ≤ q := by
  have sv := d.sv
  obtain ⟨⟨L, r, e⟩, hB⟩ := d
  by_cases hm : ∃ x ∈ L, x.id = id
  · obtain ⟨x, hx, rfl⟩ := hm
    obtain ⟨L1, L2, rfl⟩ := split_of hx
    have es : s.2 = L1.map pr ++ pr x :: L2.map pr := by rw [← e]; simp
    obtain ⟨u1, u2, u3⟩ := sv.split es
    have hg : getS s x.id = some (x.t, x.o) := by
      unfold getS
      rw [es, find_mid (a := pr x) (by simp [idS]) fun y hy => by simpa [idS] using u1 y hy]
      rfl
    rw [hg]
    exact rg_get r hx
  · have hg : getS s id = none := by
      unfold getS
      rw [List.find?_eq_none.2 fun y hy => ?_]
      · rfl
      · rw [← e] at hy
        obtain ⟨x, hx, rfl⟩ := List.mem_map.1 hy
        simp only [idS, decide_eq_true_eq]
        exact fun z => hm ⟨x, hx, z⟩
    rw [hg]
    exact (rg_get_no r fun x hx z => hm ⟨x, hx, z⟩).mono fun u h' ⟨e1, e2⟩ => ⟨_, e1, Own.nil _ _ _, e2, by simp [Value.ownBlock]⟩
theorem c_refs (d : Cst h0 h B c b m1 m2 s) (id : Int) :
    CallsH Tryz.prog 15 ⟨[ptE b, In id]⟩ h fun u h' => u = In (refsS s id) ∧ h' = h := by
  have sv := d.sv
  obtain ⟨⟨L, r, e⟩, hB⟩ := d
  unfold refsS
  by_cases hm : ∃ x ∈ L, x.id = id
  · obtain ⟨x, hx, rfl⟩ := hm
    have hr := rg_refs r hx
    obtain ⟨L1, L2, rfl⟩ := split_of hx
    have es : s.2 = L1.map pr ++ pr x :: L2.map pr := by rw [← e]; simp
    obtain ⟨u1, u2, u3⟩ := sv.split es
    rw [es, find_mid (a := pr x) (by simp [idS]) fun y hy => by simpa [idS] using u1 y hy]
    exact hr
  · rw [List.find?_eq_none.2 fun y hy => ?_]
    · exact rg_refs_no r fun x hx z => hm ⟨x, hx, z⟩
    · rw [← e] at hy
      obtain ⟨x, hx, rfl⟩ := List.mem_map.1 hy
      simp only [idS, decide_eq_true_eq]
      exact fun z => hm ⟨x, hx, z⟩

/-! ### the document's -/
def docT : List TypeId := [54, 101]
structure Dst (h0 h : Heap) (B bt : Nat) (s : RS) : Prop where
  rf : ∃ v D, R14 B h bt v s.1 D ∧ D.map pr = s.2
  hB : h0.size ≤ B
abbrev DS (h0 : Heap) : Heap → Nat → Prop := Fs h0 [] docT
theorem Dst.ext (d : Dst h0 h B bt s) (a : Ext S h h1) (hS : ∀ q, S q → ¬ Ty (3 :: docT) h q) : Dst h0 h1 B bt s := by
  obtain ⟨⟨v, D, r, e⟩, hB⟩ := d
  refine ⟨⟨v, D, r.ext a fun q hq z => hS q z ?_, e⟩, hB⟩
  rcases hq with rfl | hq | ⟨x, hx, hq⟩
  · exact ⟨_, _, r.blk, by simp [docT]⟩
  · obtain ⟨cur, hc⟩ := own_ty r.own hq
    exact ⟨_, _, hc, by simp [docT]⟩
  · obtain ⟨cur, hc⟩ := own_ty (r.oid x hx) hq
    exact ⟨_, _, hc, by simp⟩
theorem Dst.ext0 (d : Dst h0 h B bt s) (a : Ext No h h1) : Dst h0 h1 B bt s := d.ext a fun _ e => e.elim
theorem ds_of {v : Value} {last : Int} {D : List Rn} (r : R14 B h bt v last D) (hB : h0.size ≤ B) {q : Nat} (k : q = bt ∨ v.ownBlock = some q) : DS h0 h q := by
  rcases k with rfl | k
  · exact ⟨by have := r.lo.1; omega, .inr ⟨_, _, r.blk, by simp [docT]⟩⟩
  · obtain ⟨cur, hc⟩ := own_ty r.own k
    exact ⟨by have := r.lo.2.1 q k; omega, .inr ⟨_, _, hc, by simp [docT]⟩⟩
theorem d_put (d : Dst h0 h B bt s) (sv : Sv c s) (hc : c + 1 ≤ 1000000) (x0 : Ext No h0 h) (t : List UInt8) (o : List Int) {w : Value} (ok : stOk h0 (t, w, o)) :
    CallsH Tryz.prog 22 ⟨[ptE bt, .agg ⟨[St t, w]⟩]⟩ h fun u h' => u = In (putS s t o).2 ∧ Dst h0 h' B bt (putS s t o).1 ∧ Ext (DS h0 h) h h' := by
  obtain ⟨⟨v, D, r, e⟩, hB⟩ := d
  have okh : stOk h (t, w, o) := ⟨ok.1.ext0 x0, ok.2⟩
  by_cases hf : fairS t o = true
  · unfold putS
    rw [if_pos hf]
    by_cases hm : ∃ x ∈ D, x.t = t ∧ x.o = o
    · obtain ⟨x, hx, rfl, rfl⟩ := hm
      obtain ⟨L1, L2, rfl⟩ := List.append_of_mem hx
      have es : s.2 = L1.map pr ++ pr x :: L2.map pr := by rw [← e]; simp
      obtain ⟨u1, u2, u3⟩ := sv.split es
      have hfi : s.2.find? (isS x.t x.o) = some (pr x) := by
        rw [es]
        refine find_mid (by simp [isS]) fun y hy => ?_
        have := u3 y hy
        simpa [isS] using this
      rw [hfi]
      dsimp only
      have hrf := sv.rf (pr x) (by rw [es]; simp)
      refine (put14_old r (x.t, w, x.o) okh hf ⟨rfl, rfl⟩ (fun y hy z => ?_) (fun y hy => u1 (pr y) (List.mem_map_of_mem hy)) ⟨hrf.1, by have := hrf.2; show x.rf ≤ _; have : x.rf ≤ c := hrf.2; omega⟩).mono fun u h' ⟨e1, e2, e3⟩ => ⟨e1, ⟨⟨_, _, e2, ?_⟩, hB⟩, e3.mono fun q _ z => ds_of r hB (.inr z)⟩
      · rcases List.mem_append.1 hy with h1 | h1
        · exact absurd z (u3 (pr y) (List.mem_map_of_mem h1))
        · rcases List.mem_cons.1 h1 with rfl | h2
          · rfl
          · have hk := sv.keys
            rw [es] at hk
            exact absurd ⟨z.1.symm, z.2.symm⟩ ((List.pairwise_cons.1 (List.pairwise_append.1 hk).2.1).1 (pr y) (List.mem_map_of_mem h2))
      · rw [es, bump_mid rfl u1 u2]
        simp
    · have hno : ∀ y ∈ D, ¬ (y.t = t ∧ y.o = o) := fun y hy z => hm ⟨y, hy, z⟩
      have hfi : s.2.find? (isS t o) = none := List.find?_eq_none.2 fun y hy => by
        rw [← e] at hy
        obtain ⟨x, hx, rfl⟩ := List.mem_map.1 hy
        simp only [isS, decide_eq_true_eq]
        exact hno x hx
      rw [hfi]
      dsimp only
      have bd := sv.bd
      have hlD : D.length = s.2.length := by rw [← e]; simp
      refine (put14_new r (t, w, o) ok x0 hB hf hno (by omega) (by omega)).mono fun u h' ⟨e1, ⟨v', v2, e2⟩, e3⟩ => ⟨e1, ⟨⟨_, _, e2, ?_⟩, hB⟩, e3.mono fun q _ z => ds_of r hB z⟩
      rw [← e]; simp
  · have hf' : fairS t o = false := by simpa using hf
    unfold putS
    rw [if_neg hf]
    exact (put14_zero r (t, w, o) okh hf').mono fun u h' ⟨e1, e2⟩ => ⟨e1, ⟨⟨v, D, r.ext0 e2, e⟩, hB⟩, fs_no e2⟩
end
end Go.Proofs.YtggmocdbfbhklaaGreat


/-
  REWRITE (layer 24): what a server is told, as plain data; the code's small functions.
-/
namespace Go.Proofs.YtggmocdbfbhklaaGreat
open Go Go.RK

abbrev FmP := Int × Int × List UInt8 × List UInt8 × List UInt8 × List Int × List Int × List Int × List (Bool × List UInt8) × Int
abbrev EnP := Int × Bool × List UInt8 × List UInt8 × List TOp × List TOp × List COp × List UInt8
section
variable {h0 h h1 h' : Heap} {S : Nat → Prop}
theorem lst_blk {q : Nat} {cs : Array Value} {T : TypeId} (hb : h[q]? = some (.cells cs T (0, 0))) (hT : T ∈ dataT) : Lst h0 h fun g => g[q]? = some (.cells cs T (0, 0)) := fun _ _ x s => x.obj hb fun e => (s q e).2 ⟨_, _, hb, hT⟩
/-- Messages and entries that were made here. -/
structure TG (h0 h : Heap) (vF vE : Value) (L : List Fm) (M : List En) (h' : Heap) : Prop where
  F : Own h' vF 27 10 L.length (L.flatMap Fm.cells)
  E : Own h' vE 44 8 M.length (M.flatMap En.cells)
  lF : L.length ≤ 3
  lE : M.length ≤ 3
  okF : ∀ f ∈ L, Lst h0 h' fun g => f.ok g
  okE : ∀ e ∈ M, Lst h0 h' fun g => e.ok g
  fF : ∀ k, vF.ownBlock = some k → h.size ≤ k
  fE : ∀ k, vE.ownBlock = some k → h.size ≤ k
def Gives (h0 h : Heap) (F : List FmP) (E : List EnP) (u : Value) (h' : Heap) : Prop := ∃ vF vE L M, u = .tuple ⟨[vF, vE]⟩ ∧ TG h0 h vF vE L M h' ∧ L.map Fm.pl = F ∧ M.map En.pl = E
theorem Gives.nil : Gives h0 h [] [] (.tuple ⟨[.slice none 0 0, .slice none 0 0]⟩) h' := ⟨_, _, [], [], rfl, ⟨Own.nil _ _ _, Own.nil _ _ _, by simp, by simp, by simp, by simp, by simp [Value.ownBlock], by simp [Value.ownBlock]⟩, rfl, rfl⟩
theorem Gives.from {F : List FmP} {E : List EnP} {u : Value} (k : Gives h0 h1 F E u h') (x : h.size ≤ h1.size) : Gives h0 h F E u h' := by
  obtain ⟨vF, vE, L, M, e, t, p1, p2⟩ := k
  exact ⟨vF, vE, L, M, e, ⟨t.F, t.E, t.lF, t.lE, t.okF, t.okE, fun k z => Nat.le_trans x (t.fF k z), fun k z => Nat.le_trans x (t.fE k z)⟩, p1, p2⟩
theorem Gives.stay {F : List FmP} {E : List EnP} {u : Value} (k : Gives h0 h F E u h') (x : Ext No h' h1) : Gives h0 h F E u h1 := by
  obtain ⟨vF, vE, L, M, e, t, p1, p2⟩ := k
  exact ⟨vF, vE, L, M, e, ⟨t.F.ext x (fun _ _ => nos), t.E.ext x (fun _ _ => nos), t.lF, t.lE, fun f hf => (t.okF f hf).ext0 x, fun f hf => (t.okE f hf).ext0 x, t.fF, t.fE⟩, p1, p2⟩
theorem own_one {q : Nat} {T : TypeId} {sz : Nat} {cs : List Value} (hb : h[q]? = some (.cells ⟨cs⟩ T (0, 0))) (hl : cs.length = sz) : Own h (.slice (some ⟨q, 0, none⟩) 1 1) T sz 1 cs := own_blk hb (by omega) (by decide)
/-- One message with its entry. -/
theorem gives_one {p q : Nat} {f : Fm} {e : En} (hp : h'[p]? = some (.cells ⟨f.cells⟩ 27 (0, 0))) (hq : h'[q]? = some (.cells ⟨e.cells⟩ 44 (0, 0))) (hf : Lst h0 h' fun g => f.ok g) (he : Lst h0 h' fun g => e.ok g) (p0 : h.size ≤ p) (q0 : h.size ≤ q) :
    Gives h0 h [f.pl] [e.pl] (.tuple ⟨[.slice (some ⟨p, 0, none⟩) 1 1, .slice (some ⟨q, 0, none⟩) 1 1]⟩) h' :=
  ⟨_, _, [f], [e], rfl, ⟨by simpa using own_one hp (Fm.len _), by simpa using own_one hq (En.len _), by simp, by simp, fun x hx => by obtain rfl := List.mem_singleton.1 hx; exact hf, fun x hx => by obtain rfl := List.mem_singleton.1 hx; exact he, fun k z => by simp [Value.ownBlock] at z; omega, fun k z => by simp [Value.ownBlock] at z; omega⟩, rfl, rfl⟩
/-- An entry without rows. -/
def zE (k : Int) (a b : List UInt8) : En := ⟨k, false, a, b, .slice none 0 0, [], .slice none 0 0, [], .slice none 0 0, [], .slice none 0 0, []⟩
theorem tops_nil (h : Heap) : Tops h (.slice none 0 0) [] := ⟨Rd.nil _ _, by simp [maxLen]⟩
theorem ops_nil (h : Heap) : Ops h (.slice none 0 0) [] := ⟨Rd.nil _ _, by simp [reachBytes]⟩
theorem byt_nil (h : Heap) : Rd h (.slice none 0 0) 1 ([] : List UInt8).length (bys []) ∧ ([] : List UInt8).length ≤ reachBytes := ⟨Rd.nil _ _, by simp [reachBytes]⟩
theorem zE_ok (k : Int) (a b : List UInt8) (h : Heap) : (zE k a b).ok h := ⟨tops_nil h, tops_nil h, ops_nil h, byt_nil h⟩
theorem tops_one {q : Nat} {x : Bool} {n : List UInt8} {id : Int} (hb : h[q]? = some (.cells ⟨[.bool x, St n, In id]⟩ 89 (0, 0))) : Tops h (.slice (some ⟨q, 0, none⟩) 1 1) [(x, n, id, ())] := ⟨rd_blk hb rfl, by simp [maxLen]⟩
end

/-! ### the code's small functions -/
def jC (f : Fm) (b : Nat) (vs : Value) (most id : Int) (kn : Bool) : List Value := f.cells ++ [ptE b, vs, In most, In id, .bool kn]
section
variable {h0 h : Heap} {f : Fm} {b : Nat} {ss : Option Addr} {sn sc : Nat} {most id : Int} {kn : Bool}
set_option maxHeartbeats 2000000 in
set_option maxRecDepth 100000 in
theorem as24 (hf : f.ok h0) (nm : List UInt8) : CallsH Tryz.prog 84 ⟨[.agg ⟨jC f b (.slice ss sn sc) most id kn⟩, St nm]⟩ h fun u h' => u = .agg ⟨({ f with name := nm } : Fm).cells⟩ ∧ Ext No h h' := by
  obtain ⟨⟨e1, _⟩, ⟨e2, _⟩, ⟨e3, _⟩, e4, _⟩ := hf
  obtain ⟨k, w, n, p, t, vo, o, vf, fs, vs, rs, vp, ps, mx⟩ := f
  dsimp only at e1 e2 e3 e4
  obtain ⟨_, _, rfl, _⟩ := e1
  obtain ⟨_, _, rfl, _⟩ := e2
  obtain ⟨_, _, rfl, _⟩ := e3
  obtain ⟨_, _, rfl, _⟩ := e4
  dsimp only [jC, Fm.cells, List.cons_append, List.nil_append, ptE]
  refine calls [(0, _), (1, _)] Tryz.func84 rfl Tryz.ntmps84 rfl ⟨rfl, rfl, trivial⟩ ?_
  all_goals (refine WC.sr ?_)
  all_goals (refine WL.stepR (okE_box rfl) rfl rfl rfl ?_
             rintro _ h1 ⟨b1, rfl, hg1, hb1, hx1⟩)
  all_goals (refine WL.stepR (okE_alloc (fun w => Tryz.zeroValue27 w)) rfl rfl rfl ?_
             rintro _ h2 ⟨b2, rfl, hg2, hb2, hx2⟩)
  all_goals (have hb12 := hx2.obj hb1 nos
             have hX2 := hx1.trans hx2)
  all_goals (refine Gn ?_)
  all_goals (refine WC.sr ?_)
  all_goals (refine Go ?_)
  all_goals (refine WL.step (ok_loadN (fun w => Tryz.isAgg27 w) (fun w => Tryz.sizeOf27 w) rfl rfl (by exact At.pre (xs := [_, _, _, _, _, _, _, _, _, _]) (ys := [_, _, _, _, _]) (At.of_block hb12))) rfl rfl rfl ?_)
  all_goals (refine WL.stepR (okE_alloc (fun w => Tryz.zeroValue27 w)) rfl rfl rfl ?_
             rintro _ h3 ⟨b3, rfl, hg3, hb3, hx3⟩)
  all_goals (refine WL.stepR0 (okE_storeW (fun w => Tryz.sizeOf27 w) rfl rfl rfl hb3 rfl (by simp [Value.oneCell'])) rfl rfl ?_
             rintro _ h4 ⟨hb34, hx4⟩)
  all_goals (have hb24 := hx4.obj (hx3.obj hb2 nos) (fun e => by have := lt_of_some hb2; omega)
             have hX4 : Ext No h h4 := (hX2.trans hx3).trans' hx4 (fun q hq e => by have := hX2.size; omega))
  all_goals (refine Gn ?_)
  all_goals (refine WC.sub [(1, _), (4, _), (5, _)] ⟨rfl, rfl, rfl, trivial⟩ ?_)
  all_goals (refine WC.sr ?_)
  all_goals (refine Go ?_)
  all_goals (refine WL.stepR0 (okE_store (fun w => Tryz.sizeOf9 w) rfl rfl hb34 (Nat.le_of_ble_eq_true rfl) rfl rfl) rfl rfl ?_
             rintro _ h5 ⟨hb35, hx5⟩)
  all_goals (have l2 := lt_of_some hb2
             have hb25 := hx5.obj hb24 (fun e => by omega)
             have hX5 : Ext No h h5 := hX4.trans' hx5 (fun q hq e => by have := hX2.size; omega))
  all_goals (refine Gn ?_)
  all_goals (refine WC.sr ?_)
  all_goals (refine WL.step (ok_loadN (fun w => Tryz.isAgg27 w) (fun w => Tryz.sizeOf27 w) rfl rfl (by exact At.of_block hb35)) rfl rfl rfl ?_)
  all_goals (refine WL.stepR0 (okE_storeW (fun w => Tryz.sizeOf27 w) rfl rfl rfl hb25 rfl (by simp [Value.oneCell'])) rfl rfl ?_
             rintro _ h6 ⟨hb26, hx6⟩)
  all_goals (refine Gn ?_)
  all_goals (refine WC.sub [(4, _)] ⟨rfl, trivial⟩ ?_)
  all_goals (refine WC.ret ?_)
  all_goals (repeat' (with_reducible first | refine thenP_r ?_ | refine blockP_r ?_))
  all_goals (refine retP_1 _ ⟨⟨_, rfl, ld_blk (fun w => Tryz.isAgg27 w) (fun w => Tryz.sizeOf27 w) hb26 rfl⟩, trivial⟩ ?_)
  all_goals (exact ⟨rfl, hX5.trans' hx6 (fun q hq e => by have := hx1.size; omega)⟩)
set_option maxHeartbeats 2000000 in
set_option maxRecDepth 100000 in
theorem entry24 (hf : f.ok h0) : CallsH Tryz.prog 61 ⟨[.agg ⟨jC f b (.slice ss sn sc) most id kn⟩]⟩ h fun u h' => u = .agg ⟨(zE (entK f.kind f.what) [] []).cells⟩ ∧ Ext No h h' := by
  have kk := fun h' => kind_code (h := h') f
  obtain ⟨⟨e1, _⟩, ⟨e2, _⟩, ⟨e3, _⟩, e4, _⟩ := hf
  obtain ⟨k, w, n, p, t, vo, o, vf, fs, vs, rs, vp, ps, mx⟩ := f
  dsimp only at e1 e2 e3 e4
  obtain ⟨_, _, rfl, _⟩ := e1
  obtain ⟨_, _, rfl, _⟩ := e2
  obtain ⟨_, _, rfl, _⟩ := e3
  obtain ⟨_, _, rfl, _⟩ := e4
  dsimp only [jC, Fm.cells, List.cons_append, List.nil_append, ptE, zE, En.cells] at kk ⊢
  refine calls [(0, _)] Tryz.func61 rfl Tryz.ntmps61 rfl ⟨rfl, trivial⟩ ?_
  all_goals (refine WC.sr ?_)
  all_goals (refine WL.stepR (okE_box rfl) rfl rfl rfl ?_
             rintro _ h1 ⟨b1, rfl, hg1, hb1, hx1⟩)
  all_goals (refine WL.stepR (okE_alloc (fun w => Tryz.zeroValue44 w)) rfl rfl rfl ?_
             rintro _ h2 ⟨b2, rfl, hg2, hb2, hx2⟩)
  all_goals (have hb12 := hx2.obj hb1 nos
             have hX2 := hx1.trans hx2)
  all_goals (refine Gn ?_)
  all_goals (refine WC.sr ?_)
  all_goals (refine Go ?_)
  all_goals (refine WL.step (ok_loadN (fun w => Tryz.isAgg27 w) (fun w => Tryz.sizeOf27 w) rfl rfl (by exact At.pre (xs := [_, _, _, _, _, _, _, _, _, _]) (ys := [_, _, _, _, _]) (At.of_block hb12))) rfl rfl rfl ?_)
  all_goals (refine WL.call (vs := [_]) rfl (fun a w => Tryz.call95 a w) rfl (kk _) rfl rfl rfl ?_
             rintro _ h3 ⟨rfl, hx3⟩)
  all_goals (refine WL.step (ok_buildF (vs := [_]) (cs := [_, _, _, _, _, _, _, _]) (fun | [a0] => [a0, (.bool false), (St []), (St []), (.slice none 0 0), (.slice none 0 0), (.slice none 0 0), (.slice none 0 0)] | _ => []) rfl rfl (by kernel_rfl)) rfl rfl rfl ?_)
  all_goals (refine WL.stepR0 (okE_storeW (fun w => Tryz.sizeOf44 w) rfl rfl rfl (hx3.obj hb2 nos) rfl (by simp [Value.oneCell'])) rfl rfl ?_
             rintro _ h4 ⟨hb4, hx4⟩)
  all_goals (refine Gn ?_)
  all_goals (refine WC.sub [(2, _)] ⟨rfl, trivial⟩ ?_)
  all_goals (refine WC.ret ?_)
  all_goals (repeat' (with_reducible first | refine thenP_r ?_ | refine blockP_r ?_))
  all_goals (refine retP_1 _ ⟨⟨_, rfl, ld_blk (fun w => Tryz.isAgg44 w) (fun w => Tryz.sizeOf44 w) hb4 rfl⟩, trivial⟩ ?_)
  all_goals (exact ⟨rfl, (hX2.trans hx3).trans' hx4 (fun q hq e => by have := hx1.size; omega)⟩)
set_option maxHeartbeats 2000000 in
set_option maxRecDepth 100000 in
theorem alone24 {e : En} {g : Heap} (hf : Lst h0 h fun g => f.ok g) (he : Lst h0 h fun g => e.ok g) (hg : g.size ≤ h.size) : CallsH Tryz.prog 62 ⟨[.agg ⟨f.cells⟩, .agg ⟨e.cells⟩]⟩ h fun u h' => Gives h0 g [f.pl] [e.pl] u h' ∧ Ext No h h' := by
  have kk := fun p q h' => gives_one (h0 := h0) (h := g) (h' := h') (p := p) (q := q) (f := f) (e := e)
  have hf1 := hf.now
  have he1 := he.now
  obtain ⟨⟨e1, _⟩, ⟨e2, _⟩, ⟨e3, _⟩, e4, _⟩ := id hf1
  obtain ⟨⟨q1, _⟩, ⟨q2, _⟩, ⟨q3, _⟩, q4, _⟩ := id he1
  obtain ⟨k, w, n, p, t, vo, o, vf, fs, vs, rs, vp, ps, mx⟩ := f
  obtain ⟨ek, hd, ef, et, vg, lg, vb, lb, vcc, lcc, vrr, lrr⟩ := e
  dsimp only at e1 e2 e3 e4 q1 q2 q3 q4
  obtain ⟨_, _, rfl, _⟩ := e1
  obtain ⟨_, _, rfl, _⟩ := e2
  obtain ⟨_, _, rfl, _⟩ := e3
  obtain ⟨_, _, rfl, _⟩ := e4
  obtain ⟨_, _, rfl, _⟩ := q1
  obtain ⟨_, _, rfl, _⟩ := q2
  obtain ⟨_, _, rfl, _⟩ := q3
  obtain ⟨_, _, rfl, _⟩ := q4
  dsimp only [Fm.cells, En.cells] at kk ⊢
  refine calls [(0, _), (1, _)] Tryz.func62 rfl Tryz.ntmps62 rfl ⟨rfl, rfl, trivial⟩ ?_
  all_goals (refine WC.sr ?_)
  all_goals (refine WL.stepR (okE_box rfl) rfl rfl rfl ?_
             rintro _ h1 ⟨b1, rfl, hg1, hb1, hx1⟩)
  all_goals (refine WL.stepR (okE_box rfl) rfl rfl rfl ?_
             rintro _ h2 ⟨b2, rfl, hg2, hb2, hx2⟩)
  all_goals (have hb12 := hx2.obj hb1 nos
             have hX2 := hx1.trans hx2
             have hs2 := hX2.size)
  all_goals (refine Go ?_)
  all_goals (refine WC.sub [(2, _), (3, _)] ⟨rfl, rfl, trivial⟩ ?_)
  all_goals (refine WC.seq ?_)
  all_goals (refine WC.drawH (fun h' => Ext No h2 h') 6 6 rfl fol ?_)
  all_goals (refine WH.tk 0 rfl (fun hq hC => ok_loadN (fun w => Tryz.isAgg27 w) (fun w => Tryz.sizeOf27 w) rfl rfl (by exact (At.of_block hb12).ext hC nos)) rfl rfl rfl ?_)
  all_goals (refine WH.tk 2 rfl (fun hq hC => ok_loadN (fun w => Tryz.isAgg44 w) (fun w => Tryz.sizeOf44 w) rfl rfl (by exact (At.of_block hb2).ext hC nos)) rfl rfl rfl ?_)
  all_goals (refine WH.two 1 3 (by kernel_rfl) (Br.out (i := 5003) ?_) (Br.out (i := 5004) ?_))
  all_goals (first | (fail_if_success refine goB 5003 ?_) | (
  refine goB 5003 ?_
  all_goals (refine Comes1.run rfl (okE_buildSlice (vs := [_]) (cs := [_, _, _, _, _, _, _, _, _, _]) (fun | [.agg ⟨[a0, a1, a2, a3, a4, a5, a6, a7, a8, a9]⟩] => [a0, a1, a2, a3, a4, a5, a6, a7, a8, a9] | _ => []) Tryz.underlying36 rfl rfl (by kernel_rfl)) rfl rfl rfl ?_ (fun _ => by kernel_rfl)
             rintro _ h3 ⟨b3, rfl, hg3, hb3, hx3⟩)
  all_goals (refine ⟨fun _ => by first | exact hx3 | exact hx4.trans hx3, ?_⟩)
  all_goals (have hY3 : Ext No h2 h3 := by first | exact hx3 | exact hx4.trans hx3)
  all_goals (refine WH.tk 4 rfl (fun hq hC => ok_assign rfl) rfl rfl rfl ?_)
  all_goals (refine WH.one 3 (by kernel_rfl) ?_)
  all_goals (refine Comes1.run rfl (okE_buildSlice (vs := [_]) (cs := [_, _, _, _, _, _, _, _]) (fun | [.agg ⟨[a0, a1, a2, a3, a4, a5, a6, a7]⟩] => [a0, a1, a2, a3, a4, a5, a6, a7] | _ => []) Tryz.underlying37 rfl rfl (by kernel_rfl)) rfl rfl rfl ?_ (fun _ => by kernel_rfl)
             rintro _ h4 ⟨b4, rfl, hg4, hb4, hx4⟩)
  all_goals (refine ⟨fun _ => by first | exact hx4 | exact hx3.trans hx4, ?_⟩)
  all_goals (have hY4 : Ext No h2 h4 := by first | exact hx4 | exact hx3.trans hx4)
  all_goals (refine WH.tk 5 rfl (fun hq hC => ok_assign rfl) rfl rfl rfl ?_)
  all_goals (refine WH.done (by kernel_rfl) ?_)
  skip))
  all_goals (first | (fail_if_success refine goB 5004 ?_) | (
  refine goB 5004 ?_
  all_goals (refine Comes1.run rfl (okE_buildSlice (vs := [_]) (cs := [_, _, _, _, _, _, _, _]) (fun | [.agg ⟨[a0, a1, a2, a3, a4, a5, a6, a7]⟩] => [a0, a1, a2, a3, a4, a5, a6, a7] | _ => []) Tryz.underlying37 rfl rfl (by kernel_rfl)) rfl rfl rfl ?_ (fun _ => by kernel_rfl)
             rintro _ h4 ⟨b4, rfl, hg4, hb4, hx4⟩)
  all_goals (refine ⟨fun _ => by first | exact hx4 | exact hx3.trans hx4, ?_⟩)
  all_goals (have hY4 : Ext No h2 h4 := by first | exact hx4 | exact hx3.trans hx4)
  all_goals (refine WH.one 1 (by kernel_rfl) ?_)
  all_goals (refine Comes1.run rfl (okE_buildSlice (vs := [_]) (cs := [_, _, _, _, _, _, _, _, _, _]) (fun | [.agg ⟨[a0, a1, a2, a3, a4, a5, a6, a7, a8, a9]⟩] => [a0, a1, a2, a3, a4, a5, a6, a7, a8, a9] | _ => []) Tryz.underlying36 rfl rfl (by kernel_rfl)) rfl rfl rfl ?_ (fun _ => by kernel_rfl)
             rintro _ h3 ⟨b3, rfl, hg3, hb3, hx3⟩)
  all_goals (refine ⟨fun _ => by first | exact hx3 | exact hx4.trans hx3, ?_⟩)
  all_goals (have hY3 : Ext No h2 h3 := by first | exact hx3 | exact hx4.trans hx3)
  all_goals (refine WH.tk 4 rfl (fun hq hC => ok_assign rfl) rfl rfl rfl ?_)
  all_goals (refine WH.tk 5 rfl (fun hq hC => ok_assign rfl) rfl rfl rfl ?_)
  all_goals (refine WH.done (by kernel_rfl) ?_)
  skip))
  all_goals (refine Gn ?_)
  all_goals (refine WC.sub [(4, _), (5, _)] ⟨rfl, rfl, trivial⟩ ?_)
  all_goals (refine WC.ret ?_)
  all_goals (repeat' (with_reducible first | refine thenP_r ?_ | refine blockP_r ?_))
  all_goals (refine retP_2 _ _ ⟨rfl, rfl, trivial⟩ ?_)
  all_goals (first
              | exact ⟨kk _ _ _ (hx4.obj hb3 nos) hb4 (hf.ext0 (hX2.trans hY4)) (he.ext0 (hX2.trans hY4)) (by omega) (by have := hx3.size; omega), hX2.trans hY4⟩
              | exact ⟨kk _ _ _ hb3 (hx3.obj hb4 nos) (hf.ext0 (hX2.trans hY3)) (he.ext0 (hX2.trans hY3)) (by have := hx4.size; omega) (by omega), hX2.trans hY3⟩)
end
end Go.Proofs.YtggmocdbfbhklaaGreat


/-
  REWRITE (layer 24): the code's P of a name that is there, and of another one.
-/
namespace Go.Proofs.YtggmocdbfbhklaaGreat
open Go Go.RK

def asP (p : FmP) (n : List UInt8) : FmP := (p.1, p.2.1, n, p.2.2.2)
def dupL : List UInt8 := ([95, 100, 117, 112] : List UInt8)
def noneL : List UInt8 := ([95, 110, 111, 110, 101] : List UInt8)
def preGood (p : FmP) (id : Int) : List TOp := [(true, p.2.2.1, id, ())]
def preBad (n : List UInt8) : List TOp := if n = [] then [(false, [], 0, ())] else []
/-- A P of a name that isn't there. -/
def preA (s : RS) (spec : List Int) (most : Int) (p : FmP) : RS × List FmP × List EnP :=
  let r := putS s p.2.2.2.2.1 p.2.2.2.2.2.1
  if r.2 = 0 then (r.1, [], [])
  else if r.2 ∈ spec then (r.1, [asP p []], [(2, false, [], [], preGood p r.2, preBad p.2.2.1, [(3, r.2, ())], [])])
  else (refS r.1 r.2, roomF spec most ++ [asP p (srvL r.2)], roomE spec most ++ [(2, false, [], [], preGood p r.2, preBad p.2.2.1, [(1, r.2, ())], [])])
set_option maxHeartbeats 2000000 in
set_option maxRecDepth 100000 in
theorem dup24 {h : Heap} : CallsH Tryz.prog 83 ⟨[]⟩ h fun u h' => u = St dupL ∧ h' = h := by
  refine calls [] Tryz.func83 rfl Tryz.ntmps83 rfl trivial ?_
  all_goals (refine WC.sr ?_)
  all_goals (refine Go ?_)
  all_goals (refine WC.sr ?_)
  all_goals (refine Go ?_)
  all_goals (refine WC.ret ?_)
  all_goals (repeat' (with_reducible first | refine thenP_r ?_ | refine blockP_r ?_))
  all_goals (refine retP_1 _ ⟨rfl, trivial⟩ ?_)
  all_goals (exact ⟨rfl, rfl⟩)
set_option maxHeartbeats 2000000 in
set_option maxRecDepth 100000 in
theorem none24 {h : Heap} : CallsH Tryz.prog 91 ⟨[]⟩ h fun u h' => u = St noneL ∧ h' = h := by
  refine calls [] Tryz.func91 rfl Tryz.ntmps91 rfl trivial ?_
  all_goals (refine WC.sr ?_)
  all_goals (refine Go ?_)
  all_goals (refine WC.sr ?_)
  all_goals (refine Go ?_)
  all_goals (refine WC.ret ?_)
  all_goals (repeat' (with_reducible first | refine thenP_r ?_ | refine blockP_r ?_))
  all_goals (refine retP_1 _ ⟨rfl, trivial⟩ ?_)
  all_goals (exact ⟨rfl, rfl⟩)
set_option maxHeartbeats 2000000 in
set_option maxRecDepth 100000 in
theorem touch24 {h : Heap} (id : Int) : CallsH Tryz.prog 86 ⟨[In id]⟩ h fun u h' => ∃ q, u = .slice (some ⟨q, 0, none⟩) 1 1 ∧ h'[q]? = some (.cells ⟨[In 3, In id]⟩ 129 (0, 0)) ∧ h.size ≤ q ∧ Ext No h h' := by
  refine calls [(0, _)] Tryz.func86 rfl Tryz.ntmps86 rfl ⟨rfl, trivial⟩ ?_
  all_goals (refine WC.sr ?_)
  all_goals (refine Go ?_)
  all_goals (refine WC.sr ?_)
  all_goals (refine Go ?_)
  all_goals (refine WL.step (ok_buildF (vs := [_, _]) (cs := [_, _]) (fun | [a0, a1] => [a0, a1] | _ => []) rfl rfl (by kernel_rfl)) rfl rfl rfl ?_)
  all_goals (refine WL.stepR (okE_buildSlice (vs := [_]) (cs := [_, _]) (fun | [.agg ⟨[a0, a1]⟩] => [a0, a1] | _ => []) Tryz.underlying41 rfl rfl (by kernel_rfl)) rfl rfl rfl ?_
             rintro _ h1 ⟨b1, rfl, hg1, hb1, hx1⟩)
  all_goals (refine Go ?_)
  all_goals (refine WC.sub [(2, _)] ⟨rfl, trivial⟩ ?_)
  all_goals (refine WC.ret ?_)
  all_goals (repeat' (with_reducible first | refine thenP_r ?_ | refine blockP_r ?_))
  all_goals (refine retP_1 _ ⟨rfl, trivial⟩ ?_)
  all_goals (exact ⟨_, rfl, hb1, hg1, hx1⟩)
set_option maxHeartbeats 2000000 in
set_option maxRecDepth 100000 in
theorem add24 {h : Heap} (id : Int) : CallsH Tryz.prog 88 ⟨[In id]⟩ h fun u h' => ∃ q, u = .slice (some ⟨q, 0, none⟩) 1 1 ∧ h'[q]? = some (.cells ⟨[In 1, In id]⟩ 129 (0, 0)) ∧ h.size ≤ q ∧ Ext No h h' := by
  refine calls [(0, _)] Tryz.func88 rfl Tryz.ntmps88 rfl ⟨rfl, trivial⟩ ?_
  all_goals (refine WC.sr ?_)
  all_goals (refine Go ?_)
  all_goals (refine WC.sr ?_)
  all_goals (refine Go ?_)
  all_goals (refine WL.step (ok_buildF (vs := [_, _]) (cs := [_, _]) (fun | [a0, a1] => [a0, a1] | _ => []) rfl rfl (by kernel_rfl)) rfl rfl rfl ?_)
  all_goals (refine WL.stepR (okE_buildSlice (vs := [_]) (cs := [_, _]) (fun | [.agg ⟨[a0, a1]⟩] => [a0, a1] | _ => []) Tryz.underlying41 rfl rfl (by kernel_rfl)) rfl rfl rfl ?_
             rintro _ h1 ⟨b1, rfl, hg1, hb1, hx1⟩)
  all_goals (refine Go ?_)
  all_goals (refine WC.sub [(2, _)] ⟨rfl, trivial⟩ ?_)
  all_goals (refine WC.ret ?_)
  all_goals (repeat' (with_reducible first | refine thenP_r ?_ | refine blockP_r ?_))
  all_goals (refine retP_1 _ ⟨rfl, trivial⟩ ?_)
  all_goals (exact ⟨_, rfl, hb1, hg1, hx1⟩)
/-- What a job stands on. -/
structure JH (h0 h : Heap) (B : Nat) (c : Int) (b m1 m2 : Nat) (s : RS) (f : Fm) (v : Value) (spec : List Int) : Prop where
  d : Cst h0 h B c b m1 m2 s
  x0 : Ext No h0 h
  f : Lst h0 h fun g => f.ok g
  sp : Lst h0 h fun g => Rd g v 1 spec.length (ints spec)
  sl : spec.length ≤ 40
  cc : 0 ≤ c ∧ c + 2 ≤ 1000000
section
variable {h0 h h1 : Heap} {B : Nat} {c : Int} {b m1 m2 : Nat} {s : RS} {f : Fm} {v : Value} {ss : Option Addr} {sn sc : Nat} {spec : List Int} {most jd : Int} {kn : Bool}
theorem Cst.off (d : Cst h0 h B c b m1 m2 s) {q : Nat} {cs : Array Value} {T : TypeId} (hb : h[q]? = some (.cells cs T (0, 0))) (hT : T ∉ regT) : ¬ CS h0 m1 m2 h q := fun e => e.2.elim (fun z => by
    obtain ⟨⟨es, ck, e1⟩, es2, ck2, e2⟩ := d.maps
    simp only [List.mem_cons, List.not_mem_nil, or_false] at z
    rcases z with rfl | rfl
    · rw [e1] at hb; cases hb
    · rw [e2] at hb; cases hb) (fun ty => hT (ty_one hb ty))
theorem JH.ext0 (k : JH h0 h B c b m1 m2 s f v spec) (x : Ext No h h1) : JH h0 h1 B c b m1 m2 s f v spec := ⟨k.d.ext0 x, k.x0.trans x, k.f.ext0 x, k.sp.ext0 x, k.sl, k.cc⟩
theorem Fm.ok.named (k : f.ok h) (n : List UInt8) : ({ f with name := n } : Fm).ok h := ⟨k.1, k.2, k.3, k.4⟩
set_option maxHeartbeats 2000000 in
set_option maxRecDepth 100000 in
theorem again24 (k : JH h0 h B c b m1 m2 s f (.slice ss sn sc) spec) (hk : f.kind = 80) : CallsH Tryz.prog 56 ⟨[.agg ⟨jC f b (.slice ss sn sc) most jd kn⟩]⟩ h fun u h' => Gives h0 h [asP f.pl dupL] [(zE 2 dupL f.name).pl] u h' ∧ Ext No h h' := by
  have hf := k.f
  have ka := fun h' nm => as24 (h := h') (b := b) (ss := ss) (sn := sn) (sc := sc) (most := most) (id := jd) (kn := kn) hf.now nm
  have ke := fun h' => entry24 (h := h') (b := b) (ss := ss) (sn := sn) (sc := sc) (most := most) (id := jd) (kn := kn) hf.now
  have kl := fun h' (x : Ext No h h') => alone24 (h0 := h0) (f := { f with name := dupL }) (e := zE 2 dupL f.name) (g := h) ((hf.ext0 x).mono fun _ z => z.named _) (lst_all (zE_ok _ _ _)) x.size
  obtain ⟨⟨e1, _⟩, ⟨e2, _⟩, ⟨e3, _⟩, e4, _⟩ := hf.now
  clear hf k
  obtain ⟨k, w, n, p, t, vo, o, vf, fs, vs, rs, vp, ps, mx⟩ := f
  dsimp only at e1 e2 e3 e4 hk
  subst hk
  obtain ⟨_, _, rfl, _⟩ := e1
  obtain ⟨_, _, rfl, _⟩ := e2
  obtain ⟨_, _, rfl, _⟩ := e3
  obtain ⟨_, _, rfl, _⟩ := e4
  dsimp only [jC, Fm.cells, List.cons_append, List.nil_append, ptE, zE, En.cells, entK] at ka ke kl ⊢
  refine calls [(0, _)] Tryz.func56 rfl Tryz.ntmps56 rfl ⟨rfl, trivial⟩ ?_
  all_goals (refine WC.sr ?_)
  all_goals (refine WL.stepR (okE_box rfl) rfl rfl rfl ?_
             rintro _ h1 ⟨b1, rfl, hg1, hb1, hx1⟩)
  all_goals (refine Go ?_)
  all_goals (refine WC.sr ?_)
  all_goals (refine WL.step (ok_loadN (fun w => Tryz.isAgg74 w) (fun w => Tryz.sizeOf74 w) rfl rfl (by exact At.of_block hb1)) rfl rfl rfl ?_)
  all_goals (refine WL.call (vs := [_]) rfl (fun a w => Tryz.call61 a w) rfl (ke _) rfl rfl rfl ?_
             rintro _ h2 ⟨rfl, hx2⟩)
  all_goals (refine WL.stepR (okE_alloc (fun w => Tryz.zeroValue44 w)) rfl rfl rfl ?_
             rintro _ h3 ⟨b4, rfl, hg4, hb4, hx3⟩)
  all_goals (refine WL.stepR0 (okE_storeW (fun w => Tryz.sizeOf44 w) rfl rfl rfl hb4 rfl (by simp [Value.oneCell'])) rfl rfl ?_
             rintro _ h4 ⟨hb44, hx4⟩)
  all_goals (have l1 := lt_of_some hb1
             have hs2 := hx2.size
             have hs1 := hx1.size
             have hb14 := hx4.obj ((hx2.trans hx3).obj hb1 nos) (fun e => by omega)
             have n14 : ¬ b1 = b4 := by omega)
  all_goals (refine Gn ?_)
  all_goals (refine WC.sub [(1, _), (4, _)] ⟨rfl, rfl, trivial⟩ ?_)
  all_goals (refine WC.seq ?_)
  all_goals (refine WC.drawH (fun h' => Ext (fun q => q = b4) h4 h') 8 8 rfl fol ?_)
  all_goals (refine WH.tk 1 rfl (fun hq hC => ok_fieldAddr rfl Tryz.underlying74 rfl (fun w => Tryz.sizeOf27 w)) rfl rfl rfl ?_)
  all_goals (refine WH.tk 2 rfl (fun hq hC => ok_fieldAddr rfl Tryz.underlying27 rfl (fun w => Tryz.sizeOf9 w)) rfl rfl rfl ?_)
  all_goals (refine WH.tk 3 rfl (fun hq hC => ok_load (fun w => Tryz.isAgg9 w) rfl (by first | exact hC.cell (by first | exact cell_blk hb14 rfl | assumption | exact cell_blk (by assumption) rfl) n14)) rfl rfl rfl ?_)
  all_goals (refine WH.one 0 (by kernel_rfl) ?_)
  all_goals (refine Comes1.call (vs := []) rfl rfl (fun a w => Tryz.call83 a w) rfl (dup24) rfl rfl rfl ?_ (fun _ => by kernel_rfl)
             rintro _ hz ⟨rfl, _⟩
             subst hz)
  all_goals (refine ⟨fun _ => .refl _ _, ?_⟩)
  all_goals (refine WH.tk 4 rfl (fun hq hC => ok_fieldAddr rfl Tryz.underlying44 rfl (fun w => Tryz.sizeOf9 w)) rfl rfl rfl ?_)
  all_goals (refine WH.one 5 (by kernel_rfl) ?_)
  all_goals (refine Comes1.run0 rfl (okE_store (fun w => Tryz.sizeOf9 w) rfl rfl hb44 (Nat.le_of_ble_eq_true rfl) rfl rfl) rfl rfl ?_ (fun _ => by kernel_rfl)
             rintro _ h5 ⟨hb45, hx5⟩)
  all_goals (refine ⟨fun _ => hx5, ?_⟩)
  all_goals (refine WH.tk 6 rfl (fun hq hC => ok_fieldAddr rfl Tryz.underlying44 rfl (fun w => Tryz.sizeOf9 w)) rfl rfl rfl ?_)
  all_goals (refine WH.one 7 (by kernel_rfl) ?_)
  all_goals (refine Comes1.run0 rfl (okE_store (fun w => Tryz.sizeOf9 w) rfl rfl hb45 (Nat.le_of_ble_eq_true rfl) rfl rfl) rfl rfl ?_ (fun _ => by kernel_rfl)
             rintro _ h6 ⟨hb46, hx6⟩)
  all_goals (refine ⟨fun _ => hx5.trans hx6, ?_⟩)
  all_goals (have hx46 := hx5.trans hx6
             have hb16 := hx46.obj hb14 n14
             have hX6 : Ext No h h6 := (((hx1.trans hx2).trans hx3).trans' hx4 (fun q hq e => by omega)).trans' hx46 (fun q hq e => by omega))
  all_goals (refine WH.done (by kernel_rfl) ?_)
  all_goals (refine Gn ?_)
  all_goals (refine WC.sub [(1, _), (4, _)] ⟨rfl, rfl, trivial⟩ ?_)
  all_goals (refine WC.seq ?_)
  all_goals (refine WC.drawH (fun h' => Ext No h6 h') 7 9 rfl fol ?_)
  all_goals (refine WH.tk 0 rfl (fun hq hC => ok_loadN (fun w => Tryz.isAgg74 w) (fun w => Tryz.sizeOf74 w) rfl rfl (by exact (At.of_block hb16).ext hC nos)) rfl rfl rfl ?_)
  all_goals (refine WH.tk 3 rfl (fun hq hC => ok_loadN (fun w => Tryz.isAgg44 w) (fun w => Tryz.sizeOf44 w) rfl rfl (by exact (At.of_block hb46).ext hC nos)) rfl rfl rfl ?_)
  all_goals (refine WH.one 1 (by kernel_rfl) ?_)
  all_goals (refine Comes1.call (vs := []) rfl rfl (fun a w => Tryz.call83 a w) rfl (dup24) rfl rfl rfl ?_ (fun _ => by kernel_rfl)
             rintro _ hz ⟨rfl, _⟩
             subst hz)
  all_goals (refine ⟨fun _ => .refl _ _, ?_⟩)
  all_goals (refine WH.one 2 (by kernel_rfl) ?_)
  all_goals (refine Comes1.call (vs := [_, _]) rfl rfl (fun a w => Tryz.call84 a w) rfl (ka _ dupL) rfl rfl rfl ?_ (fun _ => by kernel_rfl)
             rintro _ h7 ⟨rfl, hx7⟩)
  all_goals (refine ⟨fun _ => hx7, ?_⟩)
  all_goals (refine WH.one 4 (by kernel_rfl) ?_)
  all_goals (refine Comes1.call (vs := [_, _]) rfl rfl (fun a w => Tryz.call62 a w) rfl (kl _ (hX6.trans hx7)) rfl rfl rfl ?_ (fun _ => by kernel_rfl)
             rintro _ h8 ⟨hgv, hx8⟩
             obtain ⟨vF, vE, L, M, rfl, _⟩ := id hgv)
  all_goals (refine ⟨fun _ => hx7.trans hx8, ?_⟩)
  all_goals (have hX78 := hx7.trans hx8)
  all_goals (refine WH.tk 5 rfl (fun hq hC => ok_extract rfl rfl) rfl rfl rfl ?_)
  all_goals (refine WH.tk 6 rfl (fun hq hC => ok_extract rfl rfl) rfl rfl rfl ?_)
  all_goals (refine WH.one 7 (by kernel_rfl) ?_)
  all_goals (refine Comes1.run rfl (OkP.r (ok_assign rfl)) rfl rfl rfl ?_ (fun _ => by kernel_rfl)
             rintro _ hz ⟨rfl, _⟩
             subst hz)
  all_goals (refine ⟨fun e => (by cases e), ?_⟩)
  all_goals (refine WH.one 8 (by kernel_rfl) ?_)
  all_goals (refine Comes1.run rfl (OkP.r (ok_assign rfl)) rfl rfl rfl ?_ (fun _ => by kernel_rfl)
             rintro _ hz ⟨rfl, _⟩
             subst hz)
  all_goals (refine ⟨fun e => (by cases e), ?_⟩)
  all_goals (refine WH.done (by kernel_rfl) ?_)
  all_goals (refine Gn ?_)
  all_goals (refine WC.sub [(2, _), (3, _)] ⟨rfl, rfl, trivial⟩ ?_)
  all_goals (refine WC.ret ?_)
  all_goals (repeat' (with_reducible first | refine thenP_r ?_ | refine blockP_r ?_))
  all_goals (refine retP_2 _ _ ⟨rfl, rfl, trivial⟩ ?_)
  all_goals (exact ⟨hgv, hX6.trans hX78⟩)
end
end Go.Proofs.YtggmocdbfbhklaaGreat


/-
  REWRITE (layer 24): the code's P of a name that isn't there.
-/
namespace Go.Proofs.YtggmocdbfbhklaaGreat
open Go Go.RK

section
variable {h0 h h1 h' : Heap} {B : Nat} {c : Int} {b m1 m2 : Nat} {s : RS} {f : Fm} {v : Value} {ss : Option Addr} {sn sc : Nat} {spec : List Int} {most jd : Int} {kn : Bool}
theorem gives_snoc {vF vE : Value} {L : List Fm} {M : List En} {e : En} (hF : Own h' vF 27 10 (L.length + 1) (L.flatMap Fm.cells ++ f.cells)) (hE : Own h' vE 44 8 (M.length + 1) (M.flatMap En.cells ++ e.cells)) (hl : L.length ≤ 2) (hm : M.length ≤ 2)
    (okF : ∀ x ∈ L, Lst h0 h' fun g => x.ok g) (okE : ∀ x ∈ M, Lst h0 h' fun g => x.ok g) (hf : Lst h0 h' fun g => f.ok g) (he : Lst h0 h' fun g => e.ok g) (fF : ∀ k, vF.ownBlock = some k → h.size ≤ k) (fE : ∀ k, vE.ownBlock = some k → h.size ≤ k) :
    Gives h0 h (L.map Fm.pl ++ [f.pl]) (M.map En.pl ++ [e.pl]) (.tuple ⟨[vF, vE]⟩) h' := by
  refine ⟨vF, vE, L ++ [f], M ++ [e], rfl, ⟨?_, ?_, by simp; omega, by simp; omega, fun x hx => ?_, fun x hx => ?_, fF, fE⟩, by simp, by simp⟩
  · rw [List.length_append, List.flatMap_append]; simpa using hF
  · rw [List.length_append, List.flatMap_append]; simpa using hE
  · rcases List.mem_append.1 hx with h1 | h1
    · exact okF x h1
    · obtain rfl := List.mem_singleton.1 h1; exact hf
  · rcases List.mem_append.1 hx with h1 | h1
    · exact okE x h1
    · obtain rfl := List.mem_singleton.1 h1; exact he
/-- An entry whose rows were made here. -/
def rE (k : Int) (a d : List UInt8) (vg : Value) (g : List TOp) (vb : Value) (bd : List TOp) (vc : Value) (o : List COp) : En := ⟨k, false, a, d, vg, g, vb, bd, vc, o, .slice none 0 0, []⟩
theorem rE_ok {k : Int} {a d : List UInt8} {vg vb vc : Value} {g bd : List TOp} {o : List COp} (k1 : Lst h0 h fun z => Tops z vg g) (k2 : Lst h0 h fun z => Tops z vb bd) (k3 : Lst h0 h fun z => Ops z vc o) : Lst h0 h fun z => (rE k a d vg g vb bd vc o).ok z :=
  fun S h' x s => ⟨k1 S h' x s, k2 S h' x s, k3 S h' x s, byt_nil _⟩
theorem Cst.keep {S : Nat → Prop} {s : RS} (d : Cst h0 h B c b m1 m2 s) (x : Ext S h h1) (hS : ∀ q, S q → ∃ cs T, h[q]? = some (.cells cs T (0, 0)) ∧ T ∉ (3 :: regT)) : Cst h0 h1 B c b m1 m2 s := d.ext x fun q e => by
  obtain ⟨cs, T, hb, hT⟩ := hS q e
  obtain ⟨⟨es, ck, e1⟩, es2, ck2, e2⟩ := d.maps
  exact ⟨fun z => (by rw [z, e1] at hb; cases hb), fun z => (by rw [z, e2] at hb; cases hb), fun ty => hT (ty_one hb ty)⟩
theorem okE_hi {M : List En} (f2 : ∀ e ∈ M, ∃ k a id b, e = hiM k a id b ∧ h[b]? = some (.cells ⟨[In a, In id]⟩ 129 (0, 0))) : ∀ x ∈ M, Lst h0 h fun g => x.ok g := fun x hx => by
  obtain ⟨k, a, i, q, rfl, hb⟩ := f2 x hx
  exact (lst_blk hb (by decide)).mono fun _ z => hiM_ok k z
set_option maxHeartbeats 4000000 in
set_option maxRecDepth 100000 in
theorem prep24 (k : JH h0 h B c b m1 m2 s f (.slice ss sn sc) spec) (hk : f.kind = 80) : CallsH Tryz.prog 57 ⟨[.agg ⟨jC f b (.slice ss sn sc) most jd kn⟩]⟩ h fun u h' =>
    Gives h0 h (preA s spec most f.pl).2.1 (preA s spec most f.pl).2.2 u h' ∧ Cst h0 h' B (c + 2) b m1 m2 (preA s spec most f.pl).1 ∧ Ext (CS h0 m1 m2 h) h h' := by
  have hf := k.f
  have x0 := k.x0
  have hcc := k.cc
  have hsl := k.sl
  have hsp := k.sp
  obtain ⟨_, _, hvs, _⟩ := hsp.now
  simp only [Value.slice.injEq] at hvs
  obtain ⟨rfl, rfl, rfl⟩ := hvs
  have hd := k.d
  have ka := fun h' nm => as24 (h := h') (b := b) (ss := ss) (sn := spec.length) (sc := sc) (most := most) (id := jd) (kn := kn) hf.now nm
  have ke := fun h' => entry24 (h := h') (b := b) (ss := ss) (sn := spec.length) (sc := sc) (most := most) (id := jd) (kn := kn) hf.now
  have kput := fun h' (x : Ext No h h') => c_put (hd.ext0 x) f.text f.oids (v := f.vo) (fun g y => ((hf.ext0 x) _ g y (hd.ext0 x).sf).oids.1) hf.now.oids.2 (by omega)
  have hfl := fun (g : Heap) (l : Lst h0 g fun z => f.ok z) n => l.mono fun _ z => Fm.ok.named z n
  have hpl : ∀ n, ({ f with name := n } : Fm).pl = asP f.pl n := fun _ => rfl
  have kl := fun (g : Heap) (e : En) (l : Lst h0 g fun z => f.ok z) (le : Lst h0 g fun z => e.ok z) (x : h.size ≤ g.size) => alone24 (h0 := h0) (f := { f with name := [] }) (e := e) (g := h) (hfl g l []) le x
  obtain ⟨s1, id1, hr⟩ : ∃ s1 id1, putS s f.text f.oids = (s1, id1) := ⟨_, _, rfl⟩
  have hpre : preA s spec most f.pl = (if id1 = 0 then (s1, [], []) else if id1 ∈ spec then (s1, [asP f.pl []], [(2, false, [], [], [(true, f.name, id1, ())], preBad f.name, [(3, id1, ())], [])]) else (refS s1 id1, roomF spec most ++ [asP f.pl (srvL id1)], roomE spec most ++ [(2, false, [], [], [(true, f.name, id1, ())], preBad f.name, [(1, id1, ())], [])])) := by
    show (let r := putS s f.text f.oids; if r.2 = 0 then (r.1, [], []) else if r.2 ∈ spec then (r.1, [asP f.pl []], [(2, false, [], [], preGood f.pl r.2, preBad f.name, [(3, r.2, ())], [])]) else (refS r.1 r.2, roomF spec most ++ [asP f.pl (srvL r.2)], roomE spec most ++ [(2, false, [], [], preGood f.pl r.2, preBad f.name, [(1, r.2, ())], [])])) = _
    rw [hr]
    rfl
  rw [hpre]
  rw [hr] at kput
  clear hpre hr
  have kc := fun h' (r : Rd h' (.slice ss spec.length sc) 1 spec.length (ints spec)) => contains_int (h := h') spec id1 r (by unfold maxLen; omega)
  have kroom := fun h' (r : Rd h' (.slice ss spec.length sc) 1 spec.length (ints spec)) => room_any (h := h') spec most r (by omega)
  have kref := fun h' (d : Cst h0 h' B (c + 1) b m1 m2 s1) => c_ref d id1 (by omega)
  obtain ⟨⟨e1, _⟩, ⟨e2, _⟩, ⟨e3, _⟩, e4, _⟩ := hf.now
  generalize hP : f.pl = P at *
  have hn0 : f.name = [] ∨ ¬ f.name = [] := Classical.em _
  obtain ⟨fk, w, n, p, t, vo, o, vf, fs, vs, rs, vp, ps, mx⟩ := f
  dsimp only at e1 e2 e3 e4 hk hn0
  subst hk
  obtain ⟨_, _, rfl, _⟩ := e1
  obtain ⟨_, _, rfl, _⟩ := e2
  obtain ⟨_, _, rfl, _⟩ := e3
  obtain ⟨_, _, rfl, _⟩ := e4
  dsimp only [jC, Fm.cells, List.cons_append, List.nil_append, ptE, zE, En.cells, entK] at ka ke kput kl kref hpl ⊢
  by_cases hid : id1 = 0
  · rw [if_pos hid]
    refine calls [(0, _)] Tryz.func57 rfl Tryz.ntmps57 rfl ⟨rfl, trivial⟩ ?_
    all_goals (refine WC.sr ?_)
    all_goals (refine WL.stepR (okE_box rfl) rfl rfl rfl ?_
               rintro _ h1 ⟨b1, rfl, hg1, hb1, hx1⟩)
    all_goals (refine Go ?_)
    all_goals (refine WC.sr ?_)
    all_goals (refine Go ?_)
    all_goals (refine WL.step (ok_load (fun w => Tryz.isAgg28 w) rfl (by first | assumption | exact cell_blk (by assumption) rfl)) rfl rfl rfl ?_)
    all_goals (refine Go ?_)
    all_goals (refine WL.step (ok_load (fun w => Tryz.isAgg9 w) rfl (by first | assumption | exact cell_blk (by assumption) rfl)) rfl rfl rfl ?_)
    all_goals (refine Go ?_)
    all_goals (refine WL.step (ok_load (fun w => Tryz.isAgg24 w) rfl (by first | assumption | exact cell_blk (by assumption) rfl)) rfl rfl rfl ?_)
    all_goals (refine WL.step (ok_buildF (vs := [_, _]) (cs := [_, _]) (fun | [a0, a1] => [a0, a1] | _ => []) rfl rfl (by kernel_rfl)) rfl rfl rfl ?_)
    all_goals (refine WL.call (vs := [_, _]) rfl (fun a w => Tryz.call21 a w) rfl (kput _ hx1) rfl rfl rfl ?_
               rintro _ h2 ⟨rfl, d2, x2⟩)
    all_goals (refine Go ?_)
    all_goals (refine WC.sub [(1, _), (4, _)] ⟨rfl, rfl, trivial⟩ ?_)
    all_goals (refine WC.seq ?_)
    all_goals (refine WC.sr ?_)
    all_goals (refine Go ?_)
    all_goals (refine goC 1 2 ?_ ?_ <;> first | exact ⟨⟩ | refine Hb.mk fun hb => ?_ | skip)
    all_goals (first | (fail_if_success refine goB 1 ?_) | (
    refine goB 1 ?_
    all_goals (refine WC.sr ?_)
    all_goals (refine Go ?_)
    all_goals (refine WC.sub [(2, _), (3, _)] ⟨rfl, rfl, trivial⟩ ?_)
    all_goals (refine WC.ret ?_)
    all_goals (repeat' (with_reducible first | refine thenP_r ?_ | refine blockP_r ?_))
    all_goals (refine retP_2 _ _ ⟨rfl, rfl, trivial⟩ ?_)
    all_goals (exact ⟨.nil, d2.up (by omega) (by omega), (fs_no hx1).trans' x2 (fun q hq e => fs_no_back hx1 hq e)⟩)
    skip))
    all_goals (first | (fail_if_success refine goB 2 ?_) | (
    refine goB 2 ?_
    all_goals (refine WC.skip ?_)
    skip))
    all_goals (refine Gn ?_)
    all_goals (refine WC.sr ?_)
    all_goals (refine WL.step (ok_loadN (fun w => Tryz.isAgg74 w) (fun w => Tryz.sizeOf74 w) rfl rfl (by assumption)) rfl rfl rfl ?_)
    all_goals (fail "no contract for call of (remuda/rewrite.job).entry at 4.1")
    all_goals (refine WL.stepR (okE_alloc (fun w => Tryz.zeroValue44 w)) rfl rfl rfl ?_
               rintro _ h1 ⟨b1, rfl, hg1, hb1, hx1⟩)
    all_goals (refine WL.stepR0 (okE_storeW (fun w => Tryz.sizeOf44 w) rfl rfl rfl (by assumption) rfl (by simp [Value.oneCell'])) rfl rfl ?_
               rintro _ h1 ⟨hb1, hx1⟩)
    all_goals (refine Gn ?_)
    all_goals (refine WC.sub [(1, _), (4, _), (5, _)] ⟨rfl, rfl, rfl, trivial⟩ ?_)
    all_goals (refine WC.sr ?_)
    all_goals (refine Go ?_)
    all_goals (refine WL.step (ok_load (fun w => Tryz.isAgg9 w) rfl (by first | assumption | exact cell_blk (by assumption) rfl)) rfl rfl rfl ?_)
    all_goals (refine Go ?_)
    all_goals (refine WL.step (ok_buildF (vs := [_, _, _]) (cs := [_, _, _]) (fun | [a0, a1, a2] => [a0, a1, a2] | _ => []) rfl rfl (by kernel_rfl)) rfl rfl rfl ?_)
    all_goals (refine WL.stepR (okE_buildSlice (vs := [_]) (cs := [_, _, _]) (fun | [.agg ⟨[a0, a1, a2]⟩] => [a0, a1, a2] | _ => []) Tryz.underlying40 rfl rfl (by kernel_rfl)) rfl rfl rfl ?_
               rintro _ h1 ⟨b1, rfl, hg1, hb1, hx1⟩)
    all_goals (refine Go ?_)
    all_goals (refine WL.stepR0 (okE_store (fun w => Tryz.sizeOf40 w) rfl rfl (by assumption) (Nat.le_of_ble_eq_true rfl) rfl rfl) rfl rfl ?_
               rintro _ h1 ⟨hb1, hx1⟩)
    all_goals (refine Gn ?_)
    all_goals (refine WC.sub [(1, _), (4, _), (5, _)] ⟨rfl, rfl, rfl, trivial⟩ ?_)
    all_goals (refine WC.seq ?_)
    all_goals (refine WC.sr ?_)
    all_goals (refine Go ?_)
    all_goals (refine WL.step (ok_load (fun w => Tryz.isAgg9 w) rfl (by first | assumption | exact cell_blk (by assumption) rfl)) rfl rfl rfl ?_)
    all_goals (refine Go ?_)
    all_goals (refine goC 3 4 ?_ ?_ <;> first | exact ⟨⟩ | refine Hb.mk fun hb => ?_ | skip)
    all_goals (first | (fail_if_success refine goB 3 ?_) | (
    refine goB 3 ?_
    all_goals (refine WC.region ?_)
    all_goals (refine WL.step (ok_buildF (vs := [_]) (cs := [_, _, _]) (fun | [a1] => [(.bool false), a1, (.int .i64 0)] | _ => []) rfl rfl (by kernel_rfl)) rfl rfl rfl ?_)
    all_goals (refine WL.stepR (okE_buildSlice (vs := [_]) (cs := [_, _, _]) (fun | [.agg ⟨[a0, a1, a2]⟩] => [a0, a1, a2] | _ => []) Tryz.underlying40 rfl rfl (by kernel_rfl)) rfl rfl rfl ?_
               rintro _ h1 ⟨b1, rfl, hg1, hb1, hx1⟩)
    all_goals (refine Go ?_)
    all_goals (refine WL.stepR0 (okE_store (fun w => Tryz.sizeOf40 w) rfl rfl (by assumption) (Nat.le_of_ble_eq_true rfl) rfl rfl) rfl rfl ?_
               rintro _ h1 ⟨hb1, hx1⟩)
    all_goals (refine Gn ?_)
    skip))
    all_goals (first | (fail_if_success refine goB 4 ?_) | (
    refine goB 4 ?_
    all_goals (refine WC.skip ?_)
    skip))
    all_goals (refine Gn ?_)
    all_goals (refine WC.sub [(1, _), (4, _), (5, _)] ⟨rfl, rfl, rfl, trivial⟩ ?_)
    all_goals (refine WC.seq ?_)
    all_goals (refine WC.sr ?_)
    all_goals (refine Go ?_)
    all_goals (refine WL.step (ok_load (fun w => Tryz.isAgg24 w) rfl (by first | assumption | exact cell_blk (by assumption) rfl)) rfl rfl rfl ?_)
    all_goals (refine Go ?_)
    all_goals (fail "no contract for call of slices.Contains[[]int,int] at 8.3")
    all_goals (refine Gn ?_)
    all_goals (refine goC 5 6 ?_ ?_ <;> first | exact ⟨⟩ | refine Hb.mk fun hb => ?_ | skip)
    all_goals (first | (fail_if_success refine goB 6 ?_) | (
    refine goB 6 ?_
    all_goals (refine WC.skip ?_)
    skip))
    all_goals (refine Gn ?_)
    all_goals (refine WC.sub [(1, _), (4, _), (5, _)] ⟨rfl, rfl, rfl, trivial⟩ ?_)
    all_goals (refine WC.sr ?_)
    all_goals (refine Go ?_)
    all_goals (refine WL.step (ok_load (fun w => Tryz.isAgg28 w) rfl (by first | assumption | exact cell_blk (by assumption) rfl)) rfl rfl rfl ?_)
    all_goals (refine Go ?_)
    all_goals (fail "no contract for call of (*remuda/reg.Registry).Ref at 11.3")
    all_goals (refine Gn ?_)
    all_goals (refine WC.sub [(1, _), (4, _), (5, _)] ⟨rfl, rfl, rfl, trivial⟩ ?_)
    all_goals (refine WC.sr ?_)
    all_goals (refine Go ?_)
    all_goals (fail "no contract for call of remuda/rewrite.add at 12.1")
    all_goals (refine Go ?_)
    all_goals (refine WL.stepR0 (okE_store (fun w => Tryz.sizeOf41 w) rfl rfl (by assumption) (Nat.le_of_ble_eq_true rfl) rfl rfl) rfl rfl ?_
               rintro _ h1 ⟨hb1, hx1⟩)
    all_goals (refine Gn ?_)
    all_goals (refine WC.sr ?_)
    all_goals (refine Go ?_)
    all_goals (refine WL.step (ok_load (fun w => Tryz.isAgg24 w) rfl (by first | assumption | exact cell_blk (by assumption) rfl)) rfl rfl rfl ?_)
    all_goals (refine Go ?_)
    all_goals (refine WL.step (ok_load (fun w => Tryz.isAgg3 w) rfl (by first | assumption | exact cell_blk (by assumption) rfl)) rfl rfl rfl ?_)
    all_goals (fail "no contract for call of remuda/inject.Room at 13.4")
    all_goals (refine Go ?_)
    all_goals (refine WC.sub [(1, _), (4, _), (5, _), (6, _), (7, _)] ⟨rfl, rfl, rfl, rfl, rfl, trivial⟩ ?_)
    all_goals (refine WC.seq ?_)
    all_goals (refine WC.drawE fol (by kernel_rfl) ?_)
    all_goals (refine WQ.stepE (ok_move rfl) rfl rfl rfl ?_)
    all_goals (refine WQ.stepE (ok_loadN (fun w => Tryz.isAgg74 w) (fun w => Tryz.sizeOf74 w) rfl rfl (by assumption)) rfl rfl rfl ?_)
    all_goals (refine WQ.stepE (ok_move rfl) rfl rfl rfl ?_)
    all_goals (fail "no contract for call of remuda/names.Server at 14.3")
    all_goals (fail "no contract for call of (remuda/rewrite.job).as at 14.4")
    all_goals (refine WL.stepR (okE_buildSlice (vs := [_]) (cs := [_, _, _, _, _, _, _, _, _, _]) (fun | [.agg ⟨[a0, a1, a2, a3, a4, a5, a6, a7, a8, a9]⟩] => [a0, a1, a2, a3, a4, a5, a6, a7, a8, a9] | _ => []) Tryz.underlying36 rfl rfl (by kernel_rfl)) rfl rfl rfl ?_
               rintro _ h1 ⟨b1, rfl, hg1, hb1, hx1⟩)
    all_goals (refine WL.stepR (ok_append (sz := 10) (bytes := 160) rfl Tryz.underlying36 (show Tryz.prog.info? 27 = some Tryz.t27 by kernel_rfl) rfl rfl rfl rfl (by decide) rfl rfl (by assumption) (by first | assumption | exact rd_blk (by assumption) rfl) (by simp [Value.oneCell']) (by simp only [maxLen]; omega) (by omega)) rfl rfl rfl ?_
               rintro v1 h1 ⟨ho1, hx1, hl1⟩)
    all_goals (refine WQ.stepE (ok_move rfl) rfl rfl rfl ?_)
    all_goals (refine WQ.stepE (ok_loadN (fun w => Tryz.isAgg44 w) (fun w => Tryz.sizeOf44 w) rfl rfl (by assumption)) rfl rfl rfl ?_)
    all_goals (refine WL.stepR (okE_buildSlice (vs := [_]) (cs := [_, _, _, _, _, _, _, _]) (fun | [.agg ⟨[a0, a1, a2, a3, a4, a5, a6, a7]⟩] => [a0, a1, a2, a3, a4, a5, a6, a7] | _ => []) Tryz.underlying37 rfl rfl (by kernel_rfl)) rfl rfl rfl ?_
               rintro _ h1 ⟨b1, rfl, hg1, hb1, hx1⟩)
    all_goals (refine WL.stepR (ok_append (sz := 8) (bytes := 144) rfl Tryz.underlying37 (show Tryz.prog.info? 44 = some Tryz.t44 by kernel_rfl) rfl rfl rfl rfl (by decide) rfl rfl (by assumption) (by first | assumption | exact rd_blk (by assumption) rfl) (by simp [Value.oneCell']) (by simp only [maxLen]; omega) (by omega)) rfl rfl rfl ?_
               rintro v1 h1 ⟨ho1, hx1, hl1⟩)
    all_goals (refine WQ.stepE (ok_assign rfl) rfl rfl rfl ?_)
    all_goals (refine WQ.stepE (ok_assign rfl) rfl rfl rfl ?_)
    all_goals (refine WQ.nil ?_)
    all_goals (refine Gn ?_)
    all_goals (refine WC.sub [(2, _), (3, _)] ⟨rfl, rfl, trivial⟩ ?_)
    all_goals (refine WC.ret ?_)
    all_goals (repeat' (with_reducible first | refine thenP_r ?_ | refine blockP_r ?_))
    all_goals (refine retP_2 _ _ ⟨rfl, rfl, trivial⟩ ?_)
    all_goals (exact ⟨.nil, d2.up (by omega) (by omega), (fs_no hx1).trans' x2 (fun q hq e => fs_no_back hx1 hq e)⟩)
  · rw [if_neg hid]
    rcases hn0 with rfl | hn0
    all_goals by_cases hin : id1 ∈ spec
    all_goals first | rw [if_pos hin] | rw [if_neg hin]
    all_goals
      refine calls [(0, _)] Tryz.func57 rfl Tryz.ntmps57 rfl ⟨rfl, trivial⟩ ?_
      all_goals (refine WC.sr ?_)
      all_goals (refine WL.stepR (okE_box rfl) rfl rfl rfl ?_
                 rintro _ h1 ⟨b1, rfl, hg1, hb1, hx1⟩)
      all_goals (refine Go ?_)
      all_goals (refine WC.sr ?_)
      all_goals (refine Go ?_)
      all_goals (refine WL.step (ok_load (fun w => Tryz.isAgg28 w) rfl (by first | assumption | exact cell_blk (by assumption) rfl)) rfl rfl rfl ?_)
      all_goals (refine Go ?_)
      all_goals (refine WL.step (ok_load (fun w => Tryz.isAgg9 w) rfl (by first | assumption | exact cell_blk (by assumption) rfl)) rfl rfl rfl ?_)
      all_goals (refine Go ?_)
      all_goals (refine WL.step (ok_load (fun w => Tryz.isAgg24 w) rfl (by first | assumption | exact cell_blk (by assumption) rfl)) rfl rfl rfl ?_)
      all_goals (refine WL.step (ok_buildF (vs := [_, _]) (cs := [_, _]) (fun | [a0, a1] => [a0, a1] | _ => []) rfl rfl (by kernel_rfl)) rfl rfl rfl ?_)
      all_goals (refine WL.call (vs := [_, _]) rfl (fun a w => Tryz.call21 a w) rfl (kput _ hx1) rfl rfl rfl ?_
                 rintro _ h2 ⟨rfl, d2, x2⟩)
      all_goals (have hb12 := x2.obj hb1 ((hd.ext0 hx1).off hb1 (by decide))
                 have hf2 := (hf.ext0 hx1).step x2 (hd.ext0 hx1).sf
                 have X2 : Ext (CS h0 m1 m2 h) h h2 := (fs_no hx1).trans' x2 (fun q hq e => fs_no_back hx1 hq e)
                 have x02 := fs_old x0 X2
                 have hs2 := X2.size
                 have l1 := lt_of_some hb12)
      all_goals (refine Go ?_)
      all_goals (refine WC.sub [(1, _), (4, _)] ⟨rfl, rfl, trivial⟩ ?_)
      all_goals (refine WC.seq ?_)
      all_goals (refine WC.sr ?_)
      all_goals (refine Go ?_)
      all_goals (refine goC 1 2 ?_ ?_ <;> first | exact ⟨⟩ | refine Hb.mk fun hb => ?_ | skip)
      all_goals (first | (fail_if_success refine goB 1 ?_) | (
      refine goB 1 ?_
      all_goals (refine WC.sr ?_)
      all_goals (refine Go ?_)
      all_goals (refine WC.sub [(2, _), (3, _)] ⟨rfl, rfl, trivial⟩ ?_)
      all_goals (refine WC.ret ?_)
      all_goals (repeat' (with_reducible first | refine thenP_r ?_ | refine blockP_r ?_))
      all_goals (refine retP_2 _ _ ⟨rfl, rfl, trivial⟩ ?_)
      all_goals (try rw [show preBad [] = [(false, [], 0, ())] from if_pos rfl]
                 first
                  | (fail_if_success (have := hgE)
                     rw [hpl []] at hgv
                     exact ⟨hgv, (d2.ext0 X13).up (by omega) (by omega), X2.trans' X13 (fun q hq e => e.elim)⟩)
                  | (have hXX := ((XX12.trans' hx13 (fun _ _ e => e.elim)).trans' hx14 (fun q hq e => absurd (Nat.lt_of_lt_of_le hq (Nat.le_trans hs2 (Nat.le_trans hs3 hg5))) (by rw [show q = b5 from e]; exact Nat.lt_irrefl _))).trans' hx15 (fun _ _ e => e.elim)
                     have hd3 := ((d3.ext0 hx13).keep hx14 (fun q e => ⟨_, _, e ▸ hx13.obj HE12 nos, by decide⟩)).ext0 hx15
                     have hdf := hd3.keep hE (fun q e => e.elim (fun z => (own_ty kF z).elim fun _ y => ⟨_, _, y, by decide⟩) (fun z => (own_ty kE z).elim fun _ y => ⟨_, _, y, by decide⟩))
                     have hg := gives_snoc (h := h14) hoF6 hoE10 (by omega) (by omega) (fun x hx => lst_all (f1 x hx)) (okE_hi f2) (hfl _ hF (srvL id1)) (rE_ok hT hB hC') hgF hgE
                     rw [p1, p2, hpl] at hg
                     have hh14 : h.size ≤ h14.size := Nat.le_trans hs2 (Nat.le_trans HX.size (Nat.le_trans hs12 (Nat.le_trans hx13.size hx14.size)))
                     exact ⟨hg.from hh14, hdf.up (by omega) (by omega), hXX.trans' hE (fun q hq e => absurd (Nat.lt_of_lt_of_le hq hh14) (Nat.not_lt.2 (e.elim (fF q) (fE q))))⟩))
      skip))
      all_goals (first | (fail_if_success refine goB 2 ?_) | (
      refine goB 2 ?_
      all_goals (refine WC.skip ?_)
      skip))
      all_goals (refine Gn ?_)
      all_goals (refine WC.sr ?_)
      all_goals (refine WL.step (ok_loadN (fun w => Tryz.isAgg74 w) (fun w => Tryz.sizeOf74 w) rfl rfl (by exact At.of_block hb12)) rfl rfl rfl ?_)
      all_goals (refine WL.call (vs := [_]) rfl (fun a w => Tryz.call61 a w) rfl (ke _) rfl rfl rfl ?_
                 rintro _ h3 ⟨rfl, hx3⟩)
      all_goals (refine WL.stepR (okE_alloc (fun w => Tryz.zeroValue44 w)) rfl rfl rfl ?_
                 rintro _ h4 ⟨b5, rfl, hg5, hb5, hx4⟩)
      all_goals (refine WL.stepR0 (okE_storeW (fun w => Tryz.sizeOf44 w) rfl rfl rfl hb5 rfl (by simp [Value.oneCell'])) rfl rfl ?_
                 rintro _ h5 ⟨hb55, hx5⟩)
      all_goals (have hs3 := hx3.size
                 have hs4 := hx4.size
                 have hb15 := hx5.obj ((hx3.trans hx4).obj hb12 nos) (fun e => by omega)
                 have l5 := lt_of_some hb55
                 have X5 : Ext No h2 h5 := (hx3.trans hx4).trans' hx5 (fun q hq e => by omega))
      all_goals (refine Gn ?_)
      all_goals (refine WC.sub [(1, _), (4, _), (5, _)] ⟨rfl, rfl, rfl, trivial⟩ ?_)
      all_goals (refine WC.sr ?_)
      all_goals (refine Go ?_)
      all_goals (refine WL.step (ok_load (fun w => Tryz.isAgg9 w) rfl (by first | exact cell_blk hb15 rfl | assumption | exact cell_blk (by assumption) rfl)) rfl rfl rfl ?_)
      all_goals (refine Go ?_)
      all_goals (refine WL.step (ok_buildF (vs := [_, _, _]) (cs := [_, _, _]) (fun | [a0, a1, a2] => [a0, a1, a2] | _ => []) rfl rfl (by kernel_rfl)) rfl rfl rfl ?_)
      all_goals (refine WL.stepR (okE_buildSlice (vs := [_]) (cs := [_, _, _]) (fun | [.agg ⟨[a0, a1, a2]⟩] => [a0, a1, a2] | _ => []) Tryz.underlying40 rfl rfl (by kernel_rfl)) rfl rfl rfl ?_
                 rintro _ h6 ⟨b6, rfl, hg6, hb6, hx6⟩)
      all_goals (refine Go ?_)
      all_goals (refine WL.stepR0 (okE_store (fun w => Tryz.sizeOf40 w) rfl rfl (hx6.obj hb55 nos) (Nat.le_of_ble_eq_true rfl) rfl rfl) rfl rfl ?_
                 rintro _ h7 ⟨hb7, hx7⟩)
      all_goals (have hb17 := hx7.obj (hx6.obj hb15 nos) (fun e => by omega)
                 have hb67 := hx7.obj hb6 (fun e => by omega)
                 have X7 : Ext No h2 h7 := (X5.trans hx6).trans' hx7 (fun q hq e => by omega))
      all_goals (refine Gn ?_)
      all_goals (refine WC.sub [(1, _), (4, _), (5, _)] ⟨rfl, rfl, rfl, trivial⟩ ?_)
      all_goals (refine WC.seq ?_)
      all_goals (refine WC.sr ?_)
      all_goals (refine Go ?_)
      all_goals (refine WL.step (ok_load (fun w => Tryz.isAgg9 w) rfl (by first | exact cell_blk hb17 rfl | assumption | exact cell_blk (by assumption) rfl)) rfl rfl rfl ?_)
      all_goals (refine Go ?_)
      all_goals (refine goC 3 4 ?_ ?_ <;> first | exact ⟨⟩ | refine Hb.mk fun hb => ?_ | skip)
      all_goals (first | (fail_if_success refine goB 3 ?_) | (
      refine goB 3 ?_
      all_goals (refine WC.region ?_)
      all_goals (refine WL.step (ok_buildF (vs := [_]) (cs := [_, _, _]) (fun | [a1] => [(.bool false), a1, (.int .i64 0)] | _ => []) rfl rfl (by kernel_rfl)) rfl rfl rfl ?_)
      all_goals (refine WL.stepR (okE_buildSlice (vs := [_]) (cs := [_, _, _]) (fun | [.agg ⟨[a0, a1, a2]⟩] => [a0, a1, a2] | _ => []) Tryz.underlying40 rfl rfl (by kernel_rfl)) rfl rfl rfl ?_
                 rintro _ h8 ⟨b8, rfl, hg8, hb8, hx8⟩)
      all_goals (refine Go ?_)
      all_goals (refine WL.stepR0 (okE_store (fun w => Tryz.sizeOf40 w) rfl rfl (hx8.obj hb7 nos) (Nat.le_of_ble_eq_true rfl) rfl rfl) rfl rfl ?_
                 rintro _ h9 ⟨hb9, hx9⟩)
      all_goals (refine Gn ?_)
      skip))
      all_goals (first | (fail_if_success refine goB 4 ?_) | (
      refine goB 4 ?_
      all_goals (refine WC.skip ?_)
      skip))
      all_goals (refine Gn ?_)
      all_goals (refine WC.sub [(1, _), (4, _), (5, _)] ⟨rfl, rfl, rfl, trivial⟩ ?_)
      all_goals (refine WC.seq ?_)
      all_goals (refine WC.sr ?_)
      all_goals (refine Go ?_)
      all_goals (first
                  | ((fail_if_success (have := hx9)); have HJ := hb17; have HG := hb67; have HE := hb7; have HX := X7; have HB : Lst h0 h7 fun z => Tops z (.slice none 0 0) (preBad n) := (by rw [preBad, if_neg hn0]; exact lst_all tops_nil))
                  | (have HJ := hx9.obj (hx8.obj hb17 nos) (fun e => by omega)
                     have HG := hx9.obj (hx8.obj hb67 nos) (fun e => by omega)
                     have HE := hb9
                     have HX : Ext No h2 h9 := (X7.trans hx8).trans' hx9 (fun q hq e => by omega)
                     have hb89 := hx9.obj hb8 (fun e => by have := hx6.size; have := hx7.size; omega)
                     have HB := (lst_blk (h0 := h0) hb89 (by decide)).mono fun _ z => tops_one z)
                 have HT := (lst_blk (h0 := h0) HG (by decide)).mono fun _ z => tops_one z
                 have hsX := HX.size
                 have lE := lt_of_some HE)
      all_goals (refine WL.step (ok_load (fun w => Tryz.isAgg24 w) rfl (by first | exact cell_blk HJ rfl | assumption | exact cell_blk (by assumption) rfl)) rfl rfl rfl ?_)
      all_goals (refine Go ?_)
      all_goals (refine WL.call (vs := [_, _]) rfl (fun a w => Tryz.call85 a w) rfl (kc _ (hsp _ _ (fs_trans X2 (fs_no HX)) hd.sf)) rfl rfl rfl ?_
                 rintro _ hz ⟨rfl, _⟩
                 subst hz)
      all_goals (first | rw [decide_eq_true hin] | rw [decide_eq_false hin])
      all_goals (refine Gn ?_)
      all_goals (refine goC 5 6 ?_ ?_ <;> first | exact ⟨⟩ | refine Hb.mk fun hb => ?_ | skip)
      all_goals (first | (fail_if_success refine goB 5 ?_) | (
      refine goB 5 ?_
      all_goals (refine WC.sr ?_)
      all_goals (refine Go ?_)
      all_goals (refine WL.call (vs := [_]) rfl (fun a w => Tryz.call86 a w) rfl (touch24 id1) rfl rfl rfl ?_
                 rintro _ h10 ⟨b10, rfl, hb10, hg10, hx10⟩)
      all_goals (refine Go ?_)
      all_goals (refine WL.stepR0 (okE_store (fun w => Tryz.sizeOf41 w) rfl rfl (hx10.obj HE nos) (Nat.le_of_ble_eq_true rfl) rfl rfl) rfl rfl ?_
                 rintro _ h11 ⟨HE11, hx11⟩)
      all_goals (have HJ11 := hx11.obj (hx10.obj HJ nos) (fun e => by omega)
                 have X11 : Ext No h2 h11 := (HX.trans hx10).trans' hx11 (fun q hq e => by omega)
                 have hb1011 := hx11.obj hb10 (fun e => by omega)
                 have HT11 := (HT.ext0 hx10).step hx11 (fun q e => ⟨by have := x02.size; omega, fun ty => absurd (ty_one (hx10.obj HE nos) (e ▸ ty)) (by decide)⟩)
                 have HB11 := (HB.ext0 hx10).step hx11 (fun q e => ⟨by have := x02.size; omega, fun ty => absurd (ty_one (hx10.obj HE nos) (e ▸ ty)) (by decide)⟩))
      all_goals (refine Gn ?_)
      all_goals (refine WC.sub [(1, _), (5, _)] ⟨rfl, rfl, trivial⟩ ?_)
      all_goals (refine WC.seq ?_)
      all_goals (refine WC.drawH (fun h' => Ext No h11 h') 6 8 rfl fol ?_)
      all_goals (refine WH.tk 0 rfl (fun hq hC => ok_loadN (fun w => Tryz.isAgg74 w) (fun w => Tryz.sizeOf74 w) rfl rfl (by exact (At.of_block HJ11).ext hC nos)) rfl rfl rfl ?_)
      all_goals (refine WH.tk 2 rfl (fun hq hC => ok_loadN (fun w => Tryz.isAgg44 w) (fun w => Tryz.sizeOf44 w) rfl rfl (by exact (At.of_block HE11).ext hC nos)) rfl rfl rfl ?_)
      all_goals (refine WH.one 1 (by kernel_rfl) ?_)
      all_goals (refine Comes1.call (vs := [_, _]) rfl rfl (fun a w => Tryz.call84 a w) rfl (ka _ []) rfl rfl rfl ?_ (fun _ => by kernel_rfl)
                 rintro _ h12 ⟨rfl, hx12⟩)
      all_goals (refine ⟨fun _ => hx12, ?_⟩)
      all_goals (refine WH.one 3 (by kernel_rfl) ?_)
      all_goals (refine Comes1.call (vs := [_, _]) rfl rfl (fun a w => Tryz.call62 a w) rfl (kl _ (rE 2 [] [] _ _ _ _ _ _) ((hf2.ext0 X11).ext0 hx12) (rE_ok (HT11.ext0 hx12) (HB11.ext0 hx12) ((lst_blk (hx12.obj hb1011 nos) (by decide)).mono fun _ z => one_op z)) (by have := X11.size; have := hx12.size; omega)) rfl rfl rfl ?_ (fun _ => by kernel_rfl)
                 rintro _ h13 ⟨hgv, hx13⟩
                 obtain ⟨vF, vE, L, M, rfl, _⟩ := id hgv)
      all_goals (refine ⟨fun _ => hx12.trans hx13, ?_⟩)
      all_goals (have hY13 : Ext No h11 h13 := hx12.trans hx13
                 have X13 := X11.trans hY13)
      all_goals (refine WH.tk 4 rfl (fun hq hC => ok_extract rfl rfl) rfl rfl rfl ?_)
      all_goals (refine WH.tk 5 rfl (fun hq hC => ok_extract rfl rfl) rfl rfl rfl ?_)
      all_goals (refine WH.one 6 (by kernel_rfl) ?_)
      all_goals (refine Comes1.run rfl (OkP.r (ok_assign rfl)) rfl rfl rfl ?_ (fun _ => by kernel_rfl)
                 rintro _ hz ⟨rfl, _⟩
                 subst hz)
      all_goals (refine ⟨fun e => (by cases e), ?_⟩)
      all_goals (refine WH.one 7 (by kernel_rfl) ?_)
      all_goals (refine Comes1.run rfl (OkP.r (ok_assign rfl)) rfl rfl rfl ?_ (fun _ => by kernel_rfl)
                 rintro _ hz ⟨rfl, _⟩
                 subst hz)
      all_goals (refine ⟨fun e => (by cases e), ?_⟩)
      all_goals (refine WH.done (by kernel_rfl) ?_)
      all_goals (refine Gn ?_)
      all_goals (refine WC.sub [(2, _), (3, _)] ⟨rfl, rfl, trivial⟩ ?_)
      all_goals (refine WC.ret ?_)
      all_goals (repeat' (with_reducible first | refine thenP_r ?_ | refine blockP_r ?_))
      all_goals (refine retP_2 _ _ ⟨rfl, rfl, trivial⟩ ?_)
      all_goals (try rw [show preBad [] = [(false, [], 0, ())] from if_pos rfl]
                 first
                  | (fail_if_success (have := hgE)
                     rw [hpl []] at hgv
                     exact ⟨hgv, (d2.ext0 X13).up (by omega) (by omega), X2.trans' X13 (fun q hq e => e.elim)⟩)
                  | (have hXX := ((XX12.trans' hx13 (fun _ _ e => e.elim)).trans' hx14 (fun q hq e => absurd (Nat.lt_of_lt_of_le hq (Nat.le_trans hs2 (Nat.le_trans hs3 hg5))) (by rw [show q = b5 from e]; exact Nat.lt_irrefl _))).trans' hx15 (fun _ _ e => e.elim)
                     have hd3 := ((d3.ext0 hx13).keep hx14 (fun q e => ⟨_, _, e ▸ hx13.obj HE12 nos, by decide⟩)).ext0 hx15
                     have hdf := hd3.keep hE (fun q e => e.elim (fun z => (own_ty kF z).elim fun _ y => ⟨_, _, y, by decide⟩) (fun z => (own_ty kE z).elim fun _ y => ⟨_, _, y, by decide⟩))
                     have hg := gives_snoc (h := h14) hoF6 hoE10 (by omega) (by omega) (fun x hx => lst_all (f1 x hx)) (okE_hi f2) (hfl _ hF (srvL id1)) (rE_ok hT hB hC') hgF hgE
                     rw [p1, p2, hpl] at hg
                     have hh14 : h.size ≤ h14.size := Nat.le_trans hs2 (Nat.le_trans HX.size (Nat.le_trans hs12 (Nat.le_trans hx13.size hx14.size)))
                     exact ⟨hg.from hh14, hdf.up (by omega) (by omega), hXX.trans' hE (fun q hq e => absurd (Nat.lt_of_lt_of_le hq hh14) (Nat.not_lt.2 (e.elim (fF q) (fE q))))⟩))
      skip))
      all_goals (first | (fail_if_success refine goB 6 ?_) | (
      refine goB 6 ?_
      all_goals (refine WC.skip ?_)
      skip))
      all_goals (refine Gn ?_)
      all_goals (refine WC.sub [(1, _), (4, _), (5, _)] ⟨rfl, rfl, rfl, trivial⟩ ?_)
      all_goals (refine WC.sr ?_)
      all_goals (refine Go ?_)
      all_goals (refine WL.step (ok_load (fun w => Tryz.isAgg28 w) rfl (by first | exact cell_blk HJ rfl | assumption | exact cell_blk (by assumption) rfl)) rfl rfl rfl ?_)
      all_goals (refine Go ?_)
      all_goals (refine WL.call (vs := [_, _]) rfl (fun a w => Tryz.call87 a w) rfl (kref _ (d2.ext0 HX)) rfl rfl rfl ?_
                 rintro _ h12 ⟨⟨xr, rfl⟩, d3, x12⟩)
      all_goals (have dX := d2.ext0 HX
                 have HJ12 := x12.obj HJ (dX.off HJ (by decide))
                 have HE12 := x12.obj HE (dX.off HE (by decide))
                 have HT12 := HT.step x12 dX.sf
                 have HB12 := HB.step x12 dX.sf
                 have hf12 := (hf2.ext0 HX).step x12 dX.sf
                 have X12 : Ext (CS h0 m1 m2 h2) h2 h12 := (fs_no HX).trans' x12 (fun q hq e => fs_no_back HX hq e)
                 have XX12 := fs_trans X2 X12
                 have x012 := fs_old x0 XX12
                 have hs12 := x12.size)
      all_goals (refine Gn ?_)
      all_goals (refine WC.sub [(1, _), (4, _), (5, _)] ⟨rfl, rfl, rfl, trivial⟩ ?_)
      all_goals (refine WC.sr ?_)
      all_goals (refine Go ?_)
      all_goals (refine WL.call (vs := [_]) rfl (fun a w => Tryz.call88 a w) rfl (add24 id1) rfl rfl rfl ?_
                 rintro _ h13 ⟨b13, rfl, hb13, hg13, hx13⟩)
      all_goals (refine Go ?_)
      all_goals (refine WL.stepR0 (okE_store (fun w => Tryz.sizeOf41 w) rfl rfl (hx13.obj HE12 nos) (Nat.le_of_ble_eq_true rfl) rfl rfl) rfl rfl ?_
                 rintro _ h14 ⟨HE14, hx14⟩)
      all_goals (have lE12 := lt_of_some HE12
                 have l12 := lt_of_some HJ12
                 have HJ14 := hx14.obj (hx13.obj HJ12 nos) (fun e => by omega)
                 have hb1314 := hx14.obj hb13 (fun e => by omega)
                 have hnd : Sf h0 h13 (fun q => q = b5) := fun q e => ⟨by have := x02.size; omega, fun ty => absurd (ty_one (hx13.obj HE12 nos) (e ▸ ty)) (by decide)⟩
                 have HT14 := (HT12.ext0 hx13).step hx14 hnd
                 have HB14 := (HB12.ext0 hx13).step hx14 hnd
                 have HC14 : Lst h0 h14 fun z => Ops z (.slice (some ⟨b13, 0, none⟩) 1 1) [(1, id1, ())] := (lst_blk hb1314 (by decide)).mono fun _ z => one_op z
                 have hf14 := (hf12.ext0 hx13).step hx14 hnd
                 have x014 : Ext No h0 h14 := (x012.trans hx13).trans' hx14 (fun q hq e => by have := x02.size; omega))
      all_goals (refine Gn ?_)
      all_goals (refine WC.sr ?_)
      all_goals (refine Go ?_)
      all_goals (refine WL.step (ok_load (fun w => Tryz.isAgg24 w) rfl (by first | exact cell_blk HJ14 rfl | assumption | exact cell_blk (by assumption) rfl)) rfl rfl rfl ?_)
      all_goals (refine Go ?_)
      all_goals (refine WL.step (ok_load (fun w => Tryz.isAgg3 w) rfl (by first | exact cell_blk HJ14 rfl | assumption | exact cell_blk (by assumption) rfl)) rfl rfl rfl ?_)
      all_goals (refine WL.call (vs := [_, _]) rfl (fun a w => Tryz.call89 a w) rfl (kroom _ (((hsp.step XX12 hd.sf).ext0 hx13).step hx14 hnd).now) rfl rfl rfl ?_
                 rintro _ h15 ⟨vF, vE, L, M, rfl, hoF, hoE, hL1, hM1, f1, f2, p1, p2, hx15, fF, fE⟩)
      all_goals (have HJ15 := hx15.obj HJ14 nos
                 have HE15 := hx15.obj HE14 nos
                 have hT := HT14.ext0 hx15
                 have hB := HB14.ext0 hx15
                 have hC' := HC14.ext0 hx15
                 have hF := hf14.ext0 hx15
                 have l14 := lt_of_some HJ14
                 have lE14 := lt_of_some HE14
                 have nF : ¬ vF.ownBlock = some b1 := fun e => by have := fF b1 e; omega
                 have nE : ¬ vE.ownBlock = some b1 := fun e => by have := fE b1 e; omega
                 have n4 : ¬ vF.ownBlock = some b5 := fun e => by have := fF b5 e; omega
                 have n4E : ¬ vE.ownBlock = some b5 := fun e => by have := fE b5 e; omega
                 have hE : Ext (fun q => vF.ownBlock = some q ∨ vE.ownBlock = some q) h15 h15 := .refl _ _
                 clear kput kl kref kc kroom ke
                 have kF := hoF
                 have kE := hoE
                 have hsf : ∀ {g : Heap} {S : Nat → Prop}, (∀ q, S q → vF.ownBlock = some q ∨ vE.ownBlock = some q) → Own g vF 27 10 L.length (L.flatMap Fm.cells) → Own g vE 44 8 M.length (M.flatMap En.cells) → Sf h0 g S := fun hS oF oE q e => ⟨by have := x014.size; rcases hS q e with z | z; exact Nat.le_trans this (fF q z); exact Nat.le_trans this (fE q z), fun ty => by rcases hS q e with z | z; (obtain ⟨_, y⟩ := own_ty oF z; exact absurd (ty_one y ty) (by decide)); (obtain ⟨_, y⟩ := own_ty oE z; exact absurd (ty_one y ty) (by decide))⟩)
      all_goals (refine Go ?_)
      all_goals (refine WC.sub [(1, _), (4, _), (5, _), (6, _), (7, _)] ⟨rfl, rfl, rfl, rfl, rfl, trivial⟩ ?_)
      all_goals (refine WC.seq ?_)
      all_goals (refine WC.drawH (fun h' => Ext (fun q => vF.ownBlock = some q ∨ vE.ownBlock = some q) h15 h') 13 13 rfl fol ?_)
      all_goals (refine WH.tk 0 rfl (fun hq hC => ok_move rfl) rfl rfl rfl ?_)
      all_goals (refine WH.tk 1 rfl (fun hq hC => ok_loadN (fun w => Tryz.isAgg74 w) (fun w => Tryz.sizeOf74 w) rfl rfl (by exact ((At.of_block HJ15).ext hC (fun e => e.elim nF nE)))) rfl rfl rfl ?_)
      all_goals (refine WH.tk 2 rfl (fun hq hC => ok_move rfl) rfl rfl rfl ?_)
      all_goals (refine WH.tk 7 rfl (fun hq hC => ok_move rfl) rfl rfl rfl ?_)
      all_goals (refine WH.tk 8 rfl (fun hq hC => ok_loadN (fun w => Tryz.isAgg44 w) (fun w => Tryz.sizeOf44 w) rfl rfl (by exact ((At.of_block HE15).ext hC (fun e => e.elim n4 n4E)))) rfl rfl rfl ?_)
      all_goals (refine WH.two 3 9 (by kernel_rfl) (Br.out (i := 5012) ?_) (Br.out (i := 5013) ?_))
      all_goals (first | (fail_if_success refine goB 5012 ?_) | (
      refine goB 5012 ?_
      all_goals (refine Comes1.call (vs := [_]) rfl rfl (fun a w => Tryz.call90 a w) rfl (srv_any id1) rfl rfl rfl ?_ (fun _ => by kernel_rfl)
                 rintro _ g1 ⟨rfl, y1⟩)
      all_goals (refine ⟨fun _ => hE.trans (y1.mono fun _ _ e => e.elim), ?_⟩)
      all_goals (replace hE := hE.trans (y1.mono (S' := fun q => vF.ownBlock = some q ∨ vE.ownBlock = some q) fun _ _ e => e.elim)
                 replace hoF := hoF.ext y1 (fun _ _ => nos)
                 replace hoE := hoE.ext y1 (fun _ _ => nos)
                 replace f2 := f2_ext f2 y1 (fun _ _ _ => nos)
                 replace hT := hT.ext0 y1
                 replace hB := hB.ext0 y1
                 replace hC' := hC'.ext0 y1
                 replace hF := hF.ext0 y1
                 try replace hb9e := y1.obj hb9e nos)
      all_goals (refine WH.two 4 9 (by kernel_rfl) (Br.out (i := 5012) ?_) (Br.out (i := 5013) ?_))
      all_goals (first | (fail_if_success refine goB 5012 ?_) | (
      refine goB 5012 ?_
      all_goals (refine Comes1.call (vs := [_, _]) rfl rfl (fun a w => Tryz.call84 a w) rfl (ka _ (srvL id1)) rfl rfl rfl ?_ (fun _ => by kernel_rfl)
                 rintro _ g2 ⟨rfl, y2⟩)
      all_goals (refine ⟨fun _ => hE.trans (y2.mono fun _ _ e => e.elim), ?_⟩)
      all_goals (replace hE := hE.trans (y2.mono (S' := fun q => vF.ownBlock = some q ∨ vE.ownBlock = some q) fun _ _ e => e.elim)
                 replace hoF := hoF.ext y2 (fun _ _ => nos)
                 replace hoE := hoE.ext y2 (fun _ _ => nos)
                 replace f2 := f2_ext f2 y2 (fun _ _ _ => nos)
                 replace hT := hT.ext0 y2
                 replace hB := hB.ext0 y2
                 replace hC' := hC'.ext0 y2
                 replace hF := hF.ext0 y2
                 try replace hb9e := y2.obj hb9e nos)
      all_goals (refine WH.two 5 9 (by kernel_rfl) (Br.out (i := 5012) ?_) (Br.out (i := 5013) ?_))
      all_goals (first | (fail_if_success refine goB 5012 ?_) | (
      refine goB 5012 ?_
      all_goals (refine Comes1.run rfl (okE_buildSlice (vs := [_]) (cs := [_, _, _, _, _, _, _, _, _, _]) (fun | [.agg ⟨[a0, a1, a2, a3, a4, a5, a6, a7, a8, a9]⟩] => [a0, a1, a2, a3, a4, a5, a6, a7, a8, a9] | _ => []) Tryz.underlying36 rfl rfl (by kernel_rfl)) rfl rfl rfl ?_ (fun _ => by kernel_rfl)
                 rintro _ g3 ⟨q3, rfl, hgq3, hb3e, y3⟩)
      all_goals (refine ⟨fun _ => hE.trans (y3.mono fun _ _ e => e.elim), ?_⟩)
      all_goals (replace hE := hE.trans (y3.mono (S' := fun q => vF.ownBlock = some q ∨ vE.ownBlock = some q) fun _ _ e => e.elim)
                 replace hoF := hoF.ext y3 (fun _ _ => nos)
                 replace hoE := hoE.ext y3 (fun _ _ => nos)
                 replace f2 := f2_ext f2 y3 (fun _ _ _ => nos)
                 replace hT := hT.ext0 y3
                 replace hB := hB.ext0 y3
                 replace hC' := hC'.ext0 y3
                 replace hF := hF.ext0 y3
                 try replace hb9e := y3.obj hb9e nos)
      all_goals (refine WH.two 6 9 (by kernel_rfl) (Br.out (i := 5012) ?_) (Br.out (i := 5013) ?_))
      all_goals (first | (fail_if_success refine goB 5012 ?_) | (
      refine goB 5012 ?_
      all_goals (refine Comes1.run rfl (ok_append (sz := 10) (bytes := 160) rfl Tryz.underlying36 (show Tryz.prog.info? 27 = some Tryz.t27 by kernel_rfl) rfl rfl rfl rfl (by decide) rfl rfl hoF (rd_blk hb3e rfl) (by simp [Value.oneCell']) (by simp only [maxLen]; omega) (by omega)) rfl rfl rfl ?_ (fun _ => by kernel_rfl)
                 rintro v6 g4 ⟨hoF6, y4, hl6⟩)
      all_goals (refine ⟨fun _ => hE.trans (y4.mono fun _ _ e => .inl e), ?_⟩)
      all_goals (have hsz6 := y4.size
                 have hs4f := hsf (S := fun q => vF.ownBlock = some q) (fun q e => .inl e) hoF hoE
                 have hgF := fresh_of hl6 fF (Nat.le_trans hx15.size hE.size)
                 replace hE := hE.trans (y4.mono (S' := fun q => vF.ownBlock = some q ∨ vE.ownBlock = some q) fun _ _ e => .inl e)
                 replace hoE := hoE.ext y4 (fun q hq e => own_apart hoF hoE (by decide) q hq e)
                 replace f2 := f2_ext f2 y4 (fun b cs hb q => own_ne hoF hb (by decide) q)
                 replace hT := hT.step y4 hs4f
                 replace hB := hB.step y4 hs4f
                 replace hC' := hC'.step y4 hs4f
                 replace hF := hF.step y4 hs4f
                 try replace hb9e := y4.obj hb9e (fun q => own_ne hoF hb9e (by decide) q))
      all_goals (refine WH.one 9 (by kernel_rfl) ?_)
      all_goals (refine Comes1.run rfl (okE_buildSlice (vs := [_]) (cs := [_, _, _, _, _, _, _, _]) (fun | [.agg ⟨[a0, a1, a2, a3, a4, a5, a6, a7]⟩] => [a0, a1, a2, a3, a4, a5, a6, a7] | _ => []) Tryz.underlying37 rfl rfl (by kernel_rfl)) rfl rfl rfl ?_ (fun _ => by kernel_rfl)
                 rintro _ g5 ⟨q9, rfl, hgq9, hb9e, y5⟩)
      all_goals (refine ⟨fun _ => hE.trans (y5.mono fun _ _ e => e.elim), ?_⟩)
      all_goals (replace hE := hE.trans (y5.mono (S' := fun q => vF.ownBlock = some q ∨ vE.ownBlock = some q) fun _ _ e => e.elim)
                 try replace hoF := hoF.ext y5 (fun _ _ => nos)
                 try replace hoF6 := hoF6.ext y5 (fun _ _ => nos)
                 try replace hb3e := y5.obj hb3e nos
                 replace hoE := hoE.ext y5 (fun _ _ => nos)
                 replace f2 := f2_ext f2 y5 (fun _ _ _ => nos)
                 replace hT := hT.ext0 y5
                 replace hB := hB.ext0 y5
                 replace hC' := hC'.ext0 y5
                 replace hF := hF.ext0 y5)
      all_goals (refine WH.one 10 (by kernel_rfl) ?_)
      all_goals (refine Comes1.run rfl (ok_append (sz := 8) (bytes := 144) rfl Tryz.underlying37 (show Tryz.prog.info? 44 = some Tryz.t44 by kernel_rfl) rfl rfl rfl rfl (by decide) rfl rfl hoE (rd_blk hb9e rfl) (by simp [Value.oneCell']) (by simp only [maxLen]; omega) (by omega)) rfl rfl rfl ?_ (fun _ => by kernel_rfl)
                 rintro v10 g6 ⟨hoE10, y6, hl10⟩)
      all_goals (refine ⟨fun _ => hE.trans (y6.mono fun _ _ e => .inr e), ?_⟩)
      all_goals (have hgE := fresh_of hl10 fE (Nat.le_trans hx15.size hE.size)
                 have hs6f : Sf h0 _ (fun q => vE.ownBlock = some q) := fun q e => ⟨Nat.le_trans x014.size (fE q e), fun ty => by obtain ⟨_, y⟩ := own_ty hoE e; exact absurd (ty_one y ty) (by decide)⟩
                 replace hE := hE.trans (y6.mono (S' := fun q => vF.ownBlock = some q ∨ vE.ownBlock = some q) fun _ _ e => .inr e)
                 replace hoF6 := hoF6.ext y6 (fun q hq e => own_apart hoE hoF6 (by decide) q hq e)
                 replace f2 := f2_ext f2 y6 (fun b cs hb q => own_ne hoE hb (by decide) q)
                 replace hT := hT.step y6 hs6f
                 replace hB := hB.step y6 hs6f
                 replace hC' := hC'.step y6 hs6f
                 replace hF := hF.step y6 hs6f)
      all_goals (refine WH.tk 11 rfl (fun hq hC => ok_assign rfl) rfl rfl rfl ?_)
      all_goals (refine WH.tk 12 rfl (fun hq hC => ok_assign rfl) rfl rfl rfl ?_)
      all_goals (refine WH.done (by kernel_rfl) ?_)
      skip))
      all_goals (first | (fail_if_success refine goB 5013 ?_) | (
      refine goB 5013 ?_
      all_goals (refine Comes1.run rfl (okE_buildSlice (vs := [_]) (cs := [_, _, _, _, _, _, _, _]) (fun | [.agg ⟨[a0, a1, a2, a3, a4, a5, a6, a7]⟩] => [a0, a1, a2, a3, a4, a5, a6, a7] | _ => []) Tryz.underlying37 rfl rfl (by kernel_rfl)) rfl rfl rfl ?_ (fun _ => by kernel_rfl)
                 rintro _ g5 ⟨q9, rfl, hgq9, hb9e, y5⟩)
      all_goals (refine ⟨fun _ => hE.trans (y5.mono fun _ _ e => e.elim), ?_⟩)
      all_goals (replace hE := hE.trans (y5.mono (S' := fun q => vF.ownBlock = some q ∨ vE.ownBlock = some q) fun _ _ e => e.elim)
                 try replace hoF := hoF.ext y5 (fun _ _ => nos)
                 try replace hoF6 := hoF6.ext y5 (fun _ _ => nos)
                 try replace hb3e := y5.obj hb3e nos
                 replace hoE := hoE.ext y5 (fun _ _ => nos)
                 replace f2 := f2_ext f2 y5 (fun _ _ _ => nos)
                 replace hT := hT.ext0 y5
                 replace hB := hB.ext0 y5
                 replace hC' := hC'.ext0 y5
                 replace hF := hF.ext0 y5)
      all_goals (refine WH.one 6 (by kernel_rfl) ?_)
      all_goals (refine Comes1.run rfl (ok_append (sz := 10) (bytes := 160) rfl Tryz.underlying36 (show Tryz.prog.info? 27 = some Tryz.t27 by kernel_rfl) rfl rfl rfl rfl (by decide) rfl rfl hoF (rd_blk hb3e rfl) (by simp [Value.oneCell']) (by simp only [maxLen]; omega) (by omega)) rfl rfl rfl ?_ (fun _ => by kernel_rfl)
                 rintro v6 g4 ⟨hoF6, y4, hl6⟩)
      all_goals (refine ⟨fun _ => hE.trans (y4.mono fun _ _ e => .inl e), ?_⟩)
      all_goals (have hsz6 := y4.size
                 have hs4f := hsf (S := fun q => vF.ownBlock = some q) (fun q e => .inl e) hoF hoE
                 have hgF := fresh_of hl6 fF (Nat.le_trans hx15.size hE.size)
                 replace hE := hE.trans (y4.mono (S' := fun q => vF.ownBlock = some q ∨ vE.ownBlock = some q) fun _ _ e => .inl e)
                 replace hoE := hoE.ext y4 (fun q hq e => own_apart hoF hoE (by decide) q hq e)
                 replace f2 := f2_ext f2 y4 (fun b cs hb q => own_ne hoF hb (by decide) q)
                 replace hT := hT.step y4 hs4f
                 replace hB := hB.step y4 hs4f
                 replace hC' := hC'.step y4 hs4f
                 replace hF := hF.step y4 hs4f
                 try replace hb9e := y4.obj hb9e (fun q => own_ne hoF hb9e (by decide) q))
      all_goals (refine WH.one 10 (by kernel_rfl) ?_)
      all_goals (refine Comes1.run rfl (ok_append (sz := 8) (bytes := 144) rfl Tryz.underlying37 (show Tryz.prog.info? 44 = some Tryz.t44 by kernel_rfl) rfl rfl rfl rfl (by decide) rfl rfl hoE (rd_blk hb9e rfl) (by simp [Value.oneCell']) (by simp only [maxLen]; omega) (by omega)) rfl rfl rfl ?_ (fun _ => by kernel_rfl)
                 rintro v10 g6 ⟨hoE10, y6, hl10⟩)
      all_goals (refine ⟨fun _ => hE.trans (y6.mono fun _ _ e => .inr e), ?_⟩)
      all_goals (have hgE := fresh_of hl10 fE (Nat.le_trans hx15.size hE.size)
                 have hs6f : Sf h0 _ (fun q => vE.ownBlock = some q) := fun q e => ⟨Nat.le_trans x014.size (fE q e), fun ty => by obtain ⟨_, y⟩ := own_ty hoE e; exact absurd (ty_one y ty) (by decide)⟩
                 replace hE := hE.trans (y6.mono (S' := fun q => vF.ownBlock = some q ∨ vE.ownBlock = some q) fun _ _ e => .inr e)
                 replace hoF6 := hoF6.ext y6 (fun q hq e => own_apart hoE hoF6 (by decide) q hq e)
                 replace f2 := f2_ext f2 y6 (fun b cs hb q => own_ne hoE hb (by decide) q)
                 replace hT := hT.step y6 hs6f
                 replace hB := hB.step y6 hs6f
                 replace hC' := hC'.step y6 hs6f
                 replace hF := hF.step y6 hs6f)
      all_goals (refine WH.tk 11 rfl (fun hq hC => ok_assign rfl) rfl rfl rfl ?_)
      all_goals (refine WH.tk 12 rfl (fun hq hC => ok_assign rfl) rfl rfl rfl ?_)
      all_goals (refine WH.done (by kernel_rfl) ?_)
      skip))
      skip))
      all_goals (first | (fail_if_success refine goB 5013 ?_) | (
      refine goB 5013 ?_
      all_goals (refine Comes1.run rfl (okE_buildSlice (vs := [_]) (cs := [_, _, _, _, _, _, _, _]) (fun | [.agg ⟨[a0, a1, a2, a3, a4, a5, a6, a7]⟩] => [a0, a1, a2, a3, a4, a5, a6, a7] | _ => []) Tryz.underlying37 rfl rfl (by kernel_rfl)) rfl rfl rfl ?_ (fun _ => by kernel_rfl)
                 rintro _ g5 ⟨q9, rfl, hgq9, hb9e, y5⟩)
      all_goals (refine ⟨fun _ => hE.trans (y5.mono fun _ _ e => e.elim), ?_⟩)
      all_goals (replace hE := hE.trans (y5.mono (S' := fun q => vF.ownBlock = some q ∨ vE.ownBlock = some q) fun _ _ e => e.elim)
                 try replace hoF := hoF.ext y5 (fun _ _ => nos)
                 try replace hoF6 := hoF6.ext y5 (fun _ _ => nos)
                 try replace hb3e := y5.obj hb3e nos
                 replace hoE := hoE.ext y5 (fun _ _ => nos)
                 replace f2 := f2_ext f2 y5 (fun _ _ _ => nos)
                 replace hT := hT.ext0 y5
                 replace hB := hB.ext0 y5
                 replace hC' := hC'.ext0 y5
                 replace hF := hF.ext0 y5)
      all_goals (refine WH.one 5 (by kernel_rfl) ?_)
      all_goals (refine Comes1.run rfl (okE_buildSlice (vs := [_]) (cs := [_, _, _, _, _, _, _, _, _, _]) (fun | [.agg ⟨[a0, a1, a2, a3, a4, a5, a6, a7, a8, a9]⟩] => [a0, a1, a2, a3, a4, a5, a6, a7, a8, a9] | _ => []) Tryz.underlying36 rfl rfl (by kernel_rfl)) rfl rfl rfl ?_ (fun _ => by kernel_rfl)
                 rintro _ g3 ⟨q3, rfl, hgq3, hb3e, y3⟩)
      all_goals (refine ⟨fun _ => hE.trans (y3.mono fun _ _ e => e.elim), ?_⟩)
      all_goals (replace hE := hE.trans (y3.mono (S' := fun q => vF.ownBlock = some q ∨ vE.ownBlock = some q) fun _ _ e => e.elim)
                 replace hoF := hoF.ext y3 (fun _ _ => nos)
                 replace hoE := hoE.ext y3 (fun _ _ => nos)
                 replace f2 := f2_ext f2 y3 (fun _ _ _ => nos)
                 replace hT := hT.ext0 y3
                 replace hB := hB.ext0 y3
                 replace hC' := hC'.ext0 y3
                 replace hF := hF.ext0 y3
                 try replace hb9e := y3.obj hb9e nos)
      all_goals (refine WH.one 6 (by kernel_rfl) ?_)
      all_goals (refine Comes1.run rfl (ok_append (sz := 10) (bytes := 160) rfl Tryz.underlying36 (show Tryz.prog.info? 27 = some Tryz.t27 by kernel_rfl) rfl rfl rfl rfl (by decide) rfl rfl hoF (rd_blk hb3e rfl) (by simp [Value.oneCell']) (by simp only [maxLen]; omega) (by omega)) rfl rfl rfl ?_ (fun _ => by kernel_rfl)
                 rintro v6 g4 ⟨hoF6, y4, hl6⟩)
      all_goals (refine ⟨fun _ => hE.trans (y4.mono fun _ _ e => .inl e), ?_⟩)
      all_goals (have hsz6 := y4.size
                 have hs4f := hsf (S := fun q => vF.ownBlock = some q) (fun q e => .inl e) hoF hoE
                 have hgF := fresh_of hl6 fF (Nat.le_trans hx15.size hE.size)
                 replace hE := hE.trans (y4.mono (S' := fun q => vF.ownBlock = some q ∨ vE.ownBlock = some q) fun _ _ e => .inl e)
                 replace hoE := hoE.ext y4 (fun q hq e => own_apart hoF hoE (by decide) q hq e)
                 replace f2 := f2_ext f2 y4 (fun b cs hb q => own_ne hoF hb (by decide) q)
                 replace hT := hT.step y4 hs4f
                 replace hB := hB.step y4 hs4f
                 replace hC' := hC'.step y4 hs4f
                 replace hF := hF.step y4 hs4f
                 try replace hb9e := y4.obj hb9e (fun q => own_ne hoF hb9e (by decide) q))
      all_goals (refine WH.one 10 (by kernel_rfl) ?_)
      all_goals (refine Comes1.run rfl (ok_append (sz := 8) (bytes := 144) rfl Tryz.underlying37 (show Tryz.prog.info? 44 = some Tryz.t44 by kernel_rfl) rfl rfl rfl rfl (by decide) rfl rfl hoE (rd_blk hb9e rfl) (by simp [Value.oneCell']) (by simp only [maxLen]; omega) (by omega)) rfl rfl rfl ?_ (fun _ => by kernel_rfl)
                 rintro v10 g6 ⟨hoE10, y6, hl10⟩)
      all_goals (refine ⟨fun _ => hE.trans (y6.mono fun _ _ e => .inr e), ?_⟩)
      all_goals (have hgE := fresh_of hl10 fE (Nat.le_trans hx15.size hE.size)
                 have hs6f : Sf h0 _ (fun q => vE.ownBlock = some q) := fun q e => ⟨Nat.le_trans x014.size (fE q e), fun ty => by obtain ⟨_, y⟩ := own_ty hoE e; exact absurd (ty_one y ty) (by decide)⟩
                 replace hE := hE.trans (y6.mono (S' := fun q => vF.ownBlock = some q ∨ vE.ownBlock = some q) fun _ _ e => .inr e)
                 replace hoF6 := hoF6.ext y6 (fun q hq e => own_apart hoE hoF6 (by decide) q hq e)
                 replace f2 := f2_ext f2 y6 (fun b cs hb q => own_ne hoE hb (by decide) q)
                 replace hT := hT.step y6 hs6f
                 replace hB := hB.step y6 hs6f
                 replace hC' := hC'.step y6 hs6f
                 replace hF := hF.step y6 hs6f)
      all_goals (refine WH.tk 11 rfl (fun hq hC => ok_assign rfl) rfl rfl rfl ?_)
      all_goals (refine WH.tk 12 rfl (fun hq hC => ok_assign rfl) rfl rfl rfl ?_)
      all_goals (refine WH.done (by kernel_rfl) ?_)
      skip))
      skip))
      all_goals (first | (fail_if_success refine goB 5013 ?_) | (
      refine goB 5013 ?_
      all_goals (refine Comes1.run rfl (okE_buildSlice (vs := [_]) (cs := [_, _, _, _, _, _, _, _]) (fun | [.agg ⟨[a0, a1, a2, a3, a4, a5, a6, a7]⟩] => [a0, a1, a2, a3, a4, a5, a6, a7] | _ => []) Tryz.underlying37 rfl rfl (by kernel_rfl)) rfl rfl rfl ?_ (fun _ => by kernel_rfl)
                 rintro _ g5 ⟨q9, rfl, hgq9, hb9e, y5⟩)
      all_goals (refine ⟨fun _ => hE.trans (y5.mono fun _ _ e => e.elim), ?_⟩)
      all_goals (replace hE := hE.trans (y5.mono (S' := fun q => vF.ownBlock = some q ∨ vE.ownBlock = some q) fun _ _ e => e.elim)
                 try replace hoF := hoF.ext y5 (fun _ _ => nos)
                 try replace hoF6 := hoF6.ext y5 (fun _ _ => nos)
                 try replace hb3e := y5.obj hb3e nos
                 replace hoE := hoE.ext y5 (fun _ _ => nos)
                 replace f2 := f2_ext f2 y5 (fun _ _ _ => nos)
                 replace hT := hT.ext0 y5
                 replace hB := hB.ext0 y5
                 replace hC' := hC'.ext0 y5
                 replace hF := hF.ext0 y5)
      all_goals (refine WH.one 4 (by kernel_rfl) ?_)
      all_goals (refine Comes1.call (vs := [_, _]) rfl rfl (fun a w => Tryz.call84 a w) rfl (ka _ (srvL id1)) rfl rfl rfl ?_ (fun _ => by kernel_rfl)
                 rintro _ g2 ⟨rfl, y2⟩)
      all_goals (refine ⟨fun _ => hE.trans (y2.mono fun _ _ e => e.elim), ?_⟩)
      all_goals (replace hE := hE.trans (y2.mono (S' := fun q => vF.ownBlock = some q ∨ vE.ownBlock = some q) fun _ _ e => e.elim)
                 replace hoF := hoF.ext y2 (fun _ _ => nos)
                 replace hoE := hoE.ext y2 (fun _ _ => nos)
                 replace f2 := f2_ext f2 y2 (fun _ _ _ => nos)
                 replace hT := hT.ext0 y2
                 replace hB := hB.ext0 y2
                 replace hC' := hC'.ext0 y2
                 replace hF := hF.ext0 y2
                 try replace hb9e := y2.obj hb9e nos)
      all_goals (refine WH.one 5 (by kernel_rfl) ?_)
      all_goals (refine Comes1.run rfl (okE_buildSlice (vs := [_]) (cs := [_, _, _, _, _, _, _, _, _, _]) (fun | [.agg ⟨[a0, a1, a2, a3, a4, a5, a6, a7, a8, a9]⟩] => [a0, a1, a2, a3, a4, a5, a6, a7, a8, a9] | _ => []) Tryz.underlying36 rfl rfl (by kernel_rfl)) rfl rfl rfl ?_ (fun _ => by kernel_rfl)
                 rintro _ g3 ⟨q3, rfl, hgq3, hb3e, y3⟩)
      all_goals (refine ⟨fun _ => hE.trans (y3.mono fun _ _ e => e.elim), ?_⟩)
      all_goals (replace hE := hE.trans (y3.mono (S' := fun q => vF.ownBlock = some q ∨ vE.ownBlock = some q) fun _ _ e => e.elim)
                 replace hoF := hoF.ext y3 (fun _ _ => nos)
                 replace hoE := hoE.ext y3 (fun _ _ => nos)
                 replace f2 := f2_ext f2 y3 (fun _ _ _ => nos)
                 replace hT := hT.ext0 y3
                 replace hB := hB.ext0 y3
                 replace hC' := hC'.ext0 y3
                 replace hF := hF.ext0 y3
                 try replace hb9e := y3.obj hb9e nos)
      all_goals (refine WH.one 6 (by kernel_rfl) ?_)
      all_goals (refine Comes1.run rfl (ok_append (sz := 10) (bytes := 160) rfl Tryz.underlying36 (show Tryz.prog.info? 27 = some Tryz.t27 by kernel_rfl) rfl rfl rfl rfl (by decide) rfl rfl hoF (rd_blk hb3e rfl) (by simp [Value.oneCell']) (by simp only [maxLen]; omega) (by omega)) rfl rfl rfl ?_ (fun _ => by kernel_rfl)
                 rintro v6 g4 ⟨hoF6, y4, hl6⟩)
      all_goals (refine ⟨fun _ => hE.trans (y4.mono fun _ _ e => .inl e), ?_⟩)
      all_goals (have hsz6 := y4.size
                 have hs4f := hsf (S := fun q => vF.ownBlock = some q) (fun q e => .inl e) hoF hoE
                 have hgF := fresh_of hl6 fF (Nat.le_trans hx15.size hE.size)
                 replace hE := hE.trans (y4.mono (S' := fun q => vF.ownBlock = some q ∨ vE.ownBlock = some q) fun _ _ e => .inl e)
                 replace hoE := hoE.ext y4 (fun q hq e => own_apart hoF hoE (by decide) q hq e)
                 replace f2 := f2_ext f2 y4 (fun b cs hb q => own_ne hoF hb (by decide) q)
                 replace hT := hT.step y4 hs4f
                 replace hB := hB.step y4 hs4f
                 replace hC' := hC'.step y4 hs4f
                 replace hF := hF.step y4 hs4f
                 try replace hb9e := y4.obj hb9e (fun q => own_ne hoF hb9e (by decide) q))
      all_goals (refine WH.one 10 (by kernel_rfl) ?_)
      all_goals (refine Comes1.run rfl (ok_append (sz := 8) (bytes := 144) rfl Tryz.underlying37 (show Tryz.prog.info? 44 = some Tryz.t44 by kernel_rfl) rfl rfl rfl rfl (by decide) rfl rfl hoE (rd_blk hb9e rfl) (by simp [Value.oneCell']) (by simp only [maxLen]; omega) (by omega)) rfl rfl rfl ?_ (fun _ => by kernel_rfl)
                 rintro v10 g6 ⟨hoE10, y6, hl10⟩)
      all_goals (refine ⟨fun _ => hE.trans (y6.mono fun _ _ e => .inr e), ?_⟩)
      all_goals (have hgE := fresh_of hl10 fE (Nat.le_trans hx15.size hE.size)
                 have hs6f : Sf h0 _ (fun q => vE.ownBlock = some q) := fun q e => ⟨Nat.le_trans x014.size (fE q e), fun ty => by obtain ⟨_, y⟩ := own_ty hoE e; exact absurd (ty_one y ty) (by decide)⟩
                 replace hE := hE.trans (y6.mono (S' := fun q => vF.ownBlock = some q ∨ vE.ownBlock = some q) fun _ _ e => .inr e)
                 replace hoF6 := hoF6.ext y6 (fun q hq e => own_apart hoE hoF6 (by decide) q hq e)
                 replace f2 := f2_ext f2 y6 (fun b cs hb q => own_ne hoE hb (by decide) q)
                 replace hT := hT.step y6 hs6f
                 replace hB := hB.step y6 hs6f
                 replace hC' := hC'.step y6 hs6f
                 replace hF := hF.step y6 hs6f)
      all_goals (refine WH.tk 11 rfl (fun hq hC => ok_assign rfl) rfl rfl rfl ?_)
      all_goals (refine WH.tk 12 rfl (fun hq hC => ok_assign rfl) rfl rfl rfl ?_)
      all_goals (refine WH.done (by kernel_rfl) ?_)
      skip))
      skip))
      all_goals (first | (fail_if_success refine goB 5013 ?_) | (
      refine goB 5013 ?_
      all_goals (refine Comes1.run rfl (okE_buildSlice (vs := [_]) (cs := [_, _, _, _, _, _, _, _]) (fun | [.agg ⟨[a0, a1, a2, a3, a4, a5, a6, a7]⟩] => [a0, a1, a2, a3, a4, a5, a6, a7] | _ => []) Tryz.underlying37 rfl rfl (by kernel_rfl)) rfl rfl rfl ?_ (fun _ => by kernel_rfl)
                 rintro _ g5 ⟨q9, rfl, hgq9, hb9e, y5⟩)
      all_goals (refine ⟨fun _ => hE.trans (y5.mono fun _ _ e => e.elim), ?_⟩)
      all_goals (replace hE := hE.trans (y5.mono (S' := fun q => vF.ownBlock = some q ∨ vE.ownBlock = some q) fun _ _ e => e.elim)
                 try replace hoF := hoF.ext y5 (fun _ _ => nos)
                 try replace hoF6 := hoF6.ext y5 (fun _ _ => nos)
                 try replace hb3e := y5.obj hb3e nos
                 replace hoE := hoE.ext y5 (fun _ _ => nos)
                 replace f2 := f2_ext f2 y5 (fun _ _ _ => nos)
                 replace hT := hT.ext0 y5
                 replace hB := hB.ext0 y5
                 replace hC' := hC'.ext0 y5
                 replace hF := hF.ext0 y5)
      all_goals (refine WH.one 3 (by kernel_rfl) ?_)
      all_goals (refine Comes1.call (vs := [_]) rfl rfl (fun a w => Tryz.call90 a w) rfl (srv_any id1) rfl rfl rfl ?_ (fun _ => by kernel_rfl)
                 rintro _ g1 ⟨rfl, y1⟩)
      all_goals (refine ⟨fun _ => hE.trans (y1.mono fun _ _ e => e.elim), ?_⟩)
      all_goals (replace hE := hE.trans (y1.mono (S' := fun q => vF.ownBlock = some q ∨ vE.ownBlock = some q) fun _ _ e => e.elim)
                 replace hoF := hoF.ext y1 (fun _ _ => nos)
                 replace hoE := hoE.ext y1 (fun _ _ => nos)
                 replace f2 := f2_ext f2 y1 (fun _ _ _ => nos)
                 replace hT := hT.ext0 y1
                 replace hB := hB.ext0 y1
                 replace hC' := hC'.ext0 y1
                 replace hF := hF.ext0 y1
                 try replace hb9e := y1.obj hb9e nos)
      all_goals (refine WH.one 4 (by kernel_rfl) ?_)
      all_goals (refine Comes1.call (vs := [_, _]) rfl rfl (fun a w => Tryz.call84 a w) rfl (ka _ (srvL id1)) rfl rfl rfl ?_ (fun _ => by kernel_rfl)
                 rintro _ g2 ⟨rfl, y2⟩)
      all_goals (refine ⟨fun _ => hE.trans (y2.mono fun _ _ e => e.elim), ?_⟩)
      all_goals (replace hE := hE.trans (y2.mono (S' := fun q => vF.ownBlock = some q ∨ vE.ownBlock = some q) fun _ _ e => e.elim)
                 replace hoF := hoF.ext y2 (fun _ _ => nos)
                 replace hoE := hoE.ext y2 (fun _ _ => nos)
                 replace f2 := f2_ext f2 y2 (fun _ _ _ => nos)
                 replace hT := hT.ext0 y2
                 replace hB := hB.ext0 y2
                 replace hC' := hC'.ext0 y2
                 replace hF := hF.ext0 y2
                 try replace hb9e := y2.obj hb9e nos)
      all_goals (refine WH.one 5 (by kernel_rfl) ?_)
      all_goals (refine Comes1.run rfl (okE_buildSlice (vs := [_]) (cs := [_, _, _, _, _, _, _, _, _, _]) (fun | [.agg ⟨[a0, a1, a2, a3, a4, a5, a6, a7, a8, a9]⟩] => [a0, a1, a2, a3, a4, a5, a6, a7, a8, a9] | _ => []) Tryz.underlying36 rfl rfl (by kernel_rfl)) rfl rfl rfl ?_ (fun _ => by kernel_rfl)
                 rintro _ g3 ⟨q3, rfl, hgq3, hb3e, y3⟩)
      all_goals (refine ⟨fun _ => hE.trans (y3.mono fun _ _ e => e.elim), ?_⟩)
      all_goals (replace hE := hE.trans (y3.mono (S' := fun q => vF.ownBlock = some q ∨ vE.ownBlock = some q) fun _ _ e => e.elim)
                 replace hoF := hoF.ext y3 (fun _ _ => nos)
                 replace hoE := hoE.ext y3 (fun _ _ => nos)
                 replace f2 := f2_ext f2 y3 (fun _ _ _ => nos)
                 replace hT := hT.ext0 y3
                 replace hB := hB.ext0 y3
                 replace hC' := hC'.ext0 y3
                 replace hF := hF.ext0 y3
                 try replace hb9e := y3.obj hb9e nos)
      all_goals (refine WH.one 6 (by kernel_rfl) ?_)
      all_goals (refine Comes1.run rfl (ok_append (sz := 10) (bytes := 160) rfl Tryz.underlying36 (show Tryz.prog.info? 27 = some Tryz.t27 by kernel_rfl) rfl rfl rfl rfl (by decide) rfl rfl hoF (rd_blk hb3e rfl) (by simp [Value.oneCell']) (by simp only [maxLen]; omega) (by omega)) rfl rfl rfl ?_ (fun _ => by kernel_rfl)
                 rintro v6 g4 ⟨hoF6, y4, hl6⟩)
      all_goals (refine ⟨fun _ => hE.trans (y4.mono fun _ _ e => .inl e), ?_⟩)
      all_goals (have hsz6 := y4.size
                 have hs4f := hsf (S := fun q => vF.ownBlock = some q) (fun q e => .inl e) hoF hoE
                 have hgF := fresh_of hl6 fF (Nat.le_trans hx15.size hE.size)
                 replace hE := hE.trans (y4.mono (S' := fun q => vF.ownBlock = some q ∨ vE.ownBlock = some q) fun _ _ e => .inl e)
                 replace hoE := hoE.ext y4 (fun q hq e => own_apart hoF hoE (by decide) q hq e)
                 replace f2 := f2_ext f2 y4 (fun b cs hb q => own_ne hoF hb (by decide) q)
                 replace hT := hT.step y4 hs4f
                 replace hB := hB.step y4 hs4f
                 replace hC' := hC'.step y4 hs4f
                 replace hF := hF.step y4 hs4f
                 try replace hb9e := y4.obj hb9e (fun q => own_ne hoF hb9e (by decide) q))
      all_goals (refine WH.one 10 (by kernel_rfl) ?_)
      all_goals (refine Comes1.run rfl (ok_append (sz := 8) (bytes := 144) rfl Tryz.underlying37 (show Tryz.prog.info? 44 = some Tryz.t44 by kernel_rfl) rfl rfl rfl rfl (by decide) rfl rfl hoE (rd_blk hb9e rfl) (by simp [Value.oneCell']) (by simp only [maxLen]; omega) (by omega)) rfl rfl rfl ?_ (fun _ => by kernel_rfl)
                 rintro v10 g6 ⟨hoE10, y6, hl10⟩)
      all_goals (refine ⟨fun _ => hE.trans (y6.mono fun _ _ e => .inr e), ?_⟩)
      all_goals (have hgE := fresh_of hl10 fE (Nat.le_trans hx15.size hE.size)
                 have hs6f : Sf h0 _ (fun q => vE.ownBlock = some q) := fun q e => ⟨Nat.le_trans x014.size (fE q e), fun ty => by obtain ⟨_, y⟩ := own_ty hoE e; exact absurd (ty_one y ty) (by decide)⟩
                 replace hE := hE.trans (y6.mono (S' := fun q => vF.ownBlock = some q ∨ vE.ownBlock = some q) fun _ _ e => .inr e)
                 replace hoF6 := hoF6.ext y6 (fun q hq e => own_apart hoE hoF6 (by decide) q hq e)
                 replace f2 := f2_ext f2 y6 (fun b cs hb q => own_ne hoE hb (by decide) q)
                 replace hT := hT.step y6 hs6f
                 replace hB := hB.step y6 hs6f
                 replace hC' := hC'.step y6 hs6f
                 replace hF := hF.step y6 hs6f)
      all_goals (refine WH.tk 11 rfl (fun hq hC => ok_assign rfl) rfl rfl rfl ?_)
      all_goals (refine WH.tk 12 rfl (fun hq hC => ok_assign rfl) rfl rfl rfl ?_)
      all_goals (refine WH.done (by kernel_rfl) ?_)
      skip))
      all_goals (refine Gn ?_)
      all_goals (refine WC.sub [(2, _), (3, _)] ⟨rfl, rfl, trivial⟩ ?_)
      all_goals (refine WC.ret ?_)
      all_goals (repeat' (with_reducible first | refine thenP_r ?_ | refine blockP_r ?_))
      all_goals (refine retP_2 _ _ ⟨rfl, rfl, trivial⟩ ?_)
      all_goals (try rw [show preBad [] = [(false, [], 0, ())] from if_pos rfl]
                 first
                  | (fail_if_success (have := hgE)
                     rw [hpl []] at hgv
                     exact ⟨hgv, (d2.ext0 X13).up (by omega) (by omega), X2.trans' X13 (fun q hq e => e.elim)⟩)
                  | (have hXX := ((XX12.trans' hx13 (fun _ _ e => e.elim)).trans' hx14 (fun q hq e => absurd (Nat.lt_of_lt_of_le hq (Nat.le_trans hs2 (Nat.le_trans hs3 hg5))) (by rw [show q = b5 from e]; exact Nat.lt_irrefl _))).trans' hx15 (fun _ _ e => e.elim)
                     have hd3 := ((d3.ext0 hx13).keep hx14 (fun q e => ⟨_, _, e ▸ hx13.obj HE12 nos, by decide⟩)).ext0 hx15
                     have hdf := hd3.keep hE (fun q e => e.elim (fun z => (own_ty kF z).elim fun _ y => ⟨_, _, y, by decide⟩) (fun z => (own_ty kE z).elim fun _ y => ⟨_, _, y, by decide⟩))
                     have hg := gives_snoc (h := h14) hoF6 hoE10 (by omega) (by omega) (fun x hx => lst_all (f1 x hx)) (okE_hi f2) (hfl _ hF (srvL id1)) (rE_ok hT hB hC') hgF hgE
                     rw [p1, p2, hpl] at hg
                     have hh14 : h.size ≤ h14.size := Nat.le_trans hs2 (Nat.le_trans HX.size (Nat.le_trans hs12 (Nat.le_trans hx13.size hx14.size)))
                     exact ⟨hg.from hh14, hdf.up (by omega) (by omega), hXX.trans' hE (fun q hq e => absurd (Nat.lt_of_lt_of_le hq hh14) (Nat.not_lt.2 (e.elim (fF q) (fE q))))⟩))
end
end Go.Proofs.YtggmocdbfbhklaaGreat


/-
  REWRITE (layer 24): the code's use of a statement; a C; what is done of any message.
-/
namespace Go.Proofs.YtggmocdbfbhklaaGreat
open Go Go.RK

def getT' (s : RS) (id : Int) : List UInt8 := ((getS s id).map (·.1)).getD []
def getO' (s : RS) (id : Int) : List Int := ((getS s id).map (·.2)).getD []
/-- A message that uses a statement. -/
def useA (s : RS) (lk : Int × Bool) (spec : List Int) (most : Int) (p : FmP) : RS × List FmP × List EnP :=
  if lk.2 = false then (s, [asP p noneL], [(entK p.1 p.2.1, false, noneL, p.2.2.1, [], [], [], [])])
  else (if lk.1 ∈ spec then s else refS s lk.1, readyF spec most lk.1 (getT' s lk.1) (getO' s lk.1) ++ [asP p (srvL lk.1)], readyE spec most lk.1 ++ [(entK p.1 p.2.1, false, srvL lk.1, p.2.2.1, [], [], [(3, lk.1, ())], [])])
section
variable {h0 h h1 h' : Heap} {B : Nat} {c : Int} {b m1 m2 bt : Nat} {s : RS} {f : Fm} {v : Value} {ss : Option Addr} {sn sc : Nat} {spec : List Int} {most jd : Int} {kn : Bool}
theorem Cst.olen (d : Cst h0 h B c b m1 m2 s) (id : Int) : (getO' s id).length ≤ 65535 := by
  obtain ⟨⟨L, r, e⟩, _⟩ := d
  unfold getO' getS
  cases hf : s.2.find? (idS id) with
  | none => simp
  | some q =>
    have hq := List.mem_of_find?_eq_some hf
    rw [← e] at hq
    obtain ⟨x, hx, rfl⟩ := List.mem_map.1 hq
    exact (fairS_yes (r.fair x hx)).2.1
theorem Dst.olen (d : Dst h0 h B bt s) (id : Int) : (getO' s id).length ≤ 65535 := by
  obtain ⟨⟨v, D, r, e⟩, _⟩ := d
  unfold getO' getS
  cases hf : s.2.find? (idS id) with
  | none => simp
  | some q =>
    have hq := List.mem_of_find?_eq_some hf
    rw [← e] at hq
    obtain ⟨x, hx, rfl⟩ := List.mem_map.1 hq
    exact r.bd.2 x hx
theorem fg_lst (k : FG h f) : Lst h0 h fun g => f.ok g := by
  rcases k with k | ⟨n, t, v, l, rfl, ho, hl⟩
  · exact lst_all k
  · exact (lst_own ho (by decide)).mono fun _ z => paM_ok _ _ z.rd hl
theorem ready_len {t : List UInt8} {l : List Int} : (readyF spec most jd t l).length = 0 ↔ jd ∈ spec := by
  unfold readyF
  split
  · simp [*]
  · simp [*]
set_option maxHeartbeats 4000000 in
set_option maxRecDepth 100000 in
theorem use24 (k : JH h0 h B c b m1 m2 s f (.slice ss sn sc) spec) : CallsH Tryz.prog 58 ⟨[.agg ⟨jC f b (.slice ss sn sc) most jd kn⟩]⟩ h fun u h' =>
    Gives h0 h (useA s (jd, kn) spec most f.pl).2.1 (useA s (jd, kn) spec most f.pl).2.2 u h' ∧ Cst h0 h' B (c + 2) b m1 m2 (useA s (jd, kn) spec most f.pl).1 ∧ Ext (CS h0 m1 m2 h) h h' := by
  have hf := k.f
  have x0 := k.x0
  have hcc := k.cc
  have hsl := k.sl
  have hsp := k.sp
  obtain ⟨_, _, hvs, _⟩ := hsp.now
  simp only [Value.slice.injEq] at hvs
  obtain ⟨rfl, rfl, rfl⟩ := hvs
  have hd := k.d
  have ka := fun h' nm => as24 (h := h') (b := b) (ss := ss) (sn := spec.length) (sc := sc) (most := most) (id := jd) (kn := kn) hf.now nm
  have ke := fun h' => entry24 (h := h') (b := b) (ss := ss) (sn := spec.length) (sc := sc) (most := most) (id := jd) (kn := kn) hf.now
  have kget := fun h' (x : Ext No h h') => c_get (hd.ext0 x) jd
  have hfl := fun (g : Heap) (l : Lst h0 g fun z => f.ok z) n => l.mono fun _ z => Fm.ok.named z n
  have hpl : ∀ n, ({ f with name := n } : Fm).pl = asP f.pl n := fun _ => rfl
  have kl := fun (g : Heap) (e : En) (l : Lst h0 g fun z => f.ok z) (le : Lst h0 g fun z => e.ok z) (x : h.size ≤ g.size) => alone24 (h0 := h0) (f := { f with name := noneL }) (e := e) (g := h) (hfl g l noneL) le x
  have hol := hd.olen jd
  have kready := fun h' (r : Rd h' (.slice ss spec.length sc) 1 spec.length (ints spec)) (w : Value) (hw : Rd h' w 1 (getO' s jd).length (ints (getO' s jd))) => ready_G (h := h') spec most jd (getT' s jd) (getO' s jd) r (by omega) hw (by omega)
  have kref := fun h' (d : Cst h0 h' B c b m1 m2 s) => c_ref d jd (by omega)
  have huse : useA s (jd, kn) spec most f.pl = if kn = false then (s, [asP f.pl noneL], [(entK f.kind f.what, false, noneL, f.name, [], [], [], [])])
      else (if jd ∈ spec then s else refS s jd, readyF spec most jd (getT' s jd) (getO' s jd) ++ [asP f.pl (srvL jd)], readyE spec most jd ++ [(entK f.kind f.what, false, srvL jd, f.name, [], [], [(3, jd, ())], [])]) := rfl
  rw [huse]
  clear huse
  have hrl := fun t l => ready_len (spec := spec) (most := most) (jd := jd) (t := t) (l := l)
  obtain ⟨⟨e1, _⟩, ⟨e2, _⟩, ⟨e3, _⟩, e4, _⟩ := hf.now
  generalize hP : f.pl = P at *
  generalize hK : entK f.kind f.what = K at *
  generalize hO : getO' s jd = O at *
  generalize hTt : getT' s jd = tx at *
  have kget2 : ∀ h' (x : Ext No h h'), CallsH Tryz.prog 92 ⟨[ptE b, In jd]⟩ h' fun u h2 => ∃ v', u = .tuple ⟨[.agg ⟨[St tx, v']⟩, .bool (getS s jd).isSome]⟩ ∧ Own h2 v' 3 1 O.length (ints O) ∧ Ext No h' h2 ∧ ∀ q, v'.ownBlock = some q → h'.size ≤ q := fun h' x => by rw [← hTt, ← hO]; exact kget h' x
  clear kget
  obtain ⟨fk, w, n, p, t, vo, o, vf, fs, vs, rs, vp, ps, mx⟩ := f
  dsimp only at e1 e2 e3 e4
  obtain ⟨_, _, rfl, _⟩ := e1
  obtain ⟨_, _, rfl, _⟩ := e2
  obtain ⟨_, _, rfl, _⟩ := e3
  obtain ⟨_, _, rfl, _⟩ := e4
  dsimp only [jC, Fm.cells, List.cons_append, List.nil_append, ptE, zE, En.cells] at ka ke kl kref kget2 hpl ⊢
  cases kn
  · rw [if_pos rfl]
    clear kready kref hrl kget2
    refine calls [(0, _)] Tryz.func58 rfl Tryz.ntmps58 rfl ⟨rfl, trivial⟩ ?_
    all_goals (refine WC.sr ?_)
    all_goals (refine WL.stepR (okE_box rfl) rfl rfl rfl ?_
               rintro _ h1 ⟨b1, rfl, hg1, hb1, hx1⟩)
    all_goals (refine Go ?_)
    all_goals (refine WC.sr ?_)
    all_goals (refine WL.step (ok_loadN (fun w => Tryz.isAgg74 w) (fun w => Tryz.sizeOf74 w) rfl rfl (by exact At.of_block hb1)) rfl rfl rfl ?_)
    all_goals (refine WL.call (vs := [_]) rfl (fun a w => Tryz.call61 a w) rfl (ke _) rfl rfl rfl ?_
               rintro _ h2 ⟨rfl, hx2⟩)
    all_goals (refine WL.stepR (okE_alloc (fun w => Tryz.zeroValue44 w)) rfl rfl rfl ?_
               rintro _ h3 ⟨b4, rfl, hg4, hb4, hx3⟩)
    all_goals (refine WL.stepR0 (okE_storeW (fun w => Tryz.sizeOf44 w) rfl rfl rfl hb4 rfl (by simp [Value.oneCell'])) rfl rfl ?_
               rintro _ h4 ⟨hb44, hx4⟩)
    all_goals (have l1 := lt_of_some hb1
               have hs1 := hx1.size
               have hs2 := hx2.size
               have hs3 := hx3.size
               have n14 : ¬ b1 = b4 := by omega
               have hb14 := hx4.obj ((hx2.trans hx3).obj hb1 nos) n14
               have X4 : Ext No h h4 := ((hx1.trans hx2).trans hx3).trans' hx4 (fun q hq e => by omega))
    all_goals (refine Gn ?_)
    all_goals (refine WC.sub [(1, _), (4, _)] ⟨rfl, rfl, trivial⟩ ?_)
    all_goals (refine WC.sr ?_)
    all_goals (refine Go ?_)
    all_goals (refine WL.step (ok_load (fun w => Tryz.isAgg9 w) rfl (by first | exact cell_blk hb14 rfl | assumption | exact cell_blk (by assumption) rfl)) rfl rfl rfl ?_)
    all_goals (refine Go ?_)
    all_goals (refine WL.stepR0 (okE_store (fun w => Tryz.sizeOf9 w) rfl rfl hb44 (Nat.le_of_ble_eq_true rfl) rfl rfl) rfl rfl ?_
               rintro _ h5 ⟨hb45, hx5⟩)
    all_goals (have hb15 := hx5.obj hb14 n14)
    all_goals (refine Gn ?_)
    all_goals (refine WC.sub [(1, _), (4, _)] ⟨rfl, rfl, trivial⟩ ?_)
    all_goals (refine WC.seq ?_)
    all_goals (refine WC.sr ?_)
    all_goals (refine Go ?_)
    all_goals (refine WL.step (ok_load (fun w => Tryz.isAgg4 w) rfl (by first | exact cell_blk hb15 rfl | assumption | exact cell_blk (by assumption) rfl)) rfl rfl rfl ?_)
    all_goals (refine Go ?_)
    all_goals (refine goC 1 2 ?_ ?_ <;> first | exact ⟨⟩ | refine Hb.mk fun hb => ?_ | skip)
    all_goals (first | (fail_if_success refine goB 1 ?_) | (
    refine goB 1 ?_
    all_goals (refine WC.sr ?_)
    all_goals (refine WL.call (vs := []) rfl (fun a w => Tryz.call91 a w) rfl (none24) rfl rfl rfl ?_
               rintro _ hz ⟨rfl, _⟩
               subst hz)
    all_goals (refine Go ?_)
    all_goals (refine WL.stepR0 (okE_store (fun w => Tryz.sizeOf9 w) rfl rfl hb45 (Nat.le_of_ble_eq_true rfl) rfl rfl) rfl rfl ?_
               rintro _ h6 ⟨hb46, hx6⟩)
    all_goals (have hb16 := hx6.obj hb15 n14
               have X6 : Ext No h h6 := (X4.trans' hx5 (fun q hq e => by omega)).trans' hx6 (fun q hq e => by omega))
    all_goals (refine Gn ?_)
    all_goals (refine WC.sub [(1, _), (4, _)] ⟨rfl, rfl, trivial⟩ ?_)
    all_goals (refine WC.seq ?_)
    all_goals (refine WC.drawH (fun h' => Ext No h6 h') 7 9 rfl fol ?_)
    all_goals (refine WH.tk 0 rfl (fun hq hC => ok_loadN (fun w => Tryz.isAgg74 w) (fun w => Tryz.sizeOf74 w) rfl rfl (by exact (At.of_block hb16).ext hC nos)) rfl rfl rfl ?_)
    all_goals (refine WH.tk 3 rfl (fun hq hC => ok_loadN (fun w => Tryz.isAgg44 w) (fun w => Tryz.sizeOf44 w) rfl rfl (by exact (At.of_block hb46).ext hC nos)) rfl rfl rfl ?_)
    all_goals (refine WH.one 1 (by kernel_rfl) ?_)
    all_goals (refine Comes1.call (vs := []) rfl rfl (fun a w => Tryz.call91 a w) rfl (none24) rfl rfl rfl ?_ (fun _ => by kernel_rfl)
               rintro _ hz ⟨rfl, _⟩
               subst hz)
    all_goals (refine ⟨fun _ => .refl _ _, ?_⟩)
    all_goals (refine WH.one 2 (by kernel_rfl) ?_)
    all_goals (refine Comes1.call (vs := [_, _]) rfl rfl (fun a w => Tryz.call84 a w) rfl (ka _ noneL) rfl rfl rfl ?_ (fun _ => by kernel_rfl)
               rintro _ h7 ⟨rfl, hx7⟩)
    all_goals (refine ⟨fun _ => hx7, ?_⟩)
    all_goals (refine WH.one 4 (by kernel_rfl) ?_)
    all_goals (refine Comes1.call (vs := [_, _]) rfl rfl (fun a w => Tryz.call62 a w) rfl (kl _ (zE K noneL n) (hf.ext0 (X6.trans hx7)) (lst_all (zE_ok _ _ _)) (X6.trans hx7).size) rfl rfl rfl ?_ (fun _ => by kernel_rfl)
               rintro _ h8 ⟨hgv, hx8⟩
               obtain ⟨vF, vE, L, M, rfl, _⟩ := id hgv)
    all_goals (refine ⟨fun _ => hx7.trans hx8, ?_⟩)
    all_goals (have hX78 := hx7.trans hx8)
    all_goals (refine WH.tk 5 rfl (fun hq hC => ok_extract rfl rfl) rfl rfl rfl ?_)
    all_goals (refine WH.tk 6 rfl (fun hq hC => ok_extract rfl rfl) rfl rfl rfl ?_)
    all_goals (refine WH.one 7 (by kernel_rfl) ?_)
    all_goals (refine Comes1.run rfl (OkP.r (ok_assign rfl)) rfl rfl rfl ?_ (fun _ => by kernel_rfl)
               rintro _ hz ⟨rfl, _⟩
               subst hz)
    all_goals (refine ⟨fun e => (by cases e), ?_⟩)
    all_goals (refine WH.one 8 (by kernel_rfl) ?_)
    all_goals (refine Comes1.run rfl (OkP.r (ok_assign rfl)) rfl rfl rfl ?_ (fun _ => by kernel_rfl)
               rintro _ hz ⟨rfl, _⟩
               subst hz)
    all_goals (refine ⟨fun e => (by cases e), ?_⟩)
    all_goals (refine WH.done (by kernel_rfl) ?_)
    all_goals (refine Gn ?_)
    all_goals (refine WC.sub [(2, _), (3, _)] ⟨rfl, rfl, trivial⟩ ?_)
    all_goals (refine WC.ret ?_)
    all_goals (repeat' (with_reducible first | refine thenP_r ?_ | refine blockP_r ?_))
    all_goals (refine retP_2 _ _ ⟨rfl, rfl, trivial⟩ ?_)
    all_goals (rw [hpl noneL] at hgv
               exact ⟨hgv, (hd.ext0 (X6.trans hX78)).up (by omega) (by omega), fs_no (X6.trans hX78)⟩)
    skip))
    all_goals (first | (fail_if_success refine goB 2 ?_) | (
    refine goB 2 ?_
    all_goals (refine WC.skip ?_)
    skip))
    all_goals (refine Gn ?_)
    all_goals (refine WC.sr ?_)
    all_goals (refine Go ?_)
    all_goals (refine WL.step (ok_load (fun w => Tryz.isAgg28 w) rfl (by first | assumption | exact cell_blk (by assumption) rfl)) rfl rfl rfl ?_)
    all_goals (refine Go ?_)
    all_goals (refine WL.step (ok_load (fun w => Tryz.isAgg3 w) rfl (by first | assumption | exact cell_blk (by assumption) rfl)) rfl rfl rfl ?_)
    all_goals (fail "no contract for call of (*remuda/reg.Registry).Get at 6.4")
    all_goals (refine Go ?_)
    all_goals (refine WL.stepR (okE_alloc (fun w => Tryz.zeroValue63 w)) rfl rfl rfl ?_
               rintro _ h1 ⟨b1, rfl, hg1, hb1, hx1⟩)
    all_goals (refine WL.stepR0 (okE_storeW (fun w => Tryz.sizeOf63 w) rfl rfl rfl (by assumption) rfl (by simp [Value.oneCell'])) rfl rfl ?_
               rintro _ h1 ⟨hb1, hx1⟩)
    all_goals (refine Go ?_)
    all_goals (refine WC.sub [(1, _), (4, _), (5, _)] ⟨rfl, rfl, rfl, trivial⟩ ?_)
    all_goals (refine WC.sr ?_)
    all_goals (refine Go ?_)
    all_goals (refine WL.step (ok_load (fun w => Tryz.isAgg24 w) rfl (by first | assumption | exact cell_blk (by assumption) rfl)) rfl rfl rfl ?_)
    all_goals (refine Go ?_)
    all_goals (refine WL.step (ok_load (fun w => Tryz.isAgg3 w) rfl (by first | assumption | exact cell_blk (by assumption) rfl)) rfl rfl rfl ?_)
    all_goals (refine Go ?_)
    all_goals (refine WL.step (ok_load (fun w => Tryz.isAgg3 w) rfl (by first | assumption | exact cell_blk (by assumption) rfl)) rfl rfl rfl ?_)
    all_goals (refine WL.step (ok_loadN (fun w => Tryz.isAgg63 w) (fun w => Tryz.sizeOf63 w) rfl rfl (by assumption)) rfl rfl rfl ?_)
    all_goals (fail "no contract for call of remuda/inject.Ready at 7.7")
    all_goals (refine Go ?_)
    all_goals (refine WC.sub [(1, _), (4, _), (7, _), (8, _)] ⟨rfl, rfl, rfl, rfl, trivial⟩ ?_)
    all_goals (refine WC.seq ?_)
    all_goals (refine WC.sr ?_)
    all_goals (refine Go ?_)
    all_goals (refine goC 3 4 ?_ ?_ <;> first | exact ⟨⟩ | refine Hb.mk fun hb => ?_ | skip)
    all_goals (first | (fail_if_success refine goB 4 ?_) | (
    refine goB 4 ?_
    all_goals (refine WC.skip ?_)
    skip))
    all_goals (refine Gn ?_)
    all_goals (refine WC.seq ?_)
    all_goals (refine WC.drawE fol (by kernel_rfl) ?_)
    all_goals (refine WQ.stepE (ok_fieldAddr rfl Tryz.underlying74 rfl (fun w => Tryz.sizeOf3 w)) rfl rfl rfl ?_)
    all_goals (refine WQ.stepE (ok_load (fun w => Tryz.isAgg3 w) rfl (by first | assumption | exact cell_blk (by assumption) rfl)) rfl rfl rfl ?_)
    all_goals (fail "no contract for call of remuda/names.Server at 10.2")
    all_goals (refine WQ.stepE (ok_fieldAddr rfl Tryz.underlying74 rfl (fun w => Tryz.sizeOf3 w)) rfl rfl rfl ?_)
    all_goals (refine WQ.stepE (ok_load (fun w => Tryz.isAgg3 w) rfl (by first | assumption | exact cell_blk (by assumption) rfl)) rfl rfl rfl ?_)
    all_goals (fail "no contract for call of remuda/rewrite.touch at 10.5")
    all_goals (refine WQ.stepE (ok_fieldAddr rfl Tryz.underlying44 rfl (fun w => Tryz.sizeOf9 w)) rfl rfl rfl ?_)
    all_goals (refine WL.stepR0 (okE_store (fun w => Tryz.sizeOf9 w) rfl rfl (by assumption) (Nat.le_of_ble_eq_true rfl) rfl rfl) rfl rfl ?_
               rintro _ h1 ⟨hb1, hx1⟩)
    all_goals (refine WQ.stepE (ok_fieldAddr rfl Tryz.underlying44 rfl (fun w => Tryz.sizeOf41 w)) rfl rfl rfl ?_)
    all_goals (refine WL.stepR0 (okE_store (fun w => Tryz.sizeOf41 w) rfl rfl (by assumption) (Nat.le_of_ble_eq_true rfl) rfl rfl) rfl rfl ?_
               rintro _ h1 ⟨hb1, hx1⟩)
    all_goals (refine WQ.nil ?_)
    all_goals (refine Gn ?_)
    all_goals (refine WC.sub [(1, _), (4, _), (7, _), (8, _)] ⟨rfl, rfl, rfl, rfl, trivial⟩ ?_)
    all_goals (refine WC.seq ?_)
    all_goals (refine WC.drawE fol (by kernel_rfl) ?_)
    all_goals (refine WQ.stepE (ok_move rfl) rfl rfl rfl ?_)
    all_goals (refine WQ.stepE (ok_loadN (fun w => Tryz.isAgg74 w) (fun w => Tryz.sizeOf74 w) rfl rfl (by assumption)) rfl rfl rfl ?_)
    all_goals (refine WQ.stepE (ok_fieldAddr rfl Tryz.underlying44 rfl (fun w => Tryz.sizeOf9 w)) rfl rfl rfl ?_)
    all_goals (refine WQ.stepE (ok_load (fun w => Tryz.isAgg9 w) rfl (by first | assumption | exact cell_blk (by assumption) rfl)) rfl rfl rfl ?_)
    all_goals (fail "no contract for call of (remuda/rewrite.job).as at 11.4")
    all_goals (refine WL.stepR (okE_buildSlice (vs := [_]) (cs := [_, _, _, _, _, _, _, _, _, _]) (fun | [.agg ⟨[a0, a1, a2, a3, a4, a5, a6, a7, a8, a9]⟩] => [a0, a1, a2, a3, a4, a5, a6, a7, a8, a9] | _ => []) Tryz.underlying36 rfl rfl (by kernel_rfl)) rfl rfl rfl ?_
               rintro _ h1 ⟨b1, rfl, hg1, hb1, hx1⟩)
    all_goals (refine WL.stepR (ok_append (sz := 10) (bytes := 160) rfl Tryz.underlying36 (show Tryz.prog.info? 27 = some Tryz.t27 by kernel_rfl) rfl rfl rfl rfl (by decide) rfl rfl (by assumption) (by first | assumption | exact rd_blk (by assumption) rfl) (by simp [Value.oneCell']) (by simp only [maxLen]; omega) (by omega)) rfl rfl rfl ?_
               rintro v1 h1 ⟨ho1, hx1, hl1⟩)
    all_goals (refine WQ.stepE (ok_move rfl) rfl rfl rfl ?_)
    all_goals (refine WQ.stepE (ok_loadN (fun w => Tryz.isAgg44 w) (fun w => Tryz.sizeOf44 w) rfl rfl (by assumption)) rfl rfl rfl ?_)
    all_goals (refine WL.stepR (okE_buildSlice (vs := [_]) (cs := [_, _, _, _, _, _, _, _]) (fun | [.agg ⟨[a0, a1, a2, a3, a4, a5, a6, a7]⟩] => [a0, a1, a2, a3, a4, a5, a6, a7] | _ => []) Tryz.underlying37 rfl rfl (by kernel_rfl)) rfl rfl rfl ?_
               rintro _ h1 ⟨b1, rfl, hg1, hb1, hx1⟩)
    all_goals (refine WL.stepR (ok_append (sz := 8) (bytes := 144) rfl Tryz.underlying37 (show Tryz.prog.info? 44 = some Tryz.t44 by kernel_rfl) rfl rfl rfl rfl (by decide) rfl rfl (by assumption) (by first | assumption | exact rd_blk (by assumption) rfl) (by simp [Value.oneCell']) (by simp only [maxLen]; omega) (by omega)) rfl rfl rfl ?_
               rintro v1 h1 ⟨ho1, hx1, hl1⟩)
    all_goals (refine WQ.stepE (ok_assign rfl) rfl rfl rfl ?_)
    all_goals (refine WQ.stepE (ok_assign rfl) rfl rfl rfl ?_)
    all_goals (refine WQ.nil ?_)
    all_goals (refine Gn ?_)
    all_goals (refine WC.sub [(2, _), (3, _)] ⟨rfl, rfl, trivial⟩ ?_)
    all_goals (refine WC.ret ?_)
    all_goals (repeat' (with_reducible first | refine thenP_r ?_ | refine blockP_r ?_))
    all_goals (refine retP_2 _ _ ⟨rfl, rfl, trivial⟩ ?_)
    all_goals (rw [hpl noneL] at hgv
               exact ⟨hgv, (hd.ext0 (X6.trans hX78)).up (by omega) (by omega), fs_no (X6.trans hX78)⟩)
  · rw [if_neg (by decide)]
    clear kl
    by_cases hin : jd ∈ spec
    all_goals first | rw [if_pos hin] | rw [if_neg hin]
    all_goals
      refine calls [(0, _)] Tryz.func58 rfl Tryz.ntmps58 rfl ⟨rfl, trivial⟩ ?_
      all_goals (refine WC.sr ?_)
      all_goals (refine WL.stepR (okE_box rfl) rfl rfl rfl ?_
                 rintro _ h1 ⟨b1, rfl, hg1, hb1, hx1⟩)
      all_goals (refine Go ?_)
      all_goals (refine WC.sr ?_)
      all_goals (refine WL.step (ok_loadN (fun w => Tryz.isAgg74 w) (fun w => Tryz.sizeOf74 w) rfl rfl (by exact At.of_block hb1)) rfl rfl rfl ?_)
      all_goals (refine WL.call (vs := [_]) rfl (fun a w => Tryz.call61 a w) rfl (ke _) rfl rfl rfl ?_
                 rintro _ h2 ⟨rfl, hx2⟩)
      all_goals (refine WL.stepR (okE_alloc (fun w => Tryz.zeroValue44 w)) rfl rfl rfl ?_
                 rintro _ h3 ⟨b4, rfl, hg4, hb4, hx3⟩)
      all_goals (refine WL.stepR0 (okE_storeW (fun w => Tryz.sizeOf44 w) rfl rfl rfl hb4 rfl (by simp [Value.oneCell'])) rfl rfl ?_
                 rintro _ h4 ⟨hb44, hx4⟩)
      all_goals (have l1 := lt_of_some hb1
                 have hs1 := hx1.size
                 have hs2 := hx2.size
                 have hs3 := hx3.size
                 have n14 : ¬ b1 = b4 := by omega
                 have hb14 := hx4.obj ((hx2.trans hx3).obj hb1 nos) n14
                 have X4 : Ext No h h4 := ((hx1.trans hx2).trans hx3).trans' hx4 (fun q hq e => by omega))
      all_goals (refine Gn ?_)
      all_goals (refine WC.sub [(1, _), (4, _)] ⟨rfl, rfl, trivial⟩ ?_)
      all_goals (refine WC.sr ?_)
      all_goals (refine Go ?_)
      all_goals (refine WL.step (ok_load (fun w => Tryz.isAgg9 w) rfl (by first | exact cell_blk hb14 rfl | assumption | exact cell_blk (by assumption) rfl)) rfl rfl rfl ?_)
      all_goals (refine Go ?_)
      all_goals (refine WL.stepR0 (okE_store (fun w => Tryz.sizeOf9 w) rfl rfl hb44 (Nat.le_of_ble_eq_true rfl) rfl rfl) rfl rfl ?_
                 rintro _ h5 ⟨hb45, hx5⟩)
      all_goals (have hb15 := hx5.obj hb14 n14
                 have X5 : Ext No h h5 := X4.trans' hx5 (fun q hq e => by omega)
                 have l5 := lt_of_some hb45
                 have l15 := lt_of_some hb15)
      all_goals (refine Gn ?_)
      all_goals (refine WC.sub [(1, _), (4, _)] ⟨rfl, rfl, trivial⟩ ?_)
      all_goals (refine WC.seq ?_)
      all_goals (refine WC.sr ?_)
      all_goals (refine Go ?_)
      all_goals (refine WL.step (ok_load (fun w => Tryz.isAgg4 w) rfl (by first | exact cell_blk hb15 rfl | assumption | exact cell_blk (by assumption) rfl)) rfl rfl rfl ?_)
      all_goals (refine Go ?_)
      all_goals (refine goC 1 2 ?_ ?_ <;> first | exact ⟨⟩ | refine Hb.mk fun hb => ?_ | skip)
      all_goals (first | (fail_if_success refine goB 2 ?_) | (
      refine goB 2 ?_
      all_goals (refine WC.skip ?_)
      skip))
      all_goals (refine Gn ?_)
      all_goals (refine WC.sr ?_)
      all_goals (refine Go ?_)
      all_goals (refine WL.step (ok_load (fun w => Tryz.isAgg28 w) rfl (by first | exact cell_blk hb15 rfl | assumption | exact cell_blk (by assumption) rfl)) rfl rfl rfl ?_)
      all_goals (refine Go ?_)
      all_goals (refine WL.step (ok_load (fun w => Tryz.isAgg3 w) rfl (by first | exact cell_blk hb15 rfl | assumption | exact cell_blk (by assumption) rfl)) rfl rfl rfl ?_)
      all_goals (refine WL.call (vs := [_, _]) rfl (fun a w => Tryz.call92 a w) rfl (kget2 _ X5) rfl rfl rfl ?_
                 rintro _ h6 ⟨v6, rfl, ho6, hx6, hf6⟩
                 obtain ⟨A6, c6, rfl, _⟩ := ho6.slice)
      all_goals (refine Go ?_)
      all_goals (refine WL.stepR (okE_alloc (fun w => Tryz.zeroValue63 w)) rfl rfl rfl ?_
                 rintro _ h7 ⟨b7, rfl, hg7, hb7, hx7⟩)
      all_goals (refine WL.stepR0 (okE_storeW (fun w => Tryz.sizeOf63 w) rfl rfl rfl hb7 rfl (by simp [Value.oneCell'])) rfl rfl ?_
                 rintro _ h8 ⟨hb78, hx8⟩)
      all_goals (have hs6 := hx6.size
                 have hs7 := hx7.size
                 have x78 : Ext No h6 h8 := hx7.trans' hx8 (fun q hq e => by omega)
                 have hb18 := x78.obj (hx6.obj hb15 nos) nos
                 have hb48 := x78.obj (hx6.obj hb45 nos) nos
                 have ho8 := ho6.ext x78 (fun _ _ => nos)
                 have X8 := (X5.trans hx6).trans x78)
      all_goals (refine Go ?_)
      all_goals (refine WC.sub [(1, _), (4, _), (5, _)] ⟨rfl, rfl, rfl, trivial⟩ ?_)
      all_goals (refine WC.sr ?_)
      all_goals (refine Go ?_)
      all_goals (refine WL.step (ok_load (fun w => Tryz.isAgg24 w) rfl (by first | exact cell_blk hb18 rfl | assumption | exact cell_blk (by assumption) rfl)) rfl rfl rfl ?_)
      all_goals (refine Go ?_)
      all_goals (refine WL.step (ok_load (fun w => Tryz.isAgg3 w) rfl (by first | exact cell_blk hb18 rfl | assumption | exact cell_blk (by assumption) rfl)) rfl rfl rfl ?_)
      all_goals (refine Go ?_)
      all_goals (refine WL.step (ok_load (fun w => Tryz.isAgg3 w) rfl (by first | exact cell_blk hb18 rfl | assumption | exact cell_blk (by assumption) rfl)) rfl rfl rfl ?_)
      all_goals (refine WL.step (ok_loadN (fun w => Tryz.isAgg63 w) (fun w => Tryz.sizeOf63 w) rfl rfl (by exact At.of_block hb78)) rfl rfl rfl ?_)
      all_goals (refine WL.call (vs := [_, _, _, _]) rfl (fun a w => Tryz.call93 a w) rfl (kready _ (hsp.ext0 X8).now _ ho8.rd) rfl rfl rfl ?_
                 rintro _ h9 ⟨vF, vE, L, M, rfl, hoF, hoE, hL2, hM2, f1, f2, p1, p2, hx9, fF, fE⟩
                 obtain ⟨AF, cF, rfl, _⟩ := id hoF.slice
                 obtain ⟨AE, cE, rfl, _⟩ := id hoE.slice)
      all_goals (have hll := congrArg List.length p1
                 rw [List.length_map] at hll
                 have hr2 := hrl tx O
                 rw [← hll] at hr2
                 first | (have hL0 : L.length = 0 := hr2.2 hin) | (have hL0 : ¬ L.length = 0 := fun e => hin (hr2.1 e))
                 clear hr2 hll hrl
                 have hok : (∀ x ∈ L, Lst h0 h9 fun g => x.ok g) ∧ ∀ x ∈ M, Lst h0 h9 fun g => x.ok g := ⟨fun x hx => fg_lst (f1 x hx), okE_hi f2⟩
                 clear f1 f2
                 have X9 := X8.trans hx9
                 have hb19 := hx9.obj hb18 nos
                 have hb49 := hx9.obj hb48 nos
                 have hd9 := hd.ext0 X9)
      all_goals (refine Go ?_)
      all_goals (refine WC.sub [(1, _), (4, _), (7, _), (8, _)] ⟨rfl, rfl, rfl, rfl, trivial⟩ ?_)
      all_goals (refine WC.seq ?_)
      all_goals (refine WC.sr ?_)
      all_goals (refine Go ?_)
      all_goals (refine goC 3 4 ?_ ?_ <;> first | exact ⟨⟩ | refine Hb.mk fun hb => ?_ | skip)
      all_goals (first | (fail_if_success refine goB 3 ?_) | (
      refine goB 3 ?_
      all_goals (refine WC.region ?_)
      all_goals (refine Go ?_)
      all_goals (refine WL.step (ok_load (fun w => Tryz.isAgg28 w) rfl (by first | exact cell_blk hb19 rfl | assumption | exact cell_blk (by assumption) rfl)) rfl rfl rfl ?_)
      all_goals (refine Go ?_)
      all_goals (refine WL.step (ok_load (fun w => Tryz.isAgg3 w) rfl (by first | exact cell_blk hb19 rfl | assumption | exact cell_blk (by assumption) rfl)) rfl rfl rfl ?_)
      all_goals (refine WL.call (vs := [_, _]) rfl (fun a w => Tryz.call87 a w) rfl (kref _ hd9) rfl rfl rfl ?_
                 rintro _ h10 ⟨⟨xr, rfl⟩, d10, x10⟩)
      all_goals (refine Gn ?_)
      skip))
      all_goals (first | (fail_if_success refine goB 4 ?_) | (
      refine goB 4 ?_
      all_goals (refine WC.skip ?_)
      skip))
      all_goals (refine Gn ?_)
      all_goals (refine WC.seq ?_)
      all_goals (first
                  | ((fail_if_success (have := x10)); obtain ⟨h10, rfl⟩ : ∃ g, g = h9 := ⟨h9, rfl⟩; have HJ := hb19; have HE := hb49; have hF := hf.ext0 X9; have hoF' := hoF; have hoE' := hoE; have hOk := hok; have dd := hd9.up (c' := c + 1) (by omega) (by omega); have XX : Ext (CS h0 m1 m2 h) h h10 := fs_no X9; have hsb := x0.trans X9; have hfr := Nat.le_refl h10.size)
                  | (have HJ := x10.obj hb19 (hd9.off hb19 (by decide)); have HE := x10.obj hb49 (hd9.off hb49 (by decide)); have hF := (hf.ext0 X9).step x10 hd9.sf; have hoF' := hoF.ext x10 (fun q hq e => by obtain ⟨_, y⟩ := own_ty hoF hq; exact hd9.off y (by decide) e); have hoE' := hoE.ext x10 (fun q hq e => by obtain ⟨_, y⟩ := own_ty hoE hq; exact hd9.off y (by decide) e); have hOk := And.intro (fun x hx => (hok.1 x hx).step x10 hd9.sf) (fun x hx => (hok.2 x hx).step x10 hd9.sf); have dd := d10; have XX : Ext (CS h0 m1 m2 h) h h10 := (fs_no X9).trans' x10 (fun q hq e => fs_no_back X9 hq e); have hsb := fs_old x0 XX; have hfr := x10.size)
                 clear hok kref kready kget2
                 have n1F : ∀ {q : Nat}, q < h8.size → ¬ ((Value.slice AF L.length cF).ownBlock = some q ∨ (Value.slice AE M.length cE).ownBlock = some q) := fun hq e => e.elim (fun z => absurd hq (Nat.not_lt.2 (fF _ z))) (fun z => absurd hq (Nat.not_lt.2 (fE _ z)))
                 have l18 := lt_of_some hb18
                 have l48 := lt_of_some hb48)
      all_goals (refine WC.drawH (fun h' => Ext (fun q => q = b4) h10 h') 10 10 rfl fol ?_)
      all_goals (refine WH.tk 0 rfl (fun hq hC => ok_fieldAddr rfl Tryz.underlying74 rfl (fun w => Tryz.sizeOf3 w)) rfl rfl rfl ?_)
      all_goals (refine WH.tk 1 rfl (fun hq hC => ok_load (fun w => Tryz.isAgg3 w) rfl (by first | exact hC.cell (by first | exact cell_blk HJ rfl | assumption | exact cell_blk (by assumption) rfl) n14)) rfl rfl rfl ?_)
      all_goals (refine WH.tk 3 rfl (fun hq hC => ok_fieldAddr rfl Tryz.underlying74 rfl (fun w => Tryz.sizeOf3 w)) rfl rfl rfl ?_)
      all_goals (refine WH.tk 4 rfl (fun hq hC => ok_load (fun w => Tryz.isAgg3 w) rfl (by first | exact hC.cell (by first | exact cell_blk HJ rfl | assumption | exact cell_blk (by assumption) rfl) n14)) rfl rfl rfl ?_)
      all_goals (refine WH.one 2 (by kernel_rfl) ?_)
      all_goals (refine Comes1.call (vs := [_]) rfl rfl (fun a w => Tryz.call90 a w) rfl (srv_any jd) rfl rfl rfl ?_ (fun _ => by kernel_rfl)
                 rintro _ g1 ⟨rfl, y1⟩)
      all_goals (refine ⟨fun _ => y1.mono fun _ _ e => e.elim, ?_⟩)
      all_goals (have hCx1 : Ext (fun q => q = b4) h10 g1 := y1.mono fun _ _ e => e.elim)
      all_goals (refine WH.tk 6 rfl (fun hq hC => ok_fieldAddr rfl Tryz.underlying44 rfl (fun w => Tryz.sizeOf9 w)) rfl rfl rfl ?_)
      all_goals (refine WH.one 5 (by kernel_rfl) ?_)
      all_goals (refine Comes1.call (vs := [_]) rfl rfl (fun a w => Tryz.call86 a w) rfl (touch24 jd) rfl rfl rfl ?_ (fun _ => by kernel_rfl)
                 rintro _ g2 ⟨q10, rfl, hq10, hgq10, y2⟩)
      all_goals (refine ⟨fun _ => (y1.trans y2).mono fun _ _ e => e.elim, ?_⟩)
      all_goals (have y12 := y1.trans y2
                 have hCx2 : Ext (fun q => q = b4) h10 g2 := y12.mono fun _ _ e => e.elim)
      all_goals (refine WH.one 7 (by kernel_rfl) ?_)
      all_goals (refine Comes1.run0 rfl (okE_store (fun w => Tryz.sizeOf9 w) rfl rfl (y12.obj HE nos) (Nat.le_of_ble_eq_true rfl) rfl rfl) rfl rfl ?_ (fun _ => by kernel_rfl)
                 rintro _ g3 ⟨HE3, y3⟩)
      all_goals (refine ⟨fun _ => (y12.mono fun _ _ e => e.elim).trans y3, ?_⟩)
      all_goals (have hCx3 : Ext (fun q => q = b4) h10 g3 := (y12.mono fun _ _ e => e.elim).trans y3)
      all_goals (refine WH.tk 8 rfl (fun hq hC => ok_fieldAddr rfl Tryz.underlying44 rfl (fun w => Tryz.sizeOf41 w)) rfl rfl rfl ?_)
      all_goals (refine WH.one 9 (by kernel_rfl) ?_)
      all_goals (refine Comes1.run0 rfl (okE_store (fun w => Tryz.sizeOf41 w) rfl rfl HE3 (Nat.le_of_ble_eq_true rfl) rfl rfl) rfl rfl ?_ (fun _ => by kernel_rfl)
                 rintro _ g4 ⟨HE4, y4⟩)
      all_goals (refine ⟨fun _ => ((y12.mono fun _ _ e => e.elim).trans y3).trans y4, ?_⟩)
      all_goals (have y34 := y3.trans y4
                 have sE : Sf h0 g2 (fun q => q = b4) := fun q e => ⟨by have := x0.size; rw [show q = b4 from e]; omega, fun ty => absurd (ty_one (y12.obj HE nos) (e ▸ ty)) (by decide)⟩
                 have HJ4 := y34.obj (y12.obj HJ nos) n14
                 have hF4 := (hF.ext0 y12).step y34 sE
                 have hOk4 := And.intro (fun x hx => ((hOk.1 x hx).ext0 y12).step y34 sE) (fun x hx => ((hOk.2 x hx).ext0 y12).step y34 sE)
                 have tyE : ∀ {T : TypeId} {sz m : Nat} {w : Value} {xs : List Value}, Own g2 w T sz m xs → (∀ q, w.ownBlock = some q → h8.size ≤ q) → Own g4 w T sz m xs := fun ho hh => ho.ext y34 (fun q hq e => absurd l48 (Nat.not_lt.2 (by rw [← show q = b4 from e]; exact hh q hq)))
                 have hoF4 := tyE (hoF'.ext y12 (fun _ _ => nos)) fF
                 have hoE4 := tyE (hoE'.ext y12 (fun _ _ => nos)) fE
                 have hq104 := y34.obj hq10 (fun e => by have := lt_of_some HE; have := y1.size; omega)
                 have hC4 : Lst h0 g4 fun z => Ops z (.slice (some ⟨q10, 0, none⟩) 1 1) [(3, jd, ())] := (lst_blk hq104 (by decide)).mono fun _ z => one_op z
                 have dd4 := (dd.ext0 y12).keep y34 (fun q e => ⟨_, _, e ▸ y12.obj HE nos, by decide⟩)
                 have XX4 := (XX.trans' y12 (fun _ _ e => e.elim)).trans' y34 (fun q hq e => absurd hq (Nat.not_lt.2 (by rw [show q = b4 from e]; omega)))
                 have x04 := fs_old x0 XX4
                 have n1F : ∀ {q : Nat}, q < h8.size → ¬ ((Value.slice AF L.length cF).ownBlock = some q ∨ (Value.slice AE M.length cE).ownBlock = some q) := fun hq e => e.elim (fun z => absurd hq (Nat.not_lt.2 (fF _ z))) (fun z => absurd hq (Nat.not_lt.2 (fE _ z)))
                 have l18 := lt_of_some hb18
                 have s8 := X8.size
                 have hsz4 : h8.size ≤ g4.size := Nat.le_trans hx9.size (Nat.le_trans hfr (Nat.le_trans y12.size y34.size))
                 clear hF hOk hoF' hoE' dd XX HJ HE hoF hoE y1 y2 y3 y4 y12 y34 sE tyE hb19 hb49 hd9 ke
                 obtain ⟨vF, evF⟩ : ∃ z, z = Value.slice AF L.length cF := ⟨_, rfl⟩
                 obtain ⟨vE, evE⟩ : ∃ z, z = Value.slice AE M.length cE := ⟨_, rfl⟩
                 have hoF := hoF4
                 have hoE := hoE4
                 rw [← evF] at hoF fF n1F
                 rw [← evE] at hoE fE n1F
                 have kF := hoF
                 have kE := hoE
                 have hC' := hC4
                 have hF := hF4
                 have hOk := hOk4
                 have hE : Ext (fun q => vF.ownBlock = some q ∨ vE.ownBlock = some q) g4 g4 := .refl _ _
                 have hsf : ∀ {g : Heap} {S : Nat → Prop}, (∀ q, S q → vF.ownBlock = some q ∨ vE.ownBlock = some q) → Own g vF 27 10 L.length (L.flatMap Fm.cells) → Own g vE 44 8 M.length (M.flatMap En.cells) → Sf h0 g S := fun hS oF oE q e => ⟨by have := (x0.trans X8).size; rcases hS q e with z | z; exact Nat.le_trans this (fF q z); exact Nat.le_trans this (fE q z), fun ty => by rcases hS q e with z | z; (obtain ⟨_, y⟩ := own_ty oF z; exact absurd (ty_one y ty) (by decide)); (obtain ⟨_, y⟩ := own_ty oE z; exact absurd (ty_one y ty) (by decide))⟩
                 rw [← evF, ← evE])
      all_goals (refine WH.done (by kernel_rfl) ?_)
      all_goals (refine Gn ?_)
      all_goals (refine WC.sub [(1, _), (4, _), (7, _), (8, _)] ⟨rfl, rfl, rfl, rfl, trivial⟩ ?_)
      all_goals (refine WC.seq ?_)
      all_goals (refine WC.drawH (fun h' => Ext (fun q => vF.ownBlock = some q ∨ vE.ownBlock = some q) g4 h') 13 13 rfl fol ?_)
      all_goals (refine WH.tk 0 rfl (fun hq hC => ok_move rfl) rfl rfl rfl ?_)
      all_goals (refine WH.tk 1 rfl (fun hq hC => ok_loadN (fun w => Tryz.isAgg74 w) (fun w => Tryz.sizeOf74 w) rfl rfl (by exact ((At.of_block HJ4).ext hC (n1F l18)))) rfl rfl rfl ?_)
      all_goals (refine WH.tk 2 rfl (fun hq hC => ok_fieldAddr rfl Tryz.underlying44 rfl (fun w => Tryz.sizeOf9 w)) rfl rfl rfl ?_)
      all_goals (refine WH.tk 3 rfl (fun hq hC => ok_load (fun w => Tryz.isAgg9 w) rfl (by first | exact hC.cell (by first | exact ((cell_blk HE4 rfl)) | assumption | exact cell_blk (by assumption) rfl) (n1F l48))) rfl rfl rfl ?_)
      all_goals (refine WH.tk 7 rfl (fun hq hC => ok_move rfl) rfl rfl rfl ?_)
      all_goals (refine WH.tk 8 rfl (fun hq hC => ok_loadN (fun w => Tryz.isAgg44 w) (fun w => Tryz.sizeOf44 w) rfl rfl (by exact ((At.of_block HE4).ext hC (n1F l48)))) rfl rfl rfl ?_)
      all_goals (refine WH.two 4 9 (by kernel_rfl) (Br.out (i := 5009) ?_) (Br.out (i := 5010) ?_))
      all_goals (first | (fail_if_success refine goB 5009 ?_) | (
      refine goB 5009 ?_
      all_goals (refine Comes1.call (vs := [_, _]) rfl rfl (fun a w => Tryz.call84 a w) rfl (ka _ (srvL jd)) rfl rfl rfl ?_ (fun _ => by kernel_rfl)
                 rintro _ g5 ⟨rfl, z2⟩)
      all_goals (refine ⟨fun _ => hE.trans (z2.mono fun _ _ e => e.elim), ?_⟩)
      all_goals (replace hE := hE.trans (z2.mono (S' := fun q => vF.ownBlock = some q ∨ vE.ownBlock = some q) fun _ _ e => e.elim)
                 replace hoF := hoF.ext z2 (fun _ _ => nos)
                 replace hoE := hoE.ext z2 (fun _ _ => nos)
                 replace hOk := And.intro (fun x hx => (hOk.1 x hx).ext0 z2) (fun x hx => (hOk.2 x hx).ext0 z2)
                 replace hC' := hC'.ext0 z2
                 replace hF := hF.ext0 z2
                 try replace hb9e := z2.obj hb9e nos)
      all_goals (refine WH.two 5 9 (by kernel_rfl) (Br.out (i := 5009) ?_) (Br.out (i := 5010) ?_))
      all_goals (first | (fail_if_success refine goB 5009 ?_) | (
      refine goB 5009 ?_
      all_goals (refine Comes1.run rfl (okE_buildSlice (vs := [_]) (cs := [_, _, _, _, _, _, _, _, _, _]) (fun | [.agg ⟨[a0, a1, a2, a3, a4, a5, a6, a7, a8, a9]⟩] => [a0, a1, a2, a3, a4, a5, a6, a7, a8, a9] | _ => []) Tryz.underlying36 rfl rfl (by kernel_rfl)) rfl rfl rfl ?_ (fun _ => by kernel_rfl)
                 rintro _ g6 ⟨q3, rfl, hgq3, hb3e, z3⟩)
      all_goals (refine ⟨fun _ => hE.trans (z3.mono fun _ _ e => e.elim), ?_⟩)
      all_goals (replace hE := hE.trans (z3.mono (S' := fun q => vF.ownBlock = some q ∨ vE.ownBlock = some q) fun _ _ e => e.elim)
                 replace hoF := hoF.ext z3 (fun _ _ => nos)
                 replace hoE := hoE.ext z3 (fun _ _ => nos)
                 replace hOk := And.intro (fun x hx => (hOk.1 x hx).ext0 z3) (fun x hx => (hOk.2 x hx).ext0 z3)
                 replace hC' := hC'.ext0 z3
                 replace hF := hF.ext0 z3
                 try replace hb9e := z3.obj hb9e nos)
      all_goals (refine WH.two 6 9 (by kernel_rfl) (Br.out (i := 5009) ?_) (Br.out (i := 5010) ?_))
      all_goals (first | (fail_if_success refine goB 5009 ?_) | (
      refine goB 5009 ?_
      all_goals (refine Comes1.run rfl (ok_append (sz := 10) (bytes := 160) rfl Tryz.underlying36 (show Tryz.prog.info? 27 = some Tryz.t27 by kernel_rfl) rfl rfl rfl rfl (by decide) rfl rfl hoF (rd_blk hb3e rfl) (by simp [Value.oneCell']) (by simp only [maxLen]; omega) (by omega)) rfl rfl rfl ?_ (fun _ => by kernel_rfl)
                 rintro v6 g7 ⟨hoF6, z4, hl6⟩)
      all_goals (refine ⟨fun _ => hE.trans (z4.mono fun _ _ e => .inl e), ?_⟩)
      all_goals (have hs4f := hsf (S := fun q => vF.ownBlock = some q) (fun q e => .inl e) hoF hoE
                 have hgF := fresh_of hl6 fF (Nat.le_trans hsz4 hE.size)
                 replace hE := hE.trans (z4.mono (S' := fun q => vF.ownBlock = some q ∨ vE.ownBlock = some q) fun _ _ e => .inl e)
                 replace hoE := hoE.ext z4 (fun q hq e => own_apart hoF hoE (by decide) q hq e)
                 replace hOk := And.intro (fun x hx => (hOk.1 x hx).step z4 hs4f) (fun x hx => (hOk.2 x hx).step z4 hs4f)
                 replace hC' := hC'.step z4 hs4f
                 replace hF := hF.step z4 hs4f
                 try replace hb9e := z4.obj hb9e (fun q => own_ne hoF hb9e (by decide) q))
      all_goals (refine WH.one 9 (by kernel_rfl) ?_)
      all_goals (refine Comes1.run rfl (okE_buildSlice (vs := [_]) (cs := [_, _, _, _, _, _, _, _]) (fun | [.agg ⟨[a0, a1, a2, a3, a4, a5, a6, a7]⟩] => [a0, a1, a2, a3, a4, a5, a6, a7] | _ => []) Tryz.underlying37 rfl rfl (by kernel_rfl)) rfl rfl rfl ?_ (fun _ => by kernel_rfl)
                 rintro _ g8 ⟨q9, rfl, hgq9, hb9e, z5⟩)
      all_goals (refine ⟨fun _ => hE.trans (z5.mono fun _ _ e => e.elim), ?_⟩)
      all_goals (replace hE := hE.trans (z5.mono (S' := fun q => vF.ownBlock = some q ∨ vE.ownBlock = some q) fun _ _ e => e.elim)
                 try replace hoF := hoF.ext z5 (fun _ _ => nos)
                 try replace hoF6 := hoF6.ext z5 (fun _ _ => nos)
                 try replace hb3e := z5.obj hb3e nos
                 replace hoE := hoE.ext z5 (fun _ _ => nos)
                 replace hOk := And.intro (fun x hx => (hOk.1 x hx).ext0 z5) (fun x hx => (hOk.2 x hx).ext0 z5)
                 replace hC' := hC'.ext0 z5
                 replace hF := hF.ext0 z5)
      all_goals (refine WH.one 10 (by kernel_rfl) ?_)
      all_goals (refine Comes1.run rfl (ok_append (sz := 8) (bytes := 144) rfl Tryz.underlying37 (show Tryz.prog.info? 44 = some Tryz.t44 by kernel_rfl) rfl rfl rfl rfl (by decide) rfl rfl hoE (rd_blk hb9e rfl) (by simp [Value.oneCell']) (by simp only [maxLen]; omega) (by omega)) rfl rfl rfl ?_ (fun _ => by kernel_rfl)
                 rintro v10 g9 ⟨hoE10, z6, hl10⟩)
      all_goals (refine ⟨fun _ => hE.trans (z6.mono fun _ _ e => .inr e), ?_⟩)
      all_goals (have hgE := fresh_of hl10 fE (Nat.le_trans hsz4 hE.size)
                 have hs6f : Sf h0 _ (fun q => vE.ownBlock = some q) := fun q e => ⟨Nat.le_trans (x0.trans X8).size (fE q e), fun ty => by obtain ⟨_, y⟩ := own_ty hoE e; exact absurd (ty_one y ty) (by decide)⟩
                 replace hE := hE.trans (z6.mono (S' := fun q => vF.ownBlock = some q ∨ vE.ownBlock = some q) fun _ _ e => .inr e)
                 replace hoF6 := hoF6.ext z6 (fun q hq e => own_apart hoE hoF6 (by decide) q hq e)
                 replace hOk := And.intro (fun x hx => (hOk.1 x hx).step z6 hs6f) (fun x hx => (hOk.2 x hx).step z6 hs6f)
                 replace hC' := hC'.step z6 hs6f
                 replace hF := hF.step z6 hs6f)
      all_goals (refine WH.tk 11 rfl (fun hq hC => ok_assign rfl) rfl rfl rfl ?_)
      all_goals (refine WH.tk 12 rfl (fun hq hC => ok_assign rfl) rfl rfl rfl ?_)
      all_goals (refine WH.done (by kernel_rfl) ?_)
      skip))
      all_goals (first | (fail_if_success refine goB 5010 ?_) | (
      refine goB 5010 ?_
      all_goals (refine Comes1.run rfl (okE_buildSlice (vs := [_]) (cs := [_, _, _, _, _, _, _, _]) (fun | [.agg ⟨[a0, a1, a2, a3, a4, a5, a6, a7]⟩] => [a0, a1, a2, a3, a4, a5, a6, a7] | _ => []) Tryz.underlying37 rfl rfl (by kernel_rfl)) rfl rfl rfl ?_ (fun _ => by kernel_rfl)
                 rintro _ g8 ⟨q9, rfl, hgq9, hb9e, z5⟩)
      all_goals (refine ⟨fun _ => hE.trans (z5.mono fun _ _ e => e.elim), ?_⟩)
      all_goals (replace hE := hE.trans (z5.mono (S' := fun q => vF.ownBlock = some q ∨ vE.ownBlock = some q) fun _ _ e => e.elim)
                 try replace hoF := hoF.ext z5 (fun _ _ => nos)
                 try replace hoF6 := hoF6.ext z5 (fun _ _ => nos)
                 try replace hb3e := z5.obj hb3e nos
                 replace hoE := hoE.ext z5 (fun _ _ => nos)
                 replace hOk := And.intro (fun x hx => (hOk.1 x hx).ext0 z5) (fun x hx => (hOk.2 x hx).ext0 z5)
                 replace hC' := hC'.ext0 z5
                 replace hF := hF.ext0 z5)
      all_goals (refine WH.one 6 (by kernel_rfl) ?_)
      all_goals (refine Comes1.run rfl (ok_append (sz := 10) (bytes := 160) rfl Tryz.underlying36 (show Tryz.prog.info? 27 = some Tryz.t27 by kernel_rfl) rfl rfl rfl rfl (by decide) rfl rfl hoF (rd_blk hb3e rfl) (by simp [Value.oneCell']) (by simp only [maxLen]; omega) (by omega)) rfl rfl rfl ?_ (fun _ => by kernel_rfl)
                 rintro v6 g7 ⟨hoF6, z4, hl6⟩)
      all_goals (refine ⟨fun _ => hE.trans (z4.mono fun _ _ e => .inl e), ?_⟩)
      all_goals (have hs4f := hsf (S := fun q => vF.ownBlock = some q) (fun q e => .inl e) hoF hoE
                 have hgF := fresh_of hl6 fF (Nat.le_trans hsz4 hE.size)
                 replace hE := hE.trans (z4.mono (S' := fun q => vF.ownBlock = some q ∨ vE.ownBlock = some q) fun _ _ e => .inl e)
                 replace hoE := hoE.ext z4 (fun q hq e => own_apart hoF hoE (by decide) q hq e)
                 replace hOk := And.intro (fun x hx => (hOk.1 x hx).step z4 hs4f) (fun x hx => (hOk.2 x hx).step z4 hs4f)
                 replace hC' := hC'.step z4 hs4f
                 replace hF := hF.step z4 hs4f
                 try replace hb9e := z4.obj hb9e (fun q => own_ne hoF hb9e (by decide) q))
      all_goals (refine WH.one 10 (by kernel_rfl) ?_)
      all_goals (refine Comes1.run rfl (ok_append (sz := 8) (bytes := 144) rfl Tryz.underlying37 (show Tryz.prog.info? 44 = some Tryz.t44 by kernel_rfl) rfl rfl rfl rfl (by decide) rfl rfl hoE (rd_blk hb9e rfl) (by simp [Value.oneCell']) (by simp only [maxLen]; omega) (by omega)) rfl rfl rfl ?_ (fun _ => by kernel_rfl)
                 rintro v10 g9 ⟨hoE10, z6, hl10⟩)
      all_goals (refine ⟨fun _ => hE.trans (z6.mono fun _ _ e => .inr e), ?_⟩)
      all_goals (have hgE := fresh_of hl10 fE (Nat.le_trans hsz4 hE.size)
                 have hs6f : Sf h0 _ (fun q => vE.ownBlock = some q) := fun q e => ⟨Nat.le_trans (x0.trans X8).size (fE q e), fun ty => by obtain ⟨_, y⟩ := own_ty hoE e; exact absurd (ty_one y ty) (by decide)⟩
                 replace hE := hE.trans (z6.mono (S' := fun q => vF.ownBlock = some q ∨ vE.ownBlock = some q) fun _ _ e => .inr e)
                 replace hoF6 := hoF6.ext z6 (fun q hq e => own_apart hoE hoF6 (by decide) q hq e)
                 replace hOk := And.intro (fun x hx => (hOk.1 x hx).step z6 hs6f) (fun x hx => (hOk.2 x hx).step z6 hs6f)
                 replace hC' := hC'.step z6 hs6f
                 replace hF := hF.step z6 hs6f)
      all_goals (refine WH.tk 11 rfl (fun hq hC => ok_assign rfl) rfl rfl rfl ?_)
      all_goals (refine WH.tk 12 rfl (fun hq hC => ok_assign rfl) rfl rfl rfl ?_)
      all_goals (refine WH.done (by kernel_rfl) ?_)
      skip))
      skip))
      all_goals (first | (fail_if_success refine goB 5010 ?_) | (
      refine goB 5010 ?_
      all_goals (refine Comes1.run rfl (okE_buildSlice (vs := [_]) (cs := [_, _, _, _, _, _, _, _]) (fun | [.agg ⟨[a0, a1, a2, a3, a4, a5, a6, a7]⟩] => [a0, a1, a2, a3, a4, a5, a6, a7] | _ => []) Tryz.underlying37 rfl rfl (by kernel_rfl)) rfl rfl rfl ?_ (fun _ => by kernel_rfl)
                 rintro _ g8 ⟨q9, rfl, hgq9, hb9e, z5⟩)
      all_goals (refine ⟨fun _ => hE.trans (z5.mono fun _ _ e => e.elim), ?_⟩)
      all_goals (replace hE := hE.trans (z5.mono (S' := fun q => vF.ownBlock = some q ∨ vE.ownBlock = some q) fun _ _ e => e.elim)
                 try replace hoF := hoF.ext z5 (fun _ _ => nos)
                 try replace hoF6 := hoF6.ext z5 (fun _ _ => nos)
                 try replace hb3e := z5.obj hb3e nos
                 replace hoE := hoE.ext z5 (fun _ _ => nos)
                 replace hOk := And.intro (fun x hx => (hOk.1 x hx).ext0 z5) (fun x hx => (hOk.2 x hx).ext0 z5)
                 replace hC' := hC'.ext0 z5
                 replace hF := hF.ext0 z5)
      all_goals (refine WH.one 5 (by kernel_rfl) ?_)
      all_goals (refine Comes1.run rfl (okE_buildSlice (vs := [_]) (cs := [_, _, _, _, _, _, _, _, _, _]) (fun | [.agg ⟨[a0, a1, a2, a3, a4, a5, a6, a7, a8, a9]⟩] => [a0, a1, a2, a3, a4, a5, a6, a7, a8, a9] | _ => []) Tryz.underlying36 rfl rfl (by kernel_rfl)) rfl rfl rfl ?_ (fun _ => by kernel_rfl)
                 rintro _ g6 ⟨q3, rfl, hgq3, hb3e, z3⟩)
      all_goals (refine ⟨fun _ => hE.trans (z3.mono fun _ _ e => e.elim), ?_⟩)
      all_goals (replace hE := hE.trans (z3.mono (S' := fun q => vF.ownBlock = some q ∨ vE.ownBlock = some q) fun _ _ e => e.elim)
                 replace hoF := hoF.ext z3 (fun _ _ => nos)
                 replace hoE := hoE.ext z3 (fun _ _ => nos)
                 replace hOk := And.intro (fun x hx => (hOk.1 x hx).ext0 z3) (fun x hx => (hOk.2 x hx).ext0 z3)
                 replace hC' := hC'.ext0 z3
                 replace hF := hF.ext0 z3
                 try replace hb9e := z3.obj hb9e nos)
      all_goals (refine WH.one 6 (by kernel_rfl) ?_)
      all_goals (refine Comes1.run rfl (ok_append (sz := 10) (bytes := 160) rfl Tryz.underlying36 (show Tryz.prog.info? 27 = some Tryz.t27 by kernel_rfl) rfl rfl rfl rfl (by decide) rfl rfl hoF (rd_blk hb3e rfl) (by simp [Value.oneCell']) (by simp only [maxLen]; omega) (by omega)) rfl rfl rfl ?_ (fun _ => by kernel_rfl)
                 rintro v6 g7 ⟨hoF6, z4, hl6⟩)
      all_goals (refine ⟨fun _ => hE.trans (z4.mono fun _ _ e => .inl e), ?_⟩)
      all_goals (have hs4f := hsf (S := fun q => vF.ownBlock = some q) (fun q e => .inl e) hoF hoE
                 have hgF := fresh_of hl6 fF (Nat.le_trans hsz4 hE.size)
                 replace hE := hE.trans (z4.mono (S' := fun q => vF.ownBlock = some q ∨ vE.ownBlock = some q) fun _ _ e => .inl e)
                 replace hoE := hoE.ext z4 (fun q hq e => own_apart hoF hoE (by decide) q hq e)
                 replace hOk := And.intro (fun x hx => (hOk.1 x hx).step z4 hs4f) (fun x hx => (hOk.2 x hx).step z4 hs4f)
                 replace hC' := hC'.step z4 hs4f
                 replace hF := hF.step z4 hs4f
                 try replace hb9e := z4.obj hb9e (fun q => own_ne hoF hb9e (by decide) q))
      all_goals (refine WH.one 10 (by kernel_rfl) ?_)
      all_goals (refine Comes1.run rfl (ok_append (sz := 8) (bytes := 144) rfl Tryz.underlying37 (show Tryz.prog.info? 44 = some Tryz.t44 by kernel_rfl) rfl rfl rfl rfl (by decide) rfl rfl hoE (rd_blk hb9e rfl) (by simp [Value.oneCell']) (by simp only [maxLen]; omega) (by omega)) rfl rfl rfl ?_ (fun _ => by kernel_rfl)
                 rintro v10 g9 ⟨hoE10, z6, hl10⟩)
      all_goals (refine ⟨fun _ => hE.trans (z6.mono fun _ _ e => .inr e), ?_⟩)
      all_goals (have hgE := fresh_of hl10 fE (Nat.le_trans hsz4 hE.size)
                 have hs6f : Sf h0 _ (fun q => vE.ownBlock = some q) := fun q e => ⟨Nat.le_trans (x0.trans X8).size (fE q e), fun ty => by obtain ⟨_, y⟩ := own_ty hoE e; exact absurd (ty_one y ty) (by decide)⟩
                 replace hE := hE.trans (z6.mono (S' := fun q => vF.ownBlock = some q ∨ vE.ownBlock = some q) fun _ _ e => .inr e)
                 replace hoF6 := hoF6.ext z6 (fun q hq e => own_apart hoE hoF6 (by decide) q hq e)
                 replace hOk := And.intro (fun x hx => (hOk.1 x hx).step z6 hs6f) (fun x hx => (hOk.2 x hx).step z6 hs6f)
                 replace hC' := hC'.step z6 hs6f
                 replace hF := hF.step z6 hs6f)
      all_goals (refine WH.tk 11 rfl (fun hq hC => ok_assign rfl) rfl rfl rfl ?_)
      all_goals (refine WH.tk 12 rfl (fun hq hC => ok_assign rfl) rfl rfl rfl ?_)
      all_goals (refine WH.done (by kernel_rfl) ?_)
      skip))
      skip))
      all_goals (first | (fail_if_success refine goB 5010 ?_) | (
      refine goB 5010 ?_
      all_goals (refine Comes1.run rfl (okE_buildSlice (vs := [_]) (cs := [_, _, _, _, _, _, _, _]) (fun | [.agg ⟨[a0, a1, a2, a3, a4, a5, a6, a7]⟩] => [a0, a1, a2, a3, a4, a5, a6, a7] | _ => []) Tryz.underlying37 rfl rfl (by kernel_rfl)) rfl rfl rfl ?_ (fun _ => by kernel_rfl)
                 rintro _ g8 ⟨q9, rfl, hgq9, hb9e, z5⟩)
      all_goals (refine ⟨fun _ => hE.trans (z5.mono fun _ _ e => e.elim), ?_⟩)
      all_goals (replace hE := hE.trans (z5.mono (S' := fun q => vF.ownBlock = some q ∨ vE.ownBlock = some q) fun _ _ e => e.elim)
                 try replace hoF := hoF.ext z5 (fun _ _ => nos)
                 try replace hoF6 := hoF6.ext z5 (fun _ _ => nos)
                 try replace hb3e := z5.obj hb3e nos
                 replace hoE := hoE.ext z5 (fun _ _ => nos)
                 replace hOk := And.intro (fun x hx => (hOk.1 x hx).ext0 z5) (fun x hx => (hOk.2 x hx).ext0 z5)
                 replace hC' := hC'.ext0 z5
                 replace hF := hF.ext0 z5)
      all_goals (refine WH.one 4 (by kernel_rfl) ?_)
      all_goals (refine Comes1.call (vs := [_, _]) rfl rfl (fun a w => Tryz.call84 a w) rfl (ka _ (srvL jd)) rfl rfl rfl ?_ (fun _ => by kernel_rfl)
                 rintro _ g5 ⟨rfl, z2⟩)
      all_goals (refine ⟨fun _ => hE.trans (z2.mono fun _ _ e => e.elim), ?_⟩)
      all_goals (replace hE := hE.trans (z2.mono (S' := fun q => vF.ownBlock = some q ∨ vE.ownBlock = some q) fun _ _ e => e.elim)
                 replace hoF := hoF.ext z2 (fun _ _ => nos)
                 replace hoE := hoE.ext z2 (fun _ _ => nos)
                 replace hOk := And.intro (fun x hx => (hOk.1 x hx).ext0 z2) (fun x hx => (hOk.2 x hx).ext0 z2)
                 replace hC' := hC'.ext0 z2
                 replace hF := hF.ext0 z2
                 try replace hb9e := z2.obj hb9e nos)
      all_goals (refine WH.one 5 (by kernel_rfl) ?_)
      all_goals (refine Comes1.run rfl (okE_buildSlice (vs := [_]) (cs := [_, _, _, _, _, _, _, _, _, _]) (fun | [.agg ⟨[a0, a1, a2, a3, a4, a5, a6, a7, a8, a9]⟩] => [a0, a1, a2, a3, a4, a5, a6, a7, a8, a9] | _ => []) Tryz.underlying36 rfl rfl (by kernel_rfl)) rfl rfl rfl ?_ (fun _ => by kernel_rfl)
                 rintro _ g6 ⟨q3, rfl, hgq3, hb3e, z3⟩)
      all_goals (refine ⟨fun _ => hE.trans (z3.mono fun _ _ e => e.elim), ?_⟩)
      all_goals (replace hE := hE.trans (z3.mono (S' := fun q => vF.ownBlock = some q ∨ vE.ownBlock = some q) fun _ _ e => e.elim)
                 replace hoF := hoF.ext z3 (fun _ _ => nos)
                 replace hoE := hoE.ext z3 (fun _ _ => nos)
                 replace hOk := And.intro (fun x hx => (hOk.1 x hx).ext0 z3) (fun x hx => (hOk.2 x hx).ext0 z3)
                 replace hC' := hC'.ext0 z3
                 replace hF := hF.ext0 z3
                 try replace hb9e := z3.obj hb9e nos)
      all_goals (refine WH.one 6 (by kernel_rfl) ?_)
      all_goals (refine Comes1.run rfl (ok_append (sz := 10) (bytes := 160) rfl Tryz.underlying36 (show Tryz.prog.info? 27 = some Tryz.t27 by kernel_rfl) rfl rfl rfl rfl (by decide) rfl rfl hoF (rd_blk hb3e rfl) (by simp [Value.oneCell']) (by simp only [maxLen]; omega) (by omega)) rfl rfl rfl ?_ (fun _ => by kernel_rfl)
                 rintro v6 g7 ⟨hoF6, z4, hl6⟩)
      all_goals (refine ⟨fun _ => hE.trans (z4.mono fun _ _ e => .inl e), ?_⟩)
      all_goals (have hs4f := hsf (S := fun q => vF.ownBlock = some q) (fun q e => .inl e) hoF hoE
                 have hgF := fresh_of hl6 fF (Nat.le_trans hsz4 hE.size)
                 replace hE := hE.trans (z4.mono (S' := fun q => vF.ownBlock = some q ∨ vE.ownBlock = some q) fun _ _ e => .inl e)
                 replace hoE := hoE.ext z4 (fun q hq e => own_apart hoF hoE (by decide) q hq e)
                 replace hOk := And.intro (fun x hx => (hOk.1 x hx).step z4 hs4f) (fun x hx => (hOk.2 x hx).step z4 hs4f)
                 replace hC' := hC'.step z4 hs4f
                 replace hF := hF.step z4 hs4f
                 try replace hb9e := z4.obj hb9e (fun q => own_ne hoF hb9e (by decide) q))
      all_goals (refine WH.one 10 (by kernel_rfl) ?_)
      all_goals (refine Comes1.run rfl (ok_append (sz := 8) (bytes := 144) rfl Tryz.underlying37 (show Tryz.prog.info? 44 = some Tryz.t44 by kernel_rfl) rfl rfl rfl rfl (by decide) rfl rfl hoE (rd_blk hb9e rfl) (by simp [Value.oneCell']) (by simp only [maxLen]; omega) (by omega)) rfl rfl rfl ?_ (fun _ => by kernel_rfl)
                 rintro v10 g9 ⟨hoE10, z6, hl10⟩)
      all_goals (refine ⟨fun _ => hE.trans (z6.mono fun _ _ e => .inr e), ?_⟩)
      all_goals (have hgE := fresh_of hl10 fE (Nat.le_trans hsz4 hE.size)
                 have hs6f : Sf h0 _ (fun q => vE.ownBlock = some q) := fun q e => ⟨Nat.le_trans (x0.trans X8).size (fE q e), fun ty => by obtain ⟨_, y⟩ := own_ty hoE e; exact absurd (ty_one y ty) (by decide)⟩
                 replace hE := hE.trans (z6.mono (S' := fun q => vF.ownBlock = some q ∨ vE.ownBlock = some q) fun _ _ e => .inr e)
                 replace hoF6 := hoF6.ext z6 (fun q hq e => own_apart hoE hoF6 (by decide) q hq e)
                 replace hOk := And.intro (fun x hx => (hOk.1 x hx).step z6 hs6f) (fun x hx => (hOk.2 x hx).step z6 hs6f)
                 replace hC' := hC'.step z6 hs6f
                 replace hF := hF.step z6 hs6f)
      all_goals (refine WH.tk 11 rfl (fun hq hC => ok_assign rfl) rfl rfl rfl ?_)
      all_goals (refine WH.tk 12 rfl (fun hq hC => ok_assign rfl) rfl rfl rfl ?_)
      all_goals (refine WH.done (by kernel_rfl) ?_)
      skip))
      all_goals (refine Gn ?_)
      all_goals (refine WC.sub [(2, _), (3, _)] ⟨rfl, rfl, trivial⟩ ?_)
      all_goals (refine WC.ret ?_)
      all_goals (repeat' (with_reducible first | refine thenP_r ?_ | refine blockP_r ?_))
      all_goals (refine retP_2 _ _ ⟨rfl, rfl, trivial⟩ ?_)
      all_goals (have hdf := dd4.keep hE (fun q e => e.elim (fun z => (own_ty kF z).elim fun _ y => ⟨_, _, y, by decide⟩) (fun z => (own_ty kE z).elim fun _ y => ⟨_, _, y, by decide⟩))
                 have hg := gives_snoc (h := h8) hoF6 hoE10 hL2 hM2 hOk.1 hOk.2 (hfl _ hF (srvL jd)) (rE_ok (k := K) (a := srvL jd) (d := n) (lst_all tops_nil) (lst_all tops_nil) hC') hgF hgE
                 rw [p1, p2, hpl] at hg
                 exact ⟨hg.from s8, hdf.up (by omega) (by omega), XX4.trans' hE (fun q hq e => absurd (Nat.lt_of_lt_of_le hq s8) (Nat.not_lt.2 (e.elim (fF q) (fE q))))⟩)
end
end Go.Proofs.YtggmocdbfbhklaaGreat


/-
  TABLE (layer 15): what each function of package table does, told by the map that the table holds.
-/
namespace Go.Proofs.YtggmocdbfbhklaaGreat
open Go Go.RK


/-- A table at block b whose map lies at block m and holds es. -/
structure Tb (h : Heap) (b m : Nat) (most : Int) (es : List (List UInt8 × Value)) : Prop where
  cells : h[b]? = some (.cells ⟨[.map (some m), In most]⟩ 107 (0, 0))
  map : Mp .string St h m es
theorem Tb.ne {h : Heap} {b m : Nat} {most : Int} {es : List (List UInt8 × Value)} (t : Tb h b m most es) : b ≠ m := by
  rintro rfl
  obtain ⟨arr, clock, hb, _⟩ := t.map
  have := t.cells
  rw [hb] at this
  cases this
theorem Tb.ext {S : Nat → Prop} {h h' : Heap} {b m : Nat} {most : Int} {es : List (List UInt8 × Value)} (t : Tb h b m most es) (a : Ext S h h') (h1 : ¬ S b) (h2 : ¬ S m) : Tb h' b m most es := ⟨a.obj t.cells h1, t.map.ext a h2⟩
theorem Tb.turn {h h' : Heap} {b m : Nat} {most : Int} {es es' : List (List UInt8 × Value)} (t : Tb h b m most es) (hm : Mp .string St h' m es') (a : Ext (fun k => k = m) h h') : Tb h' b m most es' := ⟨a.obj t.cells t.ne, hm⟩

set_option maxHeartbeats 2000000 in
set_option maxRecDepth 100000 in
theorem ready_yes {h : Heap} {b m : Nat} {v : Value} (hb : h[b]? = some (.cells ⟨[.map (some m), v]⟩ 107 (0, 0))) :
    CallsH Tryz.prog 50 ⟨[.pointer (some ⟨b, 0, none⟩)]⟩ h fun u h' => u = .bool true ∧ h' = h := by
  refine calls [(0, _)] Tryz.func50 rfl Tryz.ntmps50 rfl ⟨rfl, trivial⟩ ?_
  all_goals (refine WC.sr ?_)
  all_goals (refine Go ?_)
  all_goals (refine WC.sr ?_)
  all_goals (refine Go ?_)
  all_goals (refine WL.step (ok_neqPn Tryz.underlying29 rfl rfl) rfl rfl rfl ?_)
  all_goals (refine Go ?_)
  all_goals (refine goP 5 ?_ ?_ <;> first | exact ⟨⟩ | refine Hb.mk fun hb => ?_ | skip)
  all_goals (refine Gg ?_)
  all_goals (first | (refine WL.pass rfl rfl rfl ?_) | (refine WL.step (ok_nilCheck rfl) rfl rfl rfl ?_))
  all_goals (refine Gg ?_)
  all_goals (first | (refine WL.pass rfl rfl rfl ?_) | (refine WL.step (ok_load (fun w => Tryz.isAgg103 w) rfl (by first | assumption | exact cell_blk (by assumption) rfl)) rfl rfl rfl ?_))
  all_goals (first | (refine WL.pass rfl rfl rfl ?_) | (refine WL.step (ok_neqMn Tryz.underlying103 rfl rfl) rfl rfl rfl ?_))
  all_goals (refine Go ?_)
  all_goals (refine WC.sub [(2, _)] ⟨rfl, trivial⟩ ?_)
  all_goals (refine WC.ret ?_)
  all_goals (repeat' (with_reducible first | refine thenP_r ?_ | refine blockP_r ?_))
  all_goals (refine retP_1 _ ⟨rfl, trivial⟩ ?_)
  all_goals (exact ⟨rfl, rfl⟩)
set_option maxHeartbeats 2000000 in
set_option maxRecDepth 100000 in
theorem get_yes {h : Heap} {b m : Nat} {most : Int} {es : List (List UInt8 × Value)} (t : Tb h b m most es) (name : List UInt8) {v : Value} (hv : alook es name = some v) :
    CallsH Tryz.prog 54 ⟨[.pointer (some ⟨b, 0, none⟩), St name]⟩ h fun u h' => u = .tuple ⟨[v, .bool true]⟩ ∧ h' = h := by
  obtain ⟨hb, hm⟩ := t
  refine calls [(0, _), (1, _)] Tryz.func54 rfl Tryz.ntmps54 rfl ⟨rfl, rfl, trivial⟩ ?_
  all_goals (refine WC.sr ?_)
  all_goals (refine Go ?_)
  all_goals (refine WC.seq ?_)
  all_goals (refine WC.sr ?_)
  all_goals (refine Go ?_)
  all_goals (refine WL.call (vs := [_]) rfl (fun a w => Tryz.call50 a w) rfl (ready_yes hb) rfl rfl rfl ?_
             rintro _ hz ⟨rfl, _⟩
             subst hz)
  all_goals (refine Go ?_)
  all_goals (refine WC.sub [(0, _), (1, _), (10, _)] ⟨rfl, rfl, rfl, trivial⟩ ?_)
  all_goals (refine goC 1 2 ?_ ?_ <;> first | exact ⟨⟩ | refine Hb.mk fun hb => ?_ | skip)
  all_goals (first | (fail_if_success refine goB 1 ?_) | (
  refine goB 1 ?_
  all_goals (refine WC.sr ?_)
  all_goals (refine Go ?_)
  all_goals (refine WC.ret ?_)
  all_goals (repeat' (with_reducible first | refine thenP_r ?_ | refine blockP_r ?_))
  all_goals (refine retP_2 _ _ ⟨rfl, rfl, trivial⟩ ?_)
  all_goals (exact ⟨rfl, rfl⟩)
  skip))
  all_goals (first | (fail_if_success refine goB 2 ?_) | (
  refine goB 2 ?_
  all_goals (refine WC.skip ?_)
  skip))
  all_goals (refine Gn ?_)
  all_goals (refine WC.sr ?_)
  all_goals (refine Go ?_)
  all_goals (refine WL.step (ok_nilCheck rfl) rfl rfl rfl ?_)
  all_goals (refine Go ?_)
  all_goals (refine WL.step (ok_load (fun w => Tryz.isAgg103 w) rfl (by first | assumption | exact cell_blk (by assumption) rfl)) rfl rfl rfl ?_)
  all_goals (refine Go ?_)
  all_goals (first | (refine WL.step ((ok_lookup keyS Tryz.underlying103 Tryz.underlying9 rfl rfl (by assumption) (by assumption)).1) rfl rfl rfl ?_) | (refine WL.step ((ok_lookup_no keyS Tryz.underlying103 Tryz.underlying9 (fun w => Tryz.zeroValue3 w) rfl rfl (by assumption) (by assumption)).1) rfl rfl rfl ?_) | (refine WL.step ((ok_lookup_nil keyS Tryz.underlying103 Tryz.underlying9 (fun w => Tryz.zeroValue3 w) rfl rfl).1) rfl rfl rfl ?_))
  all_goals (refine Go ?_)
  all_goals (refine WC.sub [(6, _), (7, _)] ⟨rfl, rfl, trivial⟩ ?_)
  all_goals (refine WC.sr ?_)
  all_goals (refine Go ?_)
  all_goals (refine WC.sub [(4, _), (5, _)] ⟨rfl, rfl, trivial⟩ ?_)
  all_goals (refine WC.ret ?_)
  all_goals (repeat' (with_reducible first | refine thenP_r ?_ | refine blockP_r ?_))
  all_goals (refine retP_2 _ _ ⟨rfl, rfl, trivial⟩ ?_)
  all_goals (exact ⟨rfl, rfl⟩)
set_option maxHeartbeats 2000000 in
set_option maxRecDepth 100000 in
theorem get_no {h : Heap} {b m : Nat} {most : Int} {es : List (List UInt8 × Value)} (t : Tb h b m most es) (name : List UInt8) (hv : alook es name = none) :
    CallsH Tryz.prog 54 ⟨[.pointer (some ⟨b, 0, none⟩), St name]⟩ h fun u h' => u = .tuple ⟨[In 0, .bool false]⟩ ∧ h' = h := by
  obtain ⟨hb, hm⟩ := t
  refine calls [(0, _), (1, _)] Tryz.func54 rfl Tryz.ntmps54 rfl ⟨rfl, rfl, trivial⟩ ?_
  all_goals (refine WC.sr ?_)
  all_goals (refine Go ?_)
  all_goals (refine WC.seq ?_)
  all_goals (refine WC.sr ?_)
  all_goals (refine Go ?_)
  all_goals (refine WL.call (vs := [_]) rfl (fun a w => Tryz.call50 a w) rfl (ready_yes hb) rfl rfl rfl ?_
             rintro _ hz ⟨rfl, _⟩
             subst hz)
  all_goals (refine Go ?_)
  all_goals (refine WC.sub [(0, _), (1, _), (10, _)] ⟨rfl, rfl, rfl, trivial⟩ ?_)
  all_goals (refine goC 1 2 ?_ ?_ <;> first | exact ⟨⟩ | refine Hb.mk fun hb => ?_ | skip)
  all_goals (first | (fail_if_success refine goB 1 ?_) | (
  refine goB 1 ?_
  all_goals (refine WC.sr ?_)
  all_goals (refine Go ?_)
  all_goals (refine WC.ret ?_)
  all_goals (repeat' (with_reducible first | refine thenP_r ?_ | refine blockP_r ?_))
  all_goals (refine retP_2 _ _ ⟨rfl, rfl, trivial⟩ ?_)
  all_goals (exact ⟨rfl, rfl⟩)
  skip))
  all_goals (first | (fail_if_success refine goB 2 ?_) | (
  refine goB 2 ?_
  all_goals (refine WC.skip ?_)
  skip))
  all_goals (refine Gn ?_)
  all_goals (refine WC.sr ?_)
  all_goals (refine Go ?_)
  all_goals (refine WL.step (ok_nilCheck rfl) rfl rfl rfl ?_)
  all_goals (refine Go ?_)
  all_goals (refine WL.step (ok_load (fun w => Tryz.isAgg103 w) rfl (by first | assumption | exact cell_blk (by assumption) rfl)) rfl rfl rfl ?_)
  all_goals (refine Go ?_)
  all_goals (first | (refine WL.step ((ok_lookup keyS Tryz.underlying103 Tryz.underlying9 rfl rfl (by assumption) (by assumption)).1) rfl rfl rfl ?_) | (refine WL.step ((ok_lookup_no keyS Tryz.underlying103 Tryz.underlying9 (fun w => Tryz.zeroValue3 w) rfl rfl (by assumption) (by assumption)).1) rfl rfl rfl ?_) | (refine WL.step ((ok_lookup_nil keyS Tryz.underlying103 Tryz.underlying9 (fun w => Tryz.zeroValue3 w) rfl rfl).1) rfl rfl rfl ?_))
  all_goals (refine Go ?_)
  all_goals (refine WC.sub [(6, _), (7, _)] ⟨rfl, rfl, trivial⟩ ?_)
  all_goals (refine WC.sr ?_)
  all_goals (refine Go ?_)
  all_goals (refine WC.sub [(4, _), (5, _)] ⟨rfl, rfl, trivial⟩ ?_)
  all_goals (refine WC.ret ?_)
  all_goals (repeat' (with_reducible first | refine thenP_r ?_ | refine blockP_r ?_))
  all_goals (refine retP_2 _ _ ⟨rfl, rfl, trivial⟩ ?_)
  all_goals (exact ⟨rfl, rfl⟩)
set_option maxHeartbeats 2000000 in
set_option maxRecDepth 100000 in
theorem set_there {h : Heap} {b m : Nat} {most : Int} {es : List (List UInt8 × Value)} (t : Tb h b m most es) (name : List UInt8) (id : Value) {v : Value} (hv : alook es name = some v) :
    CallsH Tryz.prog 23 ⟨[.pointer (some ⟨b, 0, none⟩), St name, id]⟩ h fun u h' => u = .tuple ⟨[v, In 0]⟩ ∧ Tb h' b m most (aput es name id) ∧ Ext (fun k => k = m) h h' := by
  have t0 := t
  obtain ⟨hb, hm⟩ := t
  refine calls [(0, _), (1, _), (2, _)] Tryz.func23 rfl Tryz.ntmps23 rfl ⟨rfl, rfl, rfl, trivial⟩ ?_
  all_goals (refine WC.sr ?_)
  all_goals (refine Go ?_)
  all_goals (refine WC.seq ?_)
  all_goals (refine WC.sr ?_)
  all_goals (refine Go ?_)
  all_goals (refine WL.call (vs := [_]) rfl (fun a w => Tryz.call50 a w) rfl (ready_yes hb) rfl rfl rfl ?_
             rintro _ hz ⟨rfl, _⟩
             subst hz)
  all_goals (refine Go ?_)
  all_goals (refine WC.sub [(0, _), (1, _), (2, _), (12, _)] ⟨rfl, rfl, rfl, rfl, trivial⟩ ?_)
  all_goals (refine goC 1 2 ?_ ?_ <;> first | exact ⟨⟩ | refine Hb.mk fun hb => ?_ | skip)
  all_goals (first | (fail_if_success refine goB 1 ?_) | (
  refine goB 1 ?_
  all_goals (refine WC.sr ?_)
  all_goals (refine Go ?_)
  all_goals (refine WC.sub [(6, _), (7, _)] ⟨rfl, rfl, trivial⟩ ?_)
  all_goals (refine WC.ret ?_)
  all_goals (repeat' (with_reducible first | refine thenP_r ?_ | refine blockP_r ?_))
  all_goals (refine retP_2 _ _ ⟨rfl, rfl, trivial⟩ ?_)
  all_goals (exact ⟨rfl, t0.turn hm1 hx1, hx1⟩)
  skip))
  all_goals (first | (fail_if_success refine goB 2 ?_) | (
  refine goB 2 ?_
  all_goals (refine WC.skip ?_)
  skip))
  all_goals (refine Gn ?_)
  all_goals (refine WC.sr ?_)
  all_goals (refine Go ?_)
  all_goals (refine WL.step (ok_nilCheck rfl) rfl rfl rfl ?_)
  all_goals (refine Go ?_)
  all_goals (refine WL.step (ok_load (fun w => Tryz.isAgg103 w) rfl (by first | assumption | exact cell_blk (by assumption) rfl)) rfl rfl rfl ?_)
  all_goals (refine Go ?_)
  all_goals (first | (refine WL.step ((ok_lookup keyS Tryz.underlying103 Tryz.underlying9 rfl rfl (by assumption) (by assumption)).1) rfl rfl rfl ?_) | (refine WL.step ((ok_lookup_no keyS Tryz.underlying103 Tryz.underlying9 (fun w => Tryz.zeroValue3 w) rfl rfl (by assumption) (by assumption)).1) rfl rfl rfl ?_) | (refine WL.step ((ok_lookup_nil keyS Tryz.underlying103 Tryz.underlying9 (fun w => Tryz.zeroValue3 w) rfl rfl).1) rfl rfl rfl ?_))
  all_goals (refine Go ?_)
  all_goals (refine WC.sub [(0, _), (1, _), (2, _), (8, _), (9, _)] ⟨rfl, rfl, rfl, rfl, rfl, trivial⟩ ?_)
  all_goals (refine WC.seq ?_)
  all_goals (refine WC.seq ?_)
  all_goals (refine WC.drawE fol (by kernel_rfl) ?_)
  all_goals (refine WQ.stepE (ok_move rfl) rfl rfl rfl ?_)
  all_goals (refine WQ.stepE (ok_not rfl) rfl rfl rfl ?_)
  all_goals (refine WQ.stepE (ok_move rfl) rfl rfl rfl ?_)
  all_goals (try ((fail_if_success (refine WQ.part 24 (b := true) rfl (fun _ => ?_) (fun _ => ?_))); (fail_if_success (refine WQ.part 24 (b := false) rfl (fun _ => ?_) (fun _ => ?_))); (refine WQ.part 24 rfl (fun hb => ?_) (fun hb => ?_) <;> (first | replace hb := of_decide_eq_true hb | replace hb := of_decide_eq_false hb | replace hb := of_decide_eq_false (nt hb) | replace hb := of_decide_eq_true (nf hb) | skip))))
  all_goals (first | (refine WQ.pass rfl rfl rfl ?_) | (refine WQ.stepE (ok_move rfl) rfl rfl rfl ?_))
  all_goals (first | (refine WQ.pass rfl rfl rfl ?_) | (refine WQ.stepE (ok_nilCheck rfl) rfl rfl rfl ?_))
  all_goals (first | (refine WQ.pass rfl rfl rfl ?_) | (refine WQ.stepE (ok_fieldAddr rfl Tryz.underlying107 rfl (fun w => Tryz.sizeOf103 w)) rfl rfl rfl ?_))
  all_goals (first | (refine WQ.pass rfl rfl rfl ?_) | (refine WQ.stepE (ok_load (fun w => Tryz.isAgg103 w) rfl (by first | assumption | exact cell_blk (by assumption) rfl)) rfl rfl rfl ?_))
  all_goals (first | (refine WQ.pass rfl rfl rfl ?_) | (first | (refine WQ.stepE (ok_lenM rfl Tryz.underlying103 rfl (by assumption)) rfl rfl rfl ?_) | (refine WQ.stepE (ok_lenM0 rfl Tryz.underlying103 rfl) rfl rfl rfl ?_)))
  all_goals (first | (refine WQ.pass rfl rfl rfl ?_) | (refine WQ.stepE (ok_move rfl) rfl rfl rfl ?_))
  all_goals (first | (refine WQ.pass rfl rfl rfl ?_) | (refine WQ.stepE (ok_nilCheck rfl) rfl rfl rfl ?_))
  all_goals (first | (refine WQ.pass rfl rfl rfl ?_) | (refine WQ.stepE (ok_fieldAddr rfl Tryz.underlying107 rfl (fun w => Tryz.sizeOf3 w)) rfl rfl rfl ?_))
  all_goals (first | (refine WQ.pass rfl rfl rfl ?_) | (refine WQ.stepE (ok_load (fun w => Tryz.isAgg3 w) rfl (by first | assumption | exact cell_blk (by assumption) rfl)) rfl rfl rfl ?_))
  all_goals (first | (refine WQ.pass rfl rfl rfl ?_) | (first | (refine WQ.stepE (OkP.bool_t (by omega) (ok_geq rfl rfl)) rfl rfl rfl ?_) | (refine WQ.stepE (OkP.bool_f (by omega) (ok_geq rfl rfl)) rfl rfl rfl ?_) | (refine WQ.stepE (ok_geq rfl rfl) rfl rfl rfl ?_)))
  all_goals (first | (refine WQ.stepE (ok_pick_t rfl rfl) rfl rfl rfl ?_) | (refine WQ.stepE (ok_pick_f rfl rfl) rfl rfl rfl ?_))
  all_goals (refine WQ.nil ?_)
  all_goals (refine Gn ?_)
  all_goals (refine WC.sub [(0, _), (1, _), (2, _), (8, _), (35, _)] ⟨rfl, rfl, rfl, rfl, rfl, trivial⟩ ?_)
  all_goals (refine goC 3 4 ?_ ?_ <;> first | exact ⟨⟩ | refine Hb.mk fun hb => ?_ | skip)
  all_goals (first | (fail_if_success refine goB 3 ?_) | (
  refine goB 3 ?_
  all_goals (refine WC.sr ?_)
  all_goals (refine Go ?_)
  all_goals (refine WC.sub [(6, _), (7, _)] ⟨rfl, rfl, trivial⟩ ?_)
  all_goals (refine WC.ret ?_)
  all_goals (repeat' (with_reducible first | refine thenP_r ?_ | refine blockP_r ?_))
  all_goals (refine retP_2 _ _ ⟨rfl, rfl, trivial⟩ ?_)
  all_goals (exact ⟨rfl, t0.turn hm1 hx1, hx1⟩)
  skip))
  all_goals (first | (fail_if_success refine goB 4 ?_) | (
  refine goB 4 ?_
  all_goals (refine WC.skip ?_)
  skip))
  all_goals (refine Gn ?_)
  all_goals (refine WC.sr ?_)
  all_goals (refine Go ?_)
  all_goals (refine WL.step (ok_nilCheck rfl) rfl rfl rfl ?_)
  all_goals (refine Go ?_)
  all_goals (refine WL.step (ok_load (fun w => Tryz.isAgg103 w) rfl (by first | assumption | exact cell_blk (by assumption) rfl)) rfl rfl rfl ?_)
  all_goals (refine Go ?_)
  all_goals (refine WL.stepR0 (ok_mapUpdate keyS Tryz.underlying103 Tryz.underlying9 rfl rfl rfl (by assumption)) rfl rfl ?_
             rintro _ h1 ⟨hm1, hx1⟩)
  all_goals (refine Gn ?_)
  all_goals (refine WC.sub [(8, _)] ⟨rfl, trivial⟩ ?_)
  all_goals (refine WC.sr ?_)
  all_goals (refine Go ?_)
  all_goals (refine WC.ret ?_)
  all_goals (repeat' (with_reducible first | refine thenP_r ?_ | refine blockP_r ?_))
  all_goals (refine retP_2 _ _ ⟨rfl, rfl, trivial⟩ ?_)
  all_goals (exact ⟨rfl, t0.turn hm1 hx1, hx1⟩)
set_option maxHeartbeats 2000000 in
set_option maxRecDepth 100000 in
theorem set_new_ {h : Heap} {b m : Nat} {most : Int} {es : List (List UInt8 × Value)} (t : Tb h b m most es) (name : List UInt8) (id : Value) (hv : alook es name = none) (hl : (es.length : Int) < most) :
    CallsH Tryz.prog 23 ⟨[.pointer (some ⟨b, 0, none⟩), St name, id]⟩ h fun u h' => u = .tuple ⟨[In 0, In 0]⟩ ∧ Tb h' b m most (aput es name id) ∧ Ext (fun k => k = m) h h' := by
  have t0 := t
  obtain ⟨hb, hm⟩ := t
  refine calls [(0, _), (1, _), (2, _)] Tryz.func23 rfl Tryz.ntmps23 rfl ⟨rfl, rfl, rfl, trivial⟩ ?_
  all_goals (refine WC.sr ?_)
  all_goals (refine Go ?_)
  all_goals (refine WC.seq ?_)
  all_goals (refine WC.sr ?_)
  all_goals (refine Go ?_)
  all_goals (refine WL.call (vs := [_]) rfl (fun a w => Tryz.call50 a w) rfl (ready_yes hb) rfl rfl rfl ?_
             rintro _ hz ⟨rfl, _⟩
             subst hz)
  all_goals (refine Go ?_)
  all_goals (refine WC.sub [(0, _), (1, _), (2, _), (12, _)] ⟨rfl, rfl, rfl, rfl, trivial⟩ ?_)
  all_goals (refine goC 1 2 ?_ ?_ <;> first | exact ⟨⟩ | refine Hb.mk fun hb => ?_ | skip)
  all_goals (first | (fail_if_success refine goB 1 ?_) | (
  refine goB 1 ?_
  all_goals (refine WC.sr ?_)
  all_goals (refine Go ?_)
  all_goals (refine WC.sub [(6, _), (7, _)] ⟨rfl, rfl, trivial⟩ ?_)
  all_goals (refine WC.ret ?_)
  all_goals (repeat' (with_reducible first | refine thenP_r ?_ | refine blockP_r ?_))
  all_goals (refine retP_2 _ _ ⟨rfl, rfl, trivial⟩ ?_)
  all_goals (exact ⟨rfl, t0.turn hm1 hx1, hx1⟩)
  skip))
  all_goals (first | (fail_if_success refine goB 2 ?_) | (
  refine goB 2 ?_
  all_goals (refine WC.skip ?_)
  skip))
  all_goals (refine Gn ?_)
  all_goals (refine WC.sr ?_)
  all_goals (refine Go ?_)
  all_goals (refine WL.step (ok_nilCheck rfl) rfl rfl rfl ?_)
  all_goals (refine Go ?_)
  all_goals (refine WL.step (ok_load (fun w => Tryz.isAgg103 w) rfl (by first | assumption | exact cell_blk (by assumption) rfl)) rfl rfl rfl ?_)
  all_goals (refine Go ?_)
  all_goals (first | (refine WL.step ((ok_lookup keyS Tryz.underlying103 Tryz.underlying9 rfl rfl (by assumption) (by assumption)).1) rfl rfl rfl ?_) | (refine WL.step ((ok_lookup_no keyS Tryz.underlying103 Tryz.underlying9 (fun w => Tryz.zeroValue3 w) rfl rfl (by assumption) (by assumption)).1) rfl rfl rfl ?_) | (refine WL.step ((ok_lookup_nil keyS Tryz.underlying103 Tryz.underlying9 (fun w => Tryz.zeroValue3 w) rfl rfl).1) rfl rfl rfl ?_))
  all_goals (refine Go ?_)
  all_goals (refine WC.sub [(0, _), (1, _), (2, _), (8, _), (9, _)] ⟨rfl, rfl, rfl, rfl, rfl, trivial⟩ ?_)
  all_goals (refine WC.seq ?_)
  all_goals (refine WC.seq ?_)
  all_goals (refine WC.drawE fol (by kernel_rfl) ?_)
  all_goals (refine WQ.stepE (ok_move rfl) rfl rfl rfl ?_)
  all_goals (refine WQ.stepE (ok_not rfl) rfl rfl rfl ?_)
  all_goals (refine WQ.stepE (ok_move rfl) rfl rfl rfl ?_)
  all_goals (try ((fail_if_success (refine WQ.part 24 (b := true) rfl (fun _ => ?_) (fun _ => ?_))); (fail_if_success (refine WQ.part 24 (b := false) rfl (fun _ => ?_) (fun _ => ?_))); (refine WQ.part 24 rfl (fun hb => ?_) (fun hb => ?_) <;> (first | replace hb := of_decide_eq_true hb | replace hb := of_decide_eq_false hb | replace hb := of_decide_eq_false (nt hb) | replace hb := of_decide_eq_true (nf hb) | skip))))
  all_goals (first | (refine WQ.pass rfl rfl rfl ?_) | (refine WQ.stepE (ok_move rfl) rfl rfl rfl ?_))
  all_goals (first | (refine WQ.pass rfl rfl rfl ?_) | (refine WQ.stepE (ok_nilCheck rfl) rfl rfl rfl ?_))
  all_goals (first | (refine WQ.pass rfl rfl rfl ?_) | (refine WQ.stepE (ok_fieldAddr rfl Tryz.underlying107 rfl (fun w => Tryz.sizeOf103 w)) rfl rfl rfl ?_))
  all_goals (first | (refine WQ.pass rfl rfl rfl ?_) | (refine WQ.stepE (ok_load (fun w => Tryz.isAgg103 w) rfl (by first | assumption | exact cell_blk (by assumption) rfl)) rfl rfl rfl ?_))
  all_goals (first | (refine WQ.pass rfl rfl rfl ?_) | (first | (refine WQ.stepE (ok_lenM rfl Tryz.underlying103 rfl (by assumption)) rfl rfl rfl ?_) | (refine WQ.stepE (ok_lenM0 rfl Tryz.underlying103 rfl) rfl rfl rfl ?_)))
  all_goals (first | (refine WQ.pass rfl rfl rfl ?_) | (refine WQ.stepE (ok_move rfl) rfl rfl rfl ?_))
  all_goals (first | (refine WQ.pass rfl rfl rfl ?_) | (refine WQ.stepE (ok_nilCheck rfl) rfl rfl rfl ?_))
  all_goals (first | (refine WQ.pass rfl rfl rfl ?_) | (refine WQ.stepE (ok_fieldAddr rfl Tryz.underlying107 rfl (fun w => Tryz.sizeOf3 w)) rfl rfl rfl ?_))
  all_goals (first | (refine WQ.pass rfl rfl rfl ?_) | (refine WQ.stepE (ok_load (fun w => Tryz.isAgg3 w) rfl (by first | assumption | exact cell_blk (by assumption) rfl)) rfl rfl rfl ?_))
  all_goals (first | (refine WQ.pass rfl rfl rfl ?_) | (first | (refine WQ.stepE (OkP.bool_t (by omega) (ok_geq rfl rfl)) rfl rfl rfl ?_) | (refine WQ.stepE (OkP.bool_f (by omega) (ok_geq rfl rfl)) rfl rfl rfl ?_) | (refine WQ.stepE (ok_geq rfl rfl) rfl rfl rfl ?_)))
  all_goals (first | (refine WQ.stepE (ok_pick_t rfl rfl) rfl rfl rfl ?_) | (refine WQ.stepE (ok_pick_f rfl rfl) rfl rfl rfl ?_))
  all_goals (refine WQ.nil ?_)
  all_goals (refine Gn ?_)
  all_goals (refine WC.sub [(0, _), (1, _), (2, _), (8, _), (35, _)] ⟨rfl, rfl, rfl, rfl, rfl, trivial⟩ ?_)
  all_goals (refine goC 3 4 ?_ ?_ <;> first | exact ⟨⟩ | refine Hb.mk fun hb => ?_ | skip)
  all_goals (first | (fail_if_success refine goB 3 ?_) | (
  refine goB 3 ?_
  all_goals (refine WC.sr ?_)
  all_goals (refine Go ?_)
  all_goals (refine WC.sub [(6, _), (7, _)] ⟨rfl, rfl, trivial⟩ ?_)
  all_goals (refine WC.ret ?_)
  all_goals (repeat' (with_reducible first | refine thenP_r ?_ | refine blockP_r ?_))
  all_goals (refine retP_2 _ _ ⟨rfl, rfl, trivial⟩ ?_)
  all_goals (exact ⟨rfl, t0.turn hm1 hx1, hx1⟩)
  skip))
  all_goals (first | (fail_if_success refine goB 4 ?_) | (
  refine goB 4 ?_
  all_goals (refine WC.skip ?_)
  skip))
  all_goals (refine Gn ?_)
  all_goals (refine WC.sr ?_)
  all_goals (refine Go ?_)
  all_goals (refine WL.step (ok_nilCheck rfl) rfl rfl rfl ?_)
  all_goals (refine Go ?_)
  all_goals (refine WL.step (ok_load (fun w => Tryz.isAgg103 w) rfl (by first | assumption | exact cell_blk (by assumption) rfl)) rfl rfl rfl ?_)
  all_goals (refine Go ?_)
  all_goals (refine WL.stepR0 (ok_mapUpdate keyS Tryz.underlying103 Tryz.underlying9 rfl rfl rfl (by assumption)) rfl rfl ?_
             rintro _ h1 ⟨hm1, hx1⟩)
  all_goals (refine Gn ?_)
  all_goals (refine WC.sub [(8, _)] ⟨rfl, trivial⟩ ?_)
  all_goals (refine WC.sr ?_)
  all_goals (refine Go ?_)
  all_goals (refine WC.ret ?_)
  all_goals (repeat' (with_reducible first | refine thenP_r ?_ | refine blockP_r ?_))
  all_goals (refine retP_2 _ _ ⟨rfl, rfl, trivial⟩ ?_)
  all_goals (exact ⟨rfl, t0.turn hm1 hx1, hx1⟩)
set_option maxHeartbeats 2000000 in
set_option maxRecDepth 100000 in
theorem set_full {h : Heap} {b m : Nat} {most : Int} {es : List (List UInt8 × Value)} (t : Tb h b m most es) (name : List UInt8) (id : Value) (hv : alook es name = none) (hl : most ≤ (es.length : Int)) :
    CallsH Tryz.prog 23 ⟨[.pointer (some ⟨b, 0, none⟩), St name, id]⟩ h fun u h' => u = .tuple ⟨[In 0, In 6]⟩ ∧ h' = h := by
  have t0 := t
  obtain ⟨hb, hm⟩ := t
  refine calls [(0, _), (1, _), (2, _)] Tryz.func23 rfl Tryz.ntmps23 rfl ⟨rfl, rfl, rfl, trivial⟩ ?_
  all_goals (refine WC.sr ?_)
  all_goals (refine Go ?_)
  all_goals (refine WC.seq ?_)
  all_goals (refine WC.sr ?_)
  all_goals (refine Go ?_)
  all_goals (refine WL.call (vs := [_]) rfl (fun a w => Tryz.call50 a w) rfl (ready_yes hb) rfl rfl rfl ?_
             rintro _ hz ⟨rfl, _⟩
             subst hz)
  all_goals (refine Go ?_)
  all_goals (refine WC.sub [(0, _), (1, _), (2, _), (12, _)] ⟨rfl, rfl, rfl, rfl, trivial⟩ ?_)
  all_goals (refine goC 1 2 ?_ ?_ <;> first | exact ⟨⟩ | refine Hb.mk fun hb => ?_ | skip)
  all_goals (first | (fail_if_success refine goB 1 ?_) | (
  refine goB 1 ?_
  all_goals (refine WC.sr ?_)
  all_goals (refine Go ?_)
  all_goals (refine WC.sub [(6, _), (7, _)] ⟨rfl, rfl, trivial⟩ ?_)
  all_goals (refine WC.ret ?_)
  all_goals (repeat' (with_reducible first | refine thenP_r ?_ | refine blockP_r ?_))
  all_goals (refine retP_2 _ _ ⟨rfl, rfl, trivial⟩ ?_)
  all_goals (exact ⟨rfl, rfl⟩)
  skip))
  all_goals (first | (fail_if_success refine goB 2 ?_) | (
  refine goB 2 ?_
  all_goals (refine WC.skip ?_)
  skip))
  all_goals (refine Gn ?_)
  all_goals (refine WC.sr ?_)
  all_goals (refine Go ?_)
  all_goals (refine WL.step (ok_nilCheck rfl) rfl rfl rfl ?_)
  all_goals (refine Go ?_)
  all_goals (refine WL.step (ok_load (fun w => Tryz.isAgg103 w) rfl (by first | assumption | exact cell_blk (by assumption) rfl)) rfl rfl rfl ?_)
  all_goals (refine Go ?_)
  all_goals (first | (refine WL.step ((ok_lookup keyS Tryz.underlying103 Tryz.underlying9 rfl rfl (by assumption) (by assumption)).1) rfl rfl rfl ?_) | (refine WL.step ((ok_lookup_no keyS Tryz.underlying103 Tryz.underlying9 (fun w => Tryz.zeroValue3 w) rfl rfl (by assumption) (by assumption)).1) rfl rfl rfl ?_) | (refine WL.step ((ok_lookup_nil keyS Tryz.underlying103 Tryz.underlying9 (fun w => Tryz.zeroValue3 w) rfl rfl).1) rfl rfl rfl ?_))
  all_goals (refine Go ?_)
  all_goals (refine WC.sub [(0, _), (1, _), (2, _), (8, _), (9, _)] ⟨rfl, rfl, rfl, rfl, rfl, trivial⟩ ?_)
  all_goals (refine WC.seq ?_)
  all_goals (refine WC.seq ?_)
  all_goals (refine WC.drawE fol (by kernel_rfl) ?_)
  all_goals (refine WQ.stepE (ok_move rfl) rfl rfl rfl ?_)
  all_goals (refine WQ.stepE (ok_not rfl) rfl rfl rfl ?_)
  all_goals (refine WQ.stepE (ok_move rfl) rfl rfl rfl ?_)
  all_goals (try ((fail_if_success (refine WQ.part 24 (b := true) rfl (fun _ => ?_) (fun _ => ?_))); (fail_if_success (refine WQ.part 24 (b := false) rfl (fun _ => ?_) (fun _ => ?_))); (refine WQ.part 24 rfl (fun hb => ?_) (fun hb => ?_) <;> (first | replace hb := of_decide_eq_true hb | replace hb := of_decide_eq_false hb | replace hb := of_decide_eq_false (nt hb) | replace hb := of_decide_eq_true (nf hb) | skip))))
  all_goals (first | (refine WQ.pass rfl rfl rfl ?_) | (refine WQ.stepE (ok_move rfl) rfl rfl rfl ?_))
  all_goals (first | (refine WQ.pass rfl rfl rfl ?_) | (refine WQ.stepE (ok_nilCheck rfl) rfl rfl rfl ?_))
  all_goals (first | (refine WQ.pass rfl rfl rfl ?_) | (refine WQ.stepE (ok_fieldAddr rfl Tryz.underlying107 rfl (fun w => Tryz.sizeOf103 w)) rfl rfl rfl ?_))
  all_goals (first | (refine WQ.pass rfl rfl rfl ?_) | (refine WQ.stepE (ok_load (fun w => Tryz.isAgg103 w) rfl (by first | assumption | exact cell_blk (by assumption) rfl)) rfl rfl rfl ?_))
  all_goals (first | (refine WQ.pass rfl rfl rfl ?_) | (first | (refine WQ.stepE (ok_lenM rfl Tryz.underlying103 rfl (by assumption)) rfl rfl rfl ?_) | (refine WQ.stepE (ok_lenM0 rfl Tryz.underlying103 rfl) rfl rfl rfl ?_)))
  all_goals (first | (refine WQ.pass rfl rfl rfl ?_) | (refine WQ.stepE (ok_move rfl) rfl rfl rfl ?_))
  all_goals (first | (refine WQ.pass rfl rfl rfl ?_) | (refine WQ.stepE (ok_nilCheck rfl) rfl rfl rfl ?_))
  all_goals (first | (refine WQ.pass rfl rfl rfl ?_) | (refine WQ.stepE (ok_fieldAddr rfl Tryz.underlying107 rfl (fun w => Tryz.sizeOf3 w)) rfl rfl rfl ?_))
  all_goals (first | (refine WQ.pass rfl rfl rfl ?_) | (refine WQ.stepE (ok_load (fun w => Tryz.isAgg3 w) rfl (by first | assumption | exact cell_blk (by assumption) rfl)) rfl rfl rfl ?_))
  all_goals (first | (refine WQ.pass rfl rfl rfl ?_) | (first | (refine WQ.stepE (OkP.bool_t (by omega) (ok_geq rfl rfl)) rfl rfl rfl ?_) | (refine WQ.stepE (OkP.bool_f (by omega) (ok_geq rfl rfl)) rfl rfl rfl ?_) | (refine WQ.stepE (ok_geq rfl rfl) rfl rfl rfl ?_)))
  all_goals (first | (refine WQ.stepE (ok_pick_t rfl rfl) rfl rfl rfl ?_) | (refine WQ.stepE (ok_pick_f rfl rfl) rfl rfl rfl ?_))
  all_goals (refine WQ.nil ?_)
  all_goals (refine Gn ?_)
  all_goals (refine WC.sub [(0, _), (1, _), (2, _), (8, _), (35, _)] ⟨rfl, rfl, rfl, rfl, rfl, trivial⟩ ?_)
  all_goals (refine goC 3 4 ?_ ?_ <;> first | exact ⟨⟩ | refine Hb.mk fun hb => ?_ | skip)
  all_goals (first | (fail_if_success refine goB 3 ?_) | (
  refine goB 3 ?_
  all_goals (refine WC.sr ?_)
  all_goals (refine Go ?_)
  all_goals (refine WC.sub [(6, _), (7, _)] ⟨rfl, rfl, trivial⟩ ?_)
  all_goals (refine WC.ret ?_)
  all_goals (repeat' (with_reducible first | refine thenP_r ?_ | refine blockP_r ?_))
  all_goals (refine retP_2 _ _ ⟨rfl, rfl, trivial⟩ ?_)
  all_goals (exact ⟨rfl, rfl⟩)
  skip))
  all_goals (first | (fail_if_success refine goB 4 ?_) | (
  refine goB 4 ?_
  all_goals (refine WC.skip ?_)
  skip))
  all_goals (refine Gn ?_)
  all_goals (refine WC.sr ?_)
  all_goals (refine Go ?_)
  all_goals (refine WL.step (ok_nilCheck rfl) rfl rfl rfl ?_)
  all_goals (refine Go ?_)
  all_goals (refine WL.step (ok_load (fun w => Tryz.isAgg103 w) rfl (by first | assumption | exact cell_blk (by assumption) rfl)) rfl rfl rfl ?_)
  all_goals (refine Go ?_)
  all_goals (refine WL.stepR0 (ok_mapUpdate keyS Tryz.underlying103 Tryz.underlying9 rfl rfl rfl (by assumption)) rfl rfl ?_
             rintro _ h1 ⟨hm1, hx1⟩)
  all_goals (refine Gn ?_)
  all_goals (refine WC.sub [(8, _)] ⟨rfl, trivial⟩ ?_)
  all_goals (refine WC.sr ?_)
  all_goals (refine Go ?_)
  all_goals (refine WC.ret ?_)
  all_goals (repeat' (with_reducible first | refine thenP_r ?_ | refine blockP_r ?_))
  all_goals (refine retP_2 _ _ ⟨rfl, rfl, trivial⟩ ?_)
  all_goals (exact ⟨rfl, rfl⟩)
set_option maxHeartbeats 2000000 in
set_option maxRecDepth 100000 in
theorem new_yes {h : Heap} (most : Int) (h0 : 1 ≤ most) (h1 : most ≤ 4096) :
    CallsH Tryz.prog 19 ⟨[In most]⟩ h fun u h' => ∃ b m, u = .tuple ⟨[.pointer (some ⟨b, 0, none⟩), In 0]⟩ ∧ Tb h' b m most [] ∧ h.size ≤ b ∧ h.size ≤ m ∧ Ext No h h' := by
  refine calls [(0, _)] Tryz.func19 rfl Tryz.ntmps19 rfl ⟨rfl, trivial⟩ ?_
  all_goals (refine WC.sr ?_)
  all_goals (refine Go ?_)
  all_goals (refine WC.seq ?_)
  all_goals (refine WC.sr ?_)
  all_goals (refine Go ?_)
  all_goals (refine goP 6 ?_ ?_ <;> first | exact ⟨⟩ | refine Hb.mk fun hb => ?_ | skip)
  all_goals (refine Gg ?_)
  all_goals (refine Go ?_)
  all_goals (refine WC.sub [(0, _), (9, _)] ⟨rfl, rfl, trivial⟩ ?_)
  all_goals (refine goC 1 2 ?_ ?_ <;> first | exact ⟨⟩ | refine Hb.mk fun hb => ?_ | skip)
  all_goals (first | (fail_if_success refine goB 1 ?_) | (
  refine goB 1 ?_
  all_goals (refine WC.sr ?_)
  all_goals (refine Go ?_)
  all_goals (refine WC.ret ?_)
  all_goals (repeat' (with_reducible first | refine thenP_r ?_ | refine blockP_r ?_))
  all_goals (refine retP_2 _ _ ⟨rfl, rfl, trivial⟩ ?_)
  all_goals (exact ⟨_, _, rfl, ⟨hb1, ⟨_, _, hx1.obj hm1 id, MapKept.stamped_empty 0, rfl⟩⟩, Nat.le_trans hxm.size hg1, hgm, hxm.trans hx1⟩)
  skip))
  all_goals (first | (fail_if_success refine goB 2 ?_) | (
  refine goB 2 ?_
  all_goals (refine WC.skip ?_)
  skip))
  all_goals (refine Gn ?_)
  all_goals (refine WC.sr ?_)
  all_goals (refine WL.stepR okE_makeMap rfl rfl rfl ?_
             rintro _ h1 ⟨m1, rfl, hgm, hm1, hxm⟩)
  all_goals (refine Go ?_)
  all_goals (refine WL.step (ok_buildF (vs := [_, _]) (cs := [_, _]) (fun | [a0, a1] => [a0, a1] | _ => []) rfl rfl (by kernel_rfl)) rfl rfl rfl ?_)
  all_goals (refine WL.stepR (okE_box rfl) rfl rfl rfl ?_
             rintro _ h2 ⟨b1, rfl, hg1, hb1, hx1⟩)
  all_goals (refine Go ?_)
  all_goals (refine WC.sub [(2, _), (3, _)] ⟨rfl, rfl, trivial⟩ ?_)
  all_goals (refine WC.ret ?_)
  all_goals (repeat' (with_reducible first | refine thenP_r ?_ | refine blockP_r ?_))
  all_goals (refine retP_2 _ _ ⟨rfl, rfl, trivial⟩ ?_)
  all_goals (exact ⟨_, _, rfl, ⟨hb1, ⟨_, _, hx1.obj hm1 id, MapKept.stamped_empty 0, rfl⟩⟩, Nat.le_trans hxm.size hg1, hgm, hxm.trans hx1⟩)
end Go.Proofs.YtggmocdbfbhklaaGreat


/-
  TABLE (layer 15): the document's: a list of names, rising.
-/
namespace Go.Proofs.YtggmocdbfbhklaaGreat
open Go Go.RK

abbrev NJ := List UInt8 × Int
abbrev njC (p : NJ) : List Value := [St p.1, In p.2]
theorem njC_len (p : NJ) : (njC p).length = 2 := rfl
theorem njs_one {l : List NJ} : ∀ v ∈ l.flatMap njC, v.oneCell' = true := fun v hv => by
  obtain ⟨p, _, hp⟩ := List.mem_flatMap.1 hv
  simp only [njC, List.mem_cons, List.not_mem_nil, or_false] at hp
  rcases hp with rfl | rfl <;> rfl
/-- The document's table at block b; its row is its own. -/
structure Rf (h : Heap) (b : Nat) (v : Value) (most : Int) (L : List NJ) : Prop where
  blk : h[b]? = some (.cells ⟨[v, In most]⟩ 110 (0, 0))
  own : Own h v 115 2 L.length (L.flatMap njC)
section
variable {h h' : Heap} {b : Nat} {v : Value} {most : Int} {L : List NJ}
theorem Rf.ne (r : Rf h b v most L) : v.ownBlock ≠ some b := fun e => by
  obtain ⟨_, ⟨e1, _⟩ | ⟨g, cap, cur, e1, hg, _⟩⟩ := r.own
  · rw [e1] at e; cases e
  · rw [e1] at e
    simp only [Value.ownBlock, Option.some.injEq] at e
    have e2 : g = b := by simpa using e
    rw [e2, r.blk] at hg
    simp at hg
theorem Rf.ext {S : Nat → Prop} (r : Rf h b v most L) (a : Ext S h h') (h1 : ¬ S b) (h2 : ∀ q, v.ownBlock = some q → ¬ S q) : Rf h' b v most L := ⟨a.obj r.blk h1, r.own.ext a h2⟩
theorem Rf.ext0 (r : Rf h b v most L) (a : Ext No h h') : Rf h' b v most L := r.ext a nos (fun _ _ => nos)
set_option maxHeartbeats 2000000 in
set_option maxRecDepth 100000 in
theorem new15_yes (h0 : 1 ≤ most) (h1 : most ≤ 4096) :
    CallsH Tryz.prog 20 ⟨[In most]⟩ h fun u h' => ∃ b, u = .tuple ⟨[.pointer (some ⟨b, 0, none⟩), In 0]⟩ ∧ Rf h' b (.slice none 0 0) most [] ∧ h.size ≤ b ∧ Ext No h h' := by
  refine calls [(0, _)] Tryz.func20 rfl Tryz.ntmps20 rfl ⟨rfl, trivial⟩ ?_
  all_goals (refine WC.sr ?_)
  all_goals (refine Go ?_)
  all_goals (refine WC.seq ?_)
  all_goals (refine WC.sr ?_)
  all_goals (refine Go ?_)
  all_goals (refine goP 6 ?_ ?_ <;> first | exact ⟨⟩ | refine Hb.mk fun hb => ?_ | skip)
  all_goals (refine Gg ?_)
  all_goals (refine Go ?_)
  all_goals (refine WC.sub [(0, _), (9, _)] ⟨rfl, rfl, trivial⟩ ?_)
  all_goals (refine goC 1 2 ?_ ?_ <;> first | exact ⟨⟩ | refine Hb.mk fun hb => ?_ | skip)
  all_goals (first | (fail_if_success refine goB 1 ?_) | (
  refine goB 1 ?_
  all_goals (refine WC.sr ?_)
  all_goals (refine Go ?_)
  all_goals (refine WC.ret ?_)
  all_goals (repeat' (with_reducible first | refine thenP_r ?_ | refine blockP_r ?_))
  all_goals (refine retP_2 _ _ ⟨rfl, rfl, trivial⟩ ?_)
  all_goals (exact ⟨_, rfl, ⟨hb1, Own.nil _ _ _⟩, hg1, hx1⟩)
  skip))
  all_goals (first | (fail_if_success refine goB 2 ?_) | (
  refine goB 2 ?_
  all_goals (refine WC.skip ?_)
  skip))
  all_goals (refine Gn ?_)
  all_goals (refine WC.sr ?_)
  all_goals (refine Go ?_)
  all_goals (refine WL.step (ok_buildF (vs := [_]) (cs := [_, _]) (fun | [a1] => [(.slice none 0 0), a1] | _ => []) rfl rfl (by kernel_rfl)) rfl rfl rfl ?_)
  all_goals (refine WL.stepR (okE_box rfl) rfl rfl rfl ?_
             rintro _ h1 ⟨b1, rfl, hg1, hb1, hx1⟩)
  all_goals (refine Go ?_)
  all_goals (refine WC.sub [(2, _), (3, _)] ⟨rfl, rfl, trivial⟩ ?_)
  all_goals (refine WC.ret ?_)
  all_goals (repeat' (with_reducible first | refine thenP_r ?_ | refine blockP_r ?_))
  all_goals (refine retP_2 _ _ ⟨rfl, rfl, trivial⟩ ?_)
  all_goals (exact ⟨_, rfl, ⟨hb1, Own.nil _ _ _⟩, hg1, hx1⟩)
set_option maxHeartbeats 2000000 in
set_option maxRecDepth 100000 in
theorem get15 (r : Rf h b v most L) (hri : Rise L) (hl : L.length ≤ 1000000) (n : List UInt8) :
    CallsH Tryz.prog 65 ⟨[.pointer (some ⟨b, 0, none⟩), St n]⟩ h fun u h' => u = .tuple ⟨[In ((getL L n).getD 0), .bool (getL L n).isSome]⟩ ∧ h' = h := by
  obtain ⟨hB0, ho⟩ := r
  obtain ⟨A, c, rfl, _⟩ := ho.slice
  refine calls [(0, _), (1, _)] Tryz.func65 rfl Tryz.ntmps65 rfl ⟨rfl, rfl, trivial⟩ ?_
  all_goals (refine WC.sr ?_)
  all_goals (refine Go ?_)
  all_goals (refine WC.seq ?_)
  all_goals (refine WC.sr ?_)
  all_goals (refine Go ?_)
  all_goals (refine WC.block ?_)
  -- loop 0: slots that turn [6], that stay [0, 1]
  all_goals (refine WC.loopG (X := Nat) (fun x => ([(6, In (x : Int))] : Fr)) [(0, _), (1, _)] (fun k h' => h' = h ∧ k ≤ L.length ∧ ∀ p ∈ L.take k, p.1 ≠ n) (fun k => L.length - k) (0) ⟨rfl, rfl, rfl, trivial⟩ (by exact ⟨rfl, Nat.zero_le _, by simp⟩) ?_)
  all_goals (rintro k h9 ⟨hz, hk, hn⟩
             subst h9)
  all_goals (refine WC.sub [(6, _), (0, _), (1, _)] ⟨rfl, rfl, rfl, trivial⟩ ?_)
  all_goals (refine WC.seq ?_)
  all_goals (refine WC.sr ?_)
  all_goals (refine Go ?_)
  all_goals (refine WL.step (ok_nilCheck rfl) rfl rfl rfl ?_)
  all_goals (refine Go ?_)
  all_goals (refine WL.step (ok_load (fun w => Tryz.isAgg108 w) rfl (by first | assumption | exact cell_blk (by assumption) rfl)) rfl rfl rfl ?_)
  all_goals (refine Go ?_)
  all_goals (refine WC.sub [(0, _), (1, _), (6, _), (13, _)] ⟨rfl, rfl, rfl, rfl, trivial⟩ ?_)
  all_goals (refine goC 1 2 ?_ ?_ <;> first | exact ⟨⟩ | refine Hb.mk fun hb => ?_ | skip)
  all_goals (first | (fail_if_success refine goB 1 ?_) | (
  refine goB 1 ?_
  all_goals (refine WC.skip ?_)
  skip))
  all_goals (first | (fail_if_success refine goB 2 ?_) | (
  refine goB 2 ?_
  all_goals (refine WC.exit ?_)
  all_goals (repeat' (with_reducible first | refine thenP_x ?_ | refine blockP_miss rfl ?_ | refine blockP_hit ?_ | refine blockP_n ?_ | refine thenP_n ?_))
  all_goals (refine Br.out (i := 1000) ?_)
  skip))
  all_goals (refine Gn ?_)
  all_goals (first | (refine Br.keep ?_) | (refine WC.seq ?_))
  all_goals (first | (refine Br.keep ?_) | (refine WC.block ?_))
  all_goals (first | (refine Br.keep ?_) | (refine WC.sr ?_))
  all_goals (first
               | (refine Br.keep ?_)
               | (obtain ⟨bL, oL, hA, hbL, hat⟩ := Rd.at_ ho.rd (by omega)
                  obtain ⟨⟨ya, yb⟩, hy⟩ : ∃ y, L[k]? = some y := ⟨_, List.getElem?_eq_getElem (by omega)⟩
                  have hc : At h bL (oL + k * 2) [St ya, In yb] := At.elem njC_len hat hy))
  all_goals (first | (refine Br.keep ?_) | (refine WL.step (ok_move rfl) rfl rfl rfl ?_))
  all_goals (first | (refine Br.keep ?_) | (refine WL.step (ok_nilCheck rfl) rfl rfl rfl ?_))
  all_goals (refine Go ?_)
  all_goals (first | (refine Br.keep ?_) | (refine WL.step (ok_load (fun w => Tryz.isAgg108 w) rfl (by first | assumption | exact cell_blk (by assumption) rfl)) rfl rfl rfl ?_))
  all_goals (refine Go ?_)
  all_goals (first | (refine Br.keep ?_) | (refine WL.step (ok_idxAddrA Tryz.underlying108 (fun w => Tryz.sizeOf115 w) rfl rfl rfl (by omega) (by first | rfl | assumption)) rfl rfl rfl ?_))
  all_goals (refine Go ?_)
  all_goals (first | (refine Br.keep ?_) | (refine WL.step (ok_load (fun w => Tryz.isAgg9 w) rfl (by first | exact hc.get 0 rfl rfl | assumption | exact cell_blk (by assumption) rfl)) rfl rfl rfl ?_))
  all_goals (first | (refine Br.keep ?_) | (refine WL.step (ok_move rfl) rfl rfl rfl ?_))
  all_goals (first | (refine Br.keep ?_) | (refine WL.step (ok_eqlS rfl rfl) rfl rfl rfl ?_))
  all_goals (refine Gn ?_)
  all_goals (first | (refine Br.keep ?_) | (refine WC.sub [(0, _), (1, _), (6, _), (25, _)] ⟨rfl, rfl, rfl, rfl, trivial⟩ ?_))
  all_goals (first | (refine Br.keep ?_) | (refine goC 3 4 ?_ ?_ <;> first | exact ⟨⟩ | refine Hb.mk fun hb => ?_ | skip))
  all_goals (first | (fail_if_success refine goB 3 ?_) | (
  refine goB 3 ?_
  all_goals (refine WC.sr ?_)
  all_goals (refine Go ?_)
  all_goals (refine WL.step (ok_nilCheck rfl) rfl rfl rfl ?_)
  all_goals (refine Go ?_)
  all_goals (refine WL.step (ok_load (fun w => Tryz.isAgg108 w) rfl (by first | assumption | exact cell_blk (by assumption) rfl)) rfl rfl rfl ?_)
  all_goals (refine Go ?_)
  all_goals (refine WL.step (ok_idxAddrA Tryz.underlying108 (fun w => Tryz.sizeOf115 w) rfl rfl rfl (by omega) (by first | rfl | assumption)) rfl rfl rfl ?_)
  all_goals (refine Go ?_)
  all_goals (refine WL.step (ok_load (fun w => Tryz.isAgg3 w) rfl (by first | exact hc.get 1 rfl rfl | assumption | exact cell_blk (by assumption) rfl)) rfl rfl rfl ?_)
  all_goals (refine Go ?_)
  all_goals (refine WC.sub [(4, _), (5, _)] ⟨rfl, rfl, trivial⟩ ?_)
  all_goals (refine WC.ret ?_)
  all_goals (repeat' (with_reducible first | refine thenP_r ?_ | refine blockP_r ?_))
  all_goals (refine retP_2 _ _ ⟨rfl, rfl, trivial⟩ ?_)
  all_goals (first
              | (subst ya; rw [getL_hit hri hy]; exact ⟨rfl, rfl⟩)
              | (rw [getL_out hn (by omega)]; exact ⟨rfl, rfl⟩))
  skip))
  all_goals (first | (fail_if_success refine goB 4 ?_) | (
  refine goB 4 ?_
  all_goals (refine WC.skip ?_)
  skip))
  all_goals (refine Gn ?_)
  all_goals (first | (refine Br.keep ?_) | (refine WC.region ?_))
  all_goals (refine Go ?_)
  all_goals (first | (refine Br.keep ?_) | (exact ⟨k + 1, ⟨rfl, rfl, rfl, trivial⟩, (by exact ⟨rfl, by omega, take_ne hn hy (by assumption)⟩), (by omega)⟩))
  all_goals (try (refine Br.mk (i := 1000) ?_))
  all_goals (refine Gn ?_)
  all_goals (refine WC.sub [] trivial ?_)
  all_goals (refine WC.sr ?_)
  all_goals (refine Go ?_)
  all_goals (refine WC.ret ?_)
  all_goals (repeat' (with_reducible first | refine thenP_r ?_ | refine blockP_r ?_))
  all_goals (refine retP_2 _ _ ⟨rfl, rfl, trivial⟩ ?_)
  all_goals (first
              | (subst ya; rw [getL_hit hri hy]; exact ⟨rfl, rfl⟩)
              | (rw [getL_out hn (by omega)]; exact ⟨rfl, rfl⟩))
set_option maxHeartbeats 4000000 in
set_option maxRecDepth 100000 in
theorem set15 (r : Rf h b v most L) (hri : Rise L) (hl : L.length ≤ 1000000) (n : List UInt8) (id : Int) :
    CallsH Tryz.prog 24 ⟨[.pointer (some ⟨b, 0, none⟩), St n, In id]⟩ h fun u h' =>
      (∃ u0, getL L n = some u0 ∧ u = .tuple ⟨[In u0, In 0]⟩ ∧ Rf h' b v most (setL L n id) ∧ Ext (fun q => v.ownBlock = some q) h h') ∨
      (getL L n = none ∧ most ≤ (L.length : Int) ∧ u = .tuple ⟨[In 0, In 6]⟩ ∧ h' = h) ∨
      (getL L n = none ∧ (L.length : Int) < most ∧ u = .tuple ⟨[In 0, In 0]⟩ ∧ ∃ v', Rf h' b v' most (setL L n id) ∧ Ext (fun q => q = b) h h' ∧ ∀ q, v'.ownBlock = some q → h.size ≤ q) := by
  have r0 := r
  have hne := r.ne
  obtain ⟨hB0, ho⟩ := r
  have hbl := lt_of_some hB0
  obtain ⟨A, c, rfl, hcL⟩ := ho.slice
  refine calls [(0, _), (1, _), (2, _)] Tryz.func24 rfl Tryz.ntmps24 rfl ⟨rfl, rfl, rfl, trivial⟩ ?_
  all_goals (refine WC.sr ?_)
  all_goals (refine Go ?_)
  all_goals (refine WC.seq ?_)
  all_goals (refine WC.sr ?_)
  all_goals (refine Go ?_)
  all_goals (refine WC.block ?_)
  -- loop 0: slots that turn [8], that stay [0, 1, 2]
  all_goals (refine WC.loopG (X := Nat) (fun x => ([(8, In (x : Int))] : Fr)) [(0, _), (1, _), (2, _)] (fun k h' => h' = h ∧ k ≤ L.length ∧ ∀ p ∈ L.take k, p.1 ≠ n) (fun k => L.length - k) (0) ⟨rfl, rfl, rfl, rfl, trivial⟩ (by exact ⟨rfl, Nat.zero_le _, by simp⟩) ?_)
  all_goals (rintro k h9 ⟨hz, hk, hn⟩
             subst h9)
  all_goals (refine WC.sub [(8, _), (0, _), (1, _), (2, _)] ⟨rfl, rfl, rfl, rfl, trivial⟩ ?_)
  all_goals (refine WC.seq ?_)
  all_goals (refine WC.sr ?_)
  all_goals (refine Go ?_)
  all_goals (refine WL.step (ok_nilCheck rfl) rfl rfl rfl ?_)
  all_goals (refine Go ?_)
  all_goals (refine WL.step (ok_load (fun w => Tryz.isAgg108 w) rfl (by first | assumption | exact cell_blk (by assumption) rfl)) rfl rfl rfl ?_)
  all_goals (refine Go ?_)
  all_goals (refine WC.sub [(0, _), (1, _), (2, _), (8, _), (17, _)] ⟨rfl, rfl, rfl, rfl, rfl, trivial⟩ ?_)
  all_goals (refine goC 1 2 ?_ ?_ <;> first | exact ⟨⟩ | refine Hb.mk fun hb => ?_ | skip)
  all_goals (first | (fail_if_success refine goB 1 ?_) | (
  refine goB 1 ?_
  all_goals (refine WC.skip ?_)
  skip))
  all_goals (first | (fail_if_success refine goB 2 ?_) | (
  refine goB 2 ?_
  all_goals (refine WC.exit ?_)
  all_goals (repeat' (with_reducible first | refine thenP_x ?_ | refine blockP_miss rfl ?_ | refine blockP_hit ?_ | refine blockP_n ?_ | refine thenP_n ?_))
  all_goals (refine Br.out (i := 1000) ?_)
  skip))
  all_goals (refine Gn ?_)
  all_goals (first | (refine Br.keep ?_) | (refine WC.seq ?_))
  all_goals (first | (refine Br.keep ?_) | (refine WC.block ?_))
  all_goals (first | (refine Br.keep ?_) | (refine WC.sr ?_))
  all_goals (first
               | (refine Br.keep ?_)
               | (obtain ⟨bL, oL, hA, hbL, hat⟩ := Rd.at_ ho.rd (by omega)
                  obtain ⟨⟨ya, yb⟩, hy⟩ : ∃ y, L[k]? = some y := ⟨_, List.getElem?_eq_getElem (by omega)⟩
                  have hc : At h bL (oL + k * 2) [St ya, In yb] := At.elem njC_len hat hy))
  all_goals (first | (refine Br.keep ?_) | (refine WL.step (ok_move rfl) rfl rfl rfl ?_))
  all_goals (first | (refine Br.keep ?_) | (refine WL.step (ok_nilCheck rfl) rfl rfl rfl ?_))
  all_goals (refine Go ?_)
  all_goals (first | (refine Br.keep ?_) | (refine WL.step (ok_load (fun w => Tryz.isAgg108 w) rfl (by first | assumption | exact cell_blk (by assumption) rfl)) rfl rfl rfl ?_))
  all_goals (refine Go ?_)
  all_goals (first | (refine Br.keep ?_) | (refine WL.step (ok_idxAddrA Tryz.underlying108 (fun w => Tryz.sizeOf115 w) rfl rfl rfl (by omega) (by first | rfl | assumption)) rfl rfl rfl ?_))
  all_goals (refine Go ?_)
  all_goals (first | (refine Br.keep ?_) | (refine WL.step (ok_load (fun w => Tryz.isAgg9 w) rfl (by first | exact hc.get 0 rfl rfl | assumption | exact cell_blk (by assumption) rfl)) rfl rfl rfl ?_))
  all_goals (first | (refine Br.keep ?_) | (refine WL.step (ok_move rfl) rfl rfl rfl ?_))
  all_goals (first | (refine Br.keep ?_) | (refine WL.step (ok_eqlS rfl rfl) rfl rfl rfl ?_))
  all_goals (refine Gn ?_)
  all_goals (first | (refine Br.keep ?_) | (refine WC.sub [(0, _), (1, _), (2, _), (8, _), (29, _)] ⟨rfl, rfl, rfl, rfl, rfl, trivial⟩ ?_))
  all_goals (first | (refine Br.keep ?_) | (refine goC 3 4 ?_ ?_ <;> first | exact ⟨⟩ | refine Hb.mk fun hb => ?_ | skip))
  all_goals (first | (fail_if_success refine goB 3 ?_) | (
  refine goB 3 ?_
  all_goals (refine WC.sr ?_)
  all_goals (refine Go ?_)
  all_goals (refine WL.step (ok_nilCheck rfl) rfl rfl rfl ?_)
  all_goals (refine Go ?_)
  all_goals (refine WL.step (ok_load (fun w => Tryz.isAgg108 w) rfl (by first | assumption | exact cell_blk (by assumption) rfl)) rfl rfl rfl ?_)
  all_goals (refine Go ?_)
  all_goals (refine WL.step (ok_idxAddrA Tryz.underlying108 (fun w => Tryz.sizeOf115 w) rfl rfl rfl (by omega) (by first | rfl | assumption)) rfl rfl rfl ?_)
  all_goals (refine Go ?_)
  all_goals (refine WL.step (ok_load (fun w => Tryz.isAgg3 w) rfl (by first | exact hc.get 1 rfl rfl | assumption | exact cell_blk (by assumption) rfl)) rfl rfl rfl ?_)
  all_goals (refine Go ?_)
  all_goals (refine WC.sub [(0, _), (2, _), (8, _), (9, _)] ⟨rfl, rfl, rfl, rfl, trivial⟩ ?_)
  all_goals (refine WC.sr ?_)
  all_goals (obtain ⟨g, gs, rfl, hg, hgl, hset⟩ := row_set njC_len ho hy
             subst ya
             cases hA
             have hkl := (List.getElem?_eq_some_iff.1 hy).1)
  all_goals (refine WL.step (ok_move rfl) rfl rfl rfl ?_)
  all_goals (refine WL.step (ok_nilCheck rfl) rfl rfl rfl ?_)
  all_goals (refine Go ?_)
  all_goals (refine WL.step (ok_load (fun w => Tryz.isAgg108 w) rfl (by first | assumption | exact cell_blk (by assumption) rfl)) rfl rfl rfl ?_)
  all_goals (refine Go ?_)
  all_goals (refine WL.step (ok_idxAddrA Tryz.underlying108 (fun w => Tryz.sizeOf115 w) rfl rfl rfl (by omega) (by first | rfl | assumption)) rfl rfl rfl ?_)
  all_goals (refine Go ?_)
  all_goals (refine WL.stepR0 (okE_store (fun w => Tryz.sizeOf3 w) rfl rfl hg (by show 0 + k * 2 + 1 < gs.length; omega) rfl rfl) rfl rfl ?_
             rintro _ h6 ⟨hb6, hx6⟩)
  all_goals (have ho6 := hset (j := 1) (q' := (n, id)) (by decide) rfl (by simpa using hb6)
             have hb66 := hx6.obj hB0 (fun e => hne (by rw [e]; rfl)))
  all_goals (refine Gn ?_)
  all_goals (refine WC.sub [(9, _)] ⟨rfl, trivial⟩ ?_)
  all_goals (refine WC.sr ?_)
  all_goals (refine Go ?_)
  all_goals (refine WC.ret ?_)
  all_goals (repeat' (with_reducible first | refine thenP_r ?_ | refine blockP_r ?_))
  all_goals (refine retP_2 _ _ ⟨rfl, rfl, trivial⟩ ?_)
  all_goals (first
              | exact .inl ⟨yb, getL_hit hri hy, rfl, ⟨hb66, by rw [setL_in hri hy, List.length_set]; exact ho6⟩, hx6.mono fun q _ e => by rw [e]; rfl⟩
              | exact .inr (.inl ⟨hgn, by omega, rfl, rfl⟩)
              | exact .inr (.inr ⟨hgn, by omega, rfl, _, ⟨hb22, by rw [hout, hlen, List.flatMap_append, List.flatMap_cons, ← List.append_assoc]; exact ho22⟩, hX22, fun q hq => hf19 q hq⟩))
  skip))
  all_goals (first | (fail_if_success refine goB 4 ?_) | (
  refine goB 4 ?_
  all_goals (refine WC.skip ?_)
  skip))
  all_goals (refine Gn ?_)
  all_goals (first | (refine Br.keep ?_) | (refine WC.region ?_))
  all_goals (refine Go ?_)
  all_goals (first | (refine Br.keep ?_) | (exact ⟨k + 1, ⟨rfl, rfl, rfl, rfl, trivial⟩, (by exact ⟨rfl, by omega, take_ne hn hy (by assumption)⟩), (by omega)⟩))
  all_goals (try (refine Br.mk (i := 1000) ?_))
  all_goals (refine Gn ?_)
  all_goals (refine WC.seq ?_)
  all_goals (refine WC.seq ?_)
  all_goals (have hgn := getL_out hn (by omega))
  all_goals (refine WC.drawE fol (by kernel_rfl) ?_)
  all_goals (refine WQ.stepE (ok_move rfl) rfl rfl rfl ?_)
  all_goals (refine WQ.stepE (ok_nilCheck rfl) rfl rfl rfl ?_)
  all_goals (refine WQ.stepE (ok_fieldAddr rfl Tryz.underlying110 rfl (fun w => Tryz.sizeOf108 w)) rfl rfl rfl ?_)
  all_goals (refine WQ.stepE (ok_load (fun w => Tryz.isAgg108 w) rfl (by first | assumption | exact cell_blk (by assumption) rfl)) rfl rfl rfl ?_)
  all_goals (refine WQ.stepE (ok_lenL rfl Tryz.underlying108 rfl) rfl rfl rfl ?_)
  all_goals (refine WQ.stepE (ok_move rfl) rfl rfl rfl ?_)
  all_goals (refine WQ.stepE (ok_nilCheck rfl) rfl rfl rfl ?_)
  all_goals (refine WQ.stepE (ok_fieldAddr rfl Tryz.underlying110 rfl (fun w => Tryz.sizeOf3 w)) rfl rfl rfl ?_)
  all_goals (refine WQ.stepE (ok_load (fun w => Tryz.isAgg3 w) rfl (by first | assumption | exact cell_blk (by assumption) rfl)) rfl rfl rfl ?_)
  all_goals (first | (refine WQ.stepE (OkP.bool_t (by omega) (ok_geq rfl rfl)) rfl rfl rfl ?_) | (refine WQ.stepE (OkP.bool_f (by omega) (ok_geq rfl rfl)) rfl rfl rfl ?_) | (refine WQ.stepE (ok_geq rfl rfl) rfl rfl rfl ?_))
  all_goals (refine WQ.nil ?_)
  all_goals (refine Gn ?_)
  all_goals (refine WC.sub [(0, _), (1, _), (2, _), (56, _)] ⟨rfl, rfl, rfl, rfl, trivial⟩ ?_)
  all_goals (refine goC 5 6 ?_ ?_ <;> first | exact ⟨⟩ | refine Hb.mk fun hb => ?_ | skip)
  all_goals (first | (fail_if_success refine goB 5 ?_) | (
  refine goB 5 ?_
  all_goals (refine WC.sr ?_)
  all_goals (refine Go ?_)
  all_goals (refine WC.sub [(6, _), (7, _)] ⟨rfl, rfl, trivial⟩ ?_)
  all_goals (refine WC.ret ?_)
  all_goals (repeat' (with_reducible first | refine thenP_r ?_ | refine blockP_r ?_))
  all_goals (refine retP_2 _ _ ⟨rfl, rfl, trivial⟩ ?_)
  all_goals (first
              | exact .inl ⟨yb, getL_hit hri hy, rfl, ⟨hb66, by rw [setL_in hri hy, List.length_set]; exact ho6⟩, hx6.mono fun q _ e => by rw [e]; rfl⟩
              | exact .inr (.inl ⟨hgn, by omega, rfl, rfl⟩)
              | exact .inr (.inr ⟨hgn, by omega, rfl, _, ⟨hb22, by rw [hout, hlen, List.flatMap_append, List.flatMap_cons, ← List.append_assoc]; exact ho22⟩, hX22, fun q hq => hf19 q hq⟩))
  skip))
  all_goals (first | (fail_if_success refine goB 6 ?_) | (
  refine goB 6 ?_
  all_goals (refine WC.skip ?_)
  skip))
  all_goals (refine Gn ?_)
  all_goals (refine WC.sr ?_)
  all_goals (refine Go ?_)
  all_goals (refine WC.seq ?_)
  all_goals (refine WC.block ?_)
  -- loop 1: slots that turn [10], that stay [0, 1, 2]
  all_goals (refine WC.loopG (X := Nat) (fun x => ([(10, In (x : Int))] : Fr)) [(0, _), (1, _), (2, _)] (fun k h' => h' = h ∧ k ≤ L.length ∧ ∀ p ∈ L.take k, p.1 < n) (fun k => L.length - k) (0) ⟨rfl, rfl, rfl, rfl, trivial⟩ (by exact ⟨rfl, Nat.zero_le _, by simp⟩) ?_)
  all_goals (rintro j h9 ⟨hz, hj, hnj⟩
             subst h9
             have hcases : j = L.length ∨ ∃ yn yv, L[j]? = some (yn, yv) ∧ j < L.length := by rcases Nat.lt_or_ge j L.length with h1 | h1; exact .inr ⟨_, _, List.getElem?_eq_getElem h1, h1⟩; exact .inl (by omega)
             rcases hcases with hkl | ⟨yn, yv, hy, hkl⟩)
  all_goals (refine WC.sub [(10, _), (0, _), (1, _), (2, _)] ⟨rfl, rfl, rfl, rfl, trivial⟩ ?_)
  all_goals (refine WC.seq ?_)
  all_goals (refine WC.sr ?_)
  all_goals (first
              | (fail_if_success (have := hy))
              | (obtain ⟨bL, oL, hA, hbL, hat⟩ := Rd.at_ ho.rd (show 0 < L.length by omega); have hc : At h bL (oL + j * 2) [St yn, In yv] := At.elem njC_len hat hy))
  all_goals (refine WL.step (ok_move rfl) rfl rfl rfl ?_)
  all_goals (refine Go ?_)
  all_goals (refine WL.step (ok_nilCheck rfl) rfl rfl rfl ?_)
  all_goals (refine Go ?_)
  all_goals (refine WL.step (ok_load (fun w => Tryz.isAgg108 w) rfl (by first | assumption | exact cell_blk (by assumption) rfl)) rfl rfl rfl ?_)
  all_goals (refine Go ?_)
  all_goals (refine goP 64 ?_ ?_ <;> first | exact ⟨⟩ | refine Hb.mk fun hb => ?_ | skip)
  all_goals (refine Gg ?_)
  all_goals (first | (refine WL.pass rfl rfl rfl ?_) | (refine WL.step (ok_nilCheck rfl) rfl rfl rfl ?_))
  all_goals (refine Gg ?_)
  all_goals (first | (refine WL.pass rfl rfl rfl ?_) | (refine WL.step (ok_load (fun w => Tryz.isAgg108 w) rfl (by first | assumption | exact cell_blk (by assumption) rfl)) rfl rfl rfl ?_))
  all_goals (refine Gg ?_)
  all_goals (first | (refine WL.pass rfl rfl rfl ?_) | (refine WL.step (ok_idxAddrA Tryz.underlying108 (fun w => Tryz.sizeOf115 w) rfl rfl rfl (by omega) (by first | rfl | assumption)) rfl rfl rfl ?_))
  all_goals (refine Gg ?_)
  all_goals (first | (refine WL.pass rfl rfl rfl ?_) | (refine WL.step (ok_load (fun w => Tryz.isAgg9 w) rfl (by first | exact hc.get 0 rfl rfl | assumption | exact cell_blk (by assumption) rfl)) rfl rfl rfl ?_))
  all_goals (first | (refine WL.pass rfl rfl rfl ?_) | (refine WL.step (ok_move rfl) rfl rfl rfl ?_))
  all_goals (first | (refine WL.pass rfl rfl rfl ?_) | (refine WL.step (ok_lssS rfl rfl) rfl rfl rfl ?_))
  all_goals (try rw [bytesLess_lt])
  all_goals (refine Go ?_)
  all_goals (refine WC.sub [(0, _), (1, _), (2, _), (10, _), (75, _)] ⟨rfl, rfl, rfl, rfl, rfl, trivial⟩ ?_)
  all_goals (refine goC 7 8 ?_ ?_ <;> first | exact ⟨⟩ | refine Hb.mk fun hb => ?_ | skip)
  all_goals (first | (fail_if_success refine goB 7 ?_) | (
  refine goB 7 ?_
  all_goals (refine WC.skip ?_)
  skip))
  all_goals (first | (fail_if_success refine goB 8 ?_) | (
  refine goB 8 ?_
  all_goals (refine WC.exit ?_)
  all_goals (repeat' (with_reducible first | refine thenP_x ?_ | refine blockP_miss rfl ?_ | refine blockP_hit ?_ | refine blockP_n ?_ | refine thenP_n ?_))
  all_goals (refine Br.out (i := 1002) ?_)
  skip))
  all_goals (refine Gn ?_)
  all_goals (first | (refine Br.keep ?_) | (refine WC.block ?_))
  all_goals (first | (refine Br.keep ?_) | (refine WC.region ?_))
  all_goals (refine Go ?_)
  all_goals (first | (refine Br.keep ?_) | (exact ⟨j + 1, ⟨rfl, rfl, rfl, rfl, trivial⟩, (by exact ⟨rfl, by omega, take_lt hnj hy (by assumption)⟩), (by omega)⟩))
  all_goals (try (refine Br.mk (i := 1002) ?_))
  all_goals (refine Gn ?_)
  all_goals (refine WC.seq ?_)
  all_goals (have hout := setL_out (v := id) hj hnj (by first | (intro p hp; rw [List.getElem?_eq_none (by omega)] at hp; cases hp) | (intro p hp; rw [hy] at hp; obtain rfl := Option.some.inj hp; assumption)) (getL_no hgn)
             have hrt := ho.rd.take hj
             have hrd := ho.rd.drop hj
             rw [fl_take njC_len] at hrt
             rw [fl_drop njC_len] at hrd)
  all_goals (refine WC.drawH (fun h' => Ext No h h') 20 23 rfl fol ?_)
  all_goals (refine WH.tk 0 rfl (fun hq hC => ok_move rfl) rfl rfl rfl ?_ (hC := (by first | exact Ext.refl _ _ | assumption | exact hX19)))
  all_goals (refine WH.tk 1 rfl (fun hq hC => ok_move rfl) rfl rfl rfl ?_ (hC := (by first | exact Ext.refl _ _ | assumption | exact hX19)))
  all_goals (refine WH.tk 2 rfl (fun hq hC => ok_nilCheck rfl) rfl rfl rfl ?_ (hC := (by first | exact Ext.refl _ _ | assumption | exact hX19)))
  all_goals (refine WH.tk 3 rfl (fun hq hC => ok_fieldAddr rfl Tryz.underlying110 rfl (fun w => Tryz.sizeOf108 w)) rfl rfl rfl ?_ (hC := (by first | exact Ext.refl _ _ | assumption | exact hX19)))
  all_goals (refine WH.tk 4 rfl (fun hq hC => ok_load (fun w => Tryz.isAgg108 w) rfl (by first | exact hC.cell (by first | assumption | assumption | exact cell_blk (by assumption) rfl) nos)) rfl rfl rfl ?_ (hC := (by first | exact Ext.refl _ _ | assumption | exact hX19)))
  all_goals (refine WH.tk 5 rfl (fun hq hC => ok_move rfl) rfl rfl rfl ?_ (hC := (by first | exact Ext.refl _ _ | assumption | exact hX19)))
  all_goals (first | (refine WH.tk 6 rfl (fun hq hC => ok_slice_hN Tryz.underlying108 (fun w => Tryz.sizeOf115 w) rfl rfl (by omega)) rfl rfl rfl ?_ (hC := (by first | exact Ext.refl _ _ | assumption | exact hX19))) | (refine WH.tk 6 rfl (fun hq hC => ok_slice_h Tryz.underlying108 (fun w => Tryz.sizeOf115 w) rfl rfl (by omega)) rfl rfl rfl ?_ (hC := (by first | exact Ext.refl _ _ | assumption | exact hX19))))
  all_goals (refine WH.tk 8 rfl (fun hq hC => ok_move rfl) rfl rfl rfl ?_ (hC := (by first | exact Ext.refl _ _ | assumption | exact hX19)))
  all_goals (refine WH.tk 9 rfl (fun hq hC => ok_move rfl) rfl rfl rfl ?_ (hC := (by first | exact Ext.refl _ _ | assumption | exact hX19)))
  all_goals (refine WH.tk 10 rfl (fun hq hC => ok_buildF (vs := [_, _]) (cs := [_, _]) (fun | [a0, a1] => [a0, a1] | _ => []) rfl rfl (by kernel_rfl)) rfl rfl rfl ?_ (hC := (by first | exact Ext.refl _ _ | assumption | exact hX19)))
  all_goals (refine WH.tk 13 rfl (fun hq hC => ok_move rfl) rfl rfl rfl ?_ (hC := (by first | exact Ext.refl _ _ | assumption | exact hX19)))
  all_goals (refine WH.tk 14 rfl (fun hq hC => ok_nilCheck rfl) rfl rfl rfl ?_ (hC := (by first | exact Ext.refl _ _ | assumption | exact hX19)))
  all_goals (refine WH.tk 15 rfl (fun hq hC => ok_fieldAddr rfl Tryz.underlying110 rfl (fun w => Tryz.sizeOf108 w)) rfl rfl rfl ?_ (hC := (by first | exact Ext.refl _ _ | assumption | exact hX19)))
  all_goals (refine WH.tk 16 rfl (fun hq hC => ok_load (fun w => Tryz.isAgg108 w) rfl (by first | exact hC.cell (by first | assumption | assumption | exact cell_blk (by assumption) rfl) nos)) rfl rfl rfl ?_ (hC := (by first | exact Ext.refl _ _ | assumption | exact hX19)))
  all_goals (refine WH.tk 17 rfl (fun hq hC => ok_move rfl) rfl rfl rfl ?_ (hC := (by first | exact Ext.refl _ _ | assumption | exact hX19)))
  all_goals (first | (refine WH.tk 18 rfl (fun hq hC => ok_slice_lN Tryz.underlying108 (fun w => Tryz.sizeOf115 w) rfl rfl (by omega)) rfl rfl rfl ?_ (hC := (by first | exact Ext.refl _ _ | assumption | exact hX19))) | (refine WH.tk 18 rfl (fun hq hC => ok_slice_lS Tryz.underlying108 (fun w => Tryz.sizeOf115 w) rfl rfl (by omega)) rfl rfl rfl ?_ (hC := (by first | exact Ext.refl _ _ | assumption | exact hX19))) | (refine WH.tk 18 rfl (fun hq hC => ok_slice_l Tryz.underlying108 (fun w => Tryz.sizeOf115 w) rfl rfl (by omega)) rfl rfl rfl ?_ (hC := (by first | exact Ext.refl _ _ | assumption | exact hX19))))
  all_goals (refine WH.two 7 11 (by kernel_rfl) (Br.out (i := 5003) ?_) (Br.out (i := 5004) ?_))
  all_goals (first | (fail_if_success refine goB 5003 ?_) | (
  refine goB 5003 ?_
  all_goals (refine Comes1.run rfl (ok_append (sz := 2) (bytes := 24) rfl Tryz.underlying108 (show Tryz.prog.info? 115 = some Tryz.t115 by kernel_rfl) rfl rfl rfl rfl (by decide) rfl rfl (Own.nil _ _ _) (hrt.ext0 (by first | exact Ext.refl _ _ | exact hx11)) njs_one (by simp only [maxLen]; omega) (by omega)) rfl rfl rfl ?_ (fun _ => by kernel_rfl)
             rintro v7 h7 ⟨ho7, hx7, hl7⟩)
  all_goals (refine ⟨fun _ => (by first | exact hx7.mono (fun _ _ e => by cases e) | exact hx11.trans (hx7.mono fun _ _ e => by cases e)), ?_⟩)
  all_goals (have hx7' := hx7.mono (S' := No) (fun _ _ e => by cases e))
  all_goals (refine WH.one 11 (by kernel_rfl) ?_)
  all_goals (refine Comes1.run rfl (okE_buildSlice (vs := [_]) (cs := [_, _]) (fun | [.agg ⟨[a0, a1]⟩] => [a0, a1] | _ => []) Tryz.underlying108 rfl rfl (by kernel_rfl)) rfl rfl rfl ?_ (fun _ => by kernel_rfl)
             rintro _ h11 ⟨b11, rfl, hg11, hb11, hx11⟩)
  all_goals (refine ⟨fun _ => (by first | exact hx11 | exact hx7'.trans hx11), ?_⟩)
  all_goals (refine WH.one 12 (by kernel_rfl) ?_)
  all_goals (first
              | (have hO := ho7.ext hx11 (fun _ _ => nos); have hB := hb11; have hX := hx7'.trans hx11; have hf7 : ∀ q, v7.ownBlock = some q → h.size ≤ q := fresh_of hl7 (by simp [Value.ownBlock]) (Nat.le_refl _))
              | (have hO := ho7; have hB := hx7'.obj hb11 nos; have hX := hx11.trans hx7'; have hf7 : ∀ q, v7.ownBlock = some q → h.size ≤ q := fresh_of hl7 (by simp [Value.ownBlock]) hx11.size)
             simp only [List.nil_append, Nat.zero_add] at hO)
  all_goals (refine Comes1.run rfl (ok_append (sz := 2) (bytes := 24) rfl Tryz.underlying108 (show Tryz.prog.info? 115 = some Tryz.t115 by kernel_rfl) rfl rfl rfl rfl (by decide) rfl rfl hO (rd_blk hB rfl) (by simp [Value.oneCell']) (by simp only [maxLen]; omega) (by omega)) rfl rfl rfl ?_ (fun _ => by kernel_rfl)
             rintro v12 h12 ⟨ho12, hx12, hl12⟩)
  all_goals (refine ⟨fun _ => hX.trans' hx12 (fun q hq e => by have := hf7 q e; omega), ?_⟩)
  all_goals (have hX12 := hX.trans' hx12 (fun q hq e => by have := hf7 q e; omega)
             have hf12 : ∀ q, v12.ownBlock = some q → h.size ≤ q := fresh_of hl12 hf7 hX.size)
  all_goals (refine WH.one 19 (by kernel_rfl) ?_)
  all_goals (refine Comes1.run rfl (ok_append (sz := 2) (bytes := 24) rfl Tryz.underlying108 (show Tryz.prog.info? 115 = some Tryz.t115 by kernel_rfl) rfl rfl rfl rfl (by decide) rfl rfl ho12 (hrd.ext0 hX12) njs_one (by simp only [maxLen]; omega) (by omega)) rfl rfl rfl ?_ (fun _ => by kernel_rfl)
             rintro v19 h19 ⟨ho19, hx19, hl19⟩)
  all_goals (refine ⟨fun _ => hX12.trans' hx19 (fun q hq e => by have := hf12 q e; omega), ?_⟩)
  all_goals (have hX19 := hX12.trans' hx19 (fun q hq e => by have := hf12 q e; omega)
             have hf19 : ∀ q, v19.ownBlock = some q → h.size ≤ q := fresh_of hl19 hf12 hX12.size
             have hb19 := hX19.obj hB0 nos
             obtain ⟨A19, c19, rfl, _⟩ := ho19.slice)
  all_goals (refine WH.one 20 (by kernel_rfl) ?_)
  all_goals (refine Comes1.run rfl (OkP.r (ok_nilCheck rfl)) rfl rfl rfl ?_ (fun _ => by kernel_rfl)
             rintro _ hz ⟨rfl, _⟩
             subst hz)
  all_goals (refine ⟨fun e => (by cases e), ?_⟩)
  all_goals (refine WH.one 21 (by kernel_rfl) ?_)
  all_goals (refine Comes1.run rfl (OkP.r (ok_fieldAddr rfl Tryz.underlying110 rfl (fun w => Tryz.sizeOf108 w))) rfl rfl rfl ?_ (fun _ => by kernel_rfl)
             rintro _ hz ⟨rfl, _⟩
             subst hz)
  all_goals (refine ⟨fun e => (by cases e), ?_⟩)
  all_goals (refine WH.one 22 (by kernel_rfl) ?_)
  all_goals (refine Comes1.run0 rfl (okE_store (fun w => Tryz.sizeOf108 w) rfl rfl hb19 (Nat.le_of_ble_eq_true rfl) rfl rfl) rfl rfl ?_ (fun _ => by kernel_rfl)
             rintro _ h22 ⟨hb22, hx22⟩)
  all_goals (refine ⟨fun e => (by cases e), ?_⟩)
  all_goals (have hX22 : Ext (fun q => q = b) h h22 := (hX19.mono fun _ _ e => e.elim).trans hx22
             have ho22 := ho19.ext hx22 (fun q hq e => by rw [e] at hq; have := hf19 _ hq; omega)
             have hlen : (L.take j ++ (n, id) :: L.drop j).length = j + 1 + (L.length - j) := by simp; omega)
  all_goals (refine WH.done (by kernel_rfl) ?_)
  skip))
  all_goals (first | (fail_if_success refine goB 5004 ?_) | (
  refine goB 5004 ?_
  all_goals (refine Comes1.run rfl (okE_buildSlice (vs := [_]) (cs := [_, _]) (fun | [.agg ⟨[a0, a1]⟩] => [a0, a1] | _ => []) Tryz.underlying108 rfl rfl (by kernel_rfl)) rfl rfl rfl ?_ (fun _ => by kernel_rfl)
             rintro _ h11 ⟨b11, rfl, hg11, hb11, hx11⟩)
  all_goals (refine ⟨fun _ => (by first | exact hx11 | exact hx7'.trans hx11), ?_⟩)
  all_goals (refine WH.one 7 (by kernel_rfl) ?_)
  all_goals (refine Comes1.run rfl (ok_append (sz := 2) (bytes := 24) rfl Tryz.underlying108 (show Tryz.prog.info? 115 = some Tryz.t115 by kernel_rfl) rfl rfl rfl rfl (by decide) rfl rfl (Own.nil _ _ _) (hrt.ext0 (by first | exact Ext.refl _ _ | exact hx11)) njs_one (by simp only [maxLen]; omega) (by omega)) rfl rfl rfl ?_ (fun _ => by kernel_rfl)
             rintro v7 h7 ⟨ho7, hx7, hl7⟩)
  all_goals (refine ⟨fun _ => (by first | exact hx7.mono (fun _ _ e => by cases e) | exact hx11.trans (hx7.mono fun _ _ e => by cases e)), ?_⟩)
  all_goals (have hx7' := hx7.mono (S' := No) (fun _ _ e => by cases e))
  all_goals (refine WH.one 12 (by kernel_rfl) ?_)
  all_goals (first
              | (have hO := ho7.ext hx11 (fun _ _ => nos); have hB := hb11; have hX := hx7'.trans hx11; have hf7 : ∀ q, v7.ownBlock = some q → h.size ≤ q := fresh_of hl7 (by simp [Value.ownBlock]) (Nat.le_refl _))
              | (have hO := ho7; have hB := hx7'.obj hb11 nos; have hX := hx11.trans hx7'; have hf7 : ∀ q, v7.ownBlock = some q → h.size ≤ q := fresh_of hl7 (by simp [Value.ownBlock]) hx11.size)
             simp only [List.nil_append, Nat.zero_add] at hO)
  all_goals (refine Comes1.run rfl (ok_append (sz := 2) (bytes := 24) rfl Tryz.underlying108 (show Tryz.prog.info? 115 = some Tryz.t115 by kernel_rfl) rfl rfl rfl rfl (by decide) rfl rfl hO (rd_blk hB rfl) (by simp [Value.oneCell']) (by simp only [maxLen]; omega) (by omega)) rfl rfl rfl ?_ (fun _ => by kernel_rfl)
             rintro v12 h12 ⟨ho12, hx12, hl12⟩)
  all_goals (refine ⟨fun _ => hX.trans' hx12 (fun q hq e => by have := hf7 q e; omega), ?_⟩)
  all_goals (have hX12 := hX.trans' hx12 (fun q hq e => by have := hf7 q e; omega)
             have hf12 : ∀ q, v12.ownBlock = some q → h.size ≤ q := fresh_of hl12 hf7 hX.size)
  all_goals (refine WH.one 19 (by kernel_rfl) ?_)
  all_goals (refine Comes1.run rfl (ok_append (sz := 2) (bytes := 24) rfl Tryz.underlying108 (show Tryz.prog.info? 115 = some Tryz.t115 by kernel_rfl) rfl rfl rfl rfl (by decide) rfl rfl ho12 (hrd.ext0 hX12) njs_one (by simp only [maxLen]; omega) (by omega)) rfl rfl rfl ?_ (fun _ => by kernel_rfl)
             rintro v19 h19 ⟨ho19, hx19, hl19⟩)
  all_goals (refine ⟨fun _ => hX12.trans' hx19 (fun q hq e => by have := hf12 q e; omega), ?_⟩)
  all_goals (have hX19 := hX12.trans' hx19 (fun q hq e => by have := hf12 q e; omega)
             have hf19 : ∀ q, v19.ownBlock = some q → h.size ≤ q := fresh_of hl19 hf12 hX12.size
             have hb19 := hX19.obj hB0 nos
             obtain ⟨A19, c19, rfl, _⟩ := ho19.slice)
  all_goals (refine WH.one 20 (by kernel_rfl) ?_)
  all_goals (refine Comes1.run rfl (OkP.r (ok_nilCheck rfl)) rfl rfl rfl ?_ (fun _ => by kernel_rfl)
             rintro _ hz ⟨rfl, _⟩
             subst hz)
  all_goals (refine ⟨fun e => (by cases e), ?_⟩)
  all_goals (refine WH.one 21 (by kernel_rfl) ?_)
  all_goals (refine Comes1.run rfl (OkP.r (ok_fieldAddr rfl Tryz.underlying110 rfl (fun w => Tryz.sizeOf108 w))) rfl rfl rfl ?_ (fun _ => by kernel_rfl)
             rintro _ hz ⟨rfl, _⟩
             subst hz)
  all_goals (refine ⟨fun e => (by cases e), ?_⟩)
  all_goals (refine WH.one 22 (by kernel_rfl) ?_)
  all_goals (refine Comes1.run0 rfl (okE_store (fun w => Tryz.sizeOf108 w) rfl rfl hb19 (Nat.le_of_ble_eq_true rfl) rfl rfl) rfl rfl ?_ (fun _ => by kernel_rfl)
             rintro _ h22 ⟨hb22, hx22⟩)
  all_goals (refine ⟨fun e => (by cases e), ?_⟩)
  all_goals (have hX22 : Ext (fun q => q = b) h h22 := (hX19.mono fun _ _ e => e.elim).trans hx22
             have ho22 := ho19.ext hx22 (fun q hq e => by rw [e] at hq; have := hf19 _ hq; omega)
             have hlen : (L.take j ++ (n, id) :: L.drop j).length = j + 1 + (L.length - j) := by simp; omega)
  all_goals (refine WH.done (by kernel_rfl) ?_)
  skip))
  all_goals (refine Gn ?_)
  all_goals (refine WC.sub [] trivial ?_)
  all_goals (refine WC.sr ?_)
  all_goals (refine Go ?_)
  all_goals (refine WC.ret ?_)
  all_goals (repeat' (with_reducible first | refine thenP_r ?_ | refine blockP_r ?_))
  all_goals (refine retP_2 _ _ ⟨rfl, rfl, trivial⟩ ?_)
  all_goals (first
              | exact .inl ⟨yb, getL_hit hri hy, rfl, ⟨hb66, by rw [setL_in hri hy, List.length_set]; exact ho6⟩, hx6.mono fun q _ e => by rw [e]; rfl⟩
              | exact .inr (.inl ⟨hgn, by omega, rfl, rfl⟩)
              | exact .inr (.inr ⟨hgn, by omega, rfl, _, ⟨hb22, by rw [hout, hlen, List.flatMap_append, List.flatMap_cons, ← List.append_assoc]; exact ho22⟩, hX22, fun q hq => hf19 q hq⟩))
end
end Go.Proofs.YtggmocdbfbhklaaGreat


/-
  TABLE (layer 15): both tables, side by side.
-/
namespace Go.Proofs.YtggmocdbfbhklaaGreat
open Go Go.RK

abbrev NI := List UInt8 × Int
/-- Both tables. -/
structure T15 (h0 h : Heap) (b m bt : Nat) (v : Value) (most : Int) (L : List NI) : Prop where
  tb : ∃ E, Tb h b m most (encE In E) ∧ E.Perm L
  rf : Rf h bt v most L
  rise : Rise L
  ext : Ext No h0 h
  lo : h0.size ≤ b ∧ h0.size ≤ m ∧ h0.size ≤ bt ∧ ∀ q, v.ownBlock = some q → h0.size ≤ q
  le : (L.length : Int) ≤ most
  most : most ≤ 4096
/-- What a call may turn. -/
def M15 (m bt : Nat) (v : Value) (q : Nat) : Prop := q = m ∨ q = bt ∨ v.ownBlock = some q
section
variable {h0 h h1 : Heap} {b m bt : Nat} {v : Value} {most : Int} {L : List NI}
theorem own_kd {T : TypeId} {sz n q : Nat} {xs : List Value} (ho : Own h v T sz n xs) (hq : v.ownBlock = some q) : ∃ cur, h[q]? = some (.cells cur T (0, 0)) := by
  obtain ⟨_, ⟨e1, _⟩ | ⟨g, cap, cur, e1, hg, _⟩⟩ := ho
  · rw [e1] at hq; cases hq
  · rw [e1] at hq
    have : g = q := by simpa [Value.ownBlock] using hq
    exact ⟨cur, this ▸ hg⟩
theorem T15.not (d : T15 h0 h b m bt v most L) {g : Nat} {cs : Array Value} {T : TypeId} (hg : h[g]? = some (.cells cs T (0, 0))) (h1 : T ≠ 110) (h2 : T ≠ 115) : ¬ M15 m bt v g := by
  rintro (rfl | rfl | e)
  · obtain ⟨E, t, _⟩ := d.tb
    obtain ⟨_, _, e, _⟩ := t.map
    rw [hg] at e; cases e
  · have := d.rf.blk
    rw [hg] at this
    simp only [Option.some.injEq, Obj.cells.injEq] at this
    exact h1 this.2.1
  · obtain ⟨cur, e2⟩ := own_kd d.rf.own e
    rw [hg] at e2
    simp only [Option.some.injEq, Obj.cells.injEq] at e2
    exact h2 e2.2.1
theorem T15.sep (d : T15 h0 h b m bt v most L) : b ≠ m ∧ b ≠ bt ∧ m ≠ bt ∧ v.ownBlock ≠ some b ∧ v.ownBlock ≠ some m ∧ v.ownBlock ≠ some bt := by
  obtain ⟨E, t, _⟩ := d.tb
  have hn := d.not t.cells (by decide) (by decide)
  refine ⟨t.ne, fun e => hn (.inr (.inl e)), fun e => ?_, fun e => hn (.inr (.inr e)), fun e => ?_, d.rf.ne⟩
  · obtain ⟨_, _, e2, _⟩ := t.map
    rw [e, d.rf.blk] at e2; cases e2
  · obtain ⟨cur, e2⟩ := own_kd d.rf.own e
    obtain ⟨_, _, e3, _⟩ := t.map
    rw [e2] at e3; cases e3
theorem T15.stay {S : Nat → Prop} (d : T15 h0 h b m bt v most L) (e : Ext S h h1) (hS : ∀ k, k < h.size → ¬ S k) : T15 h0 h1 b m bt v most L := by
  obtain ⟨E, t, hp⟩ := d.tb
  have hb := lt_of_some t.cells
  have hm := t.map.lt
  have ht := lt_of_some d.rf.blk
  exact ⟨⟨E, t.ext e (hS _ hb) (hS _ hm), hp⟩, d.rf.ext e (hS _ ht) (fun q hq => by obtain ⟨_, e2⟩ := own_kd d.rf.own hq; exact hS _ (lt_of_some e2)), d.rise, d.ext.trans' e (fun k hk hs => absurd hs (hS k (Nat.lt_of_lt_of_le hk d.ext.size))), d.lo, d.le, d.most⟩
theorem T15.len (d : T15 h0 h b m bt v most L) : L.length ≤ 4096 := by have := d.le; have := d.most; omega
theorem tset_both (d : T15 h0 h b m bt v most L) (n : List UInt8) (id : Int) :
    CallsH Tryz.prog 23 ⟨[.pointer (some ⟨b, 0, none⟩), St n, In id]⟩ h fun u h1 => ∃ x e, u = .tuple ⟨[In x, In e]⟩ ∧ Ext (M15 m bt v) h h1 ∧
      CallsH Tryz.prog 24 ⟨[.pointer (some ⟨bt, 0, none⟩), St n, In id]⟩ h1 fun u h2 => u = .tuple ⟨[In x, In e]⟩ ∧ Ext (M15 m bt v) h1 h2 ∧ ∃ v' L', T15 h0 h2 b m bt v' most L' := by
  obtain ⟨E, t, hp⟩ := d.tb
  obtain ⟨s1, s2, s3, s4, s5, s6⟩ := d.sep
  have hlen := d.len
  have hlk : alook (encE In E) n = (getL L n).map In := by rw [alook_enc, getL_perm hp d.rise.nd]
  have hEl : (encE In E).length = L.length := by rw [enc_len, hp.length_eq]
  have hh0 := d.ext.size
  -- the code's table has turned
  have key : ∀ h1, Tb h1 b m most (aput (encE In E) n (In id)) → Ext (fun k => k = m) h h1 → ∀ x e, ((∃ u0, getL L n = some u0 ∧ x = u0 ∧ e = 0) ∨ (getL L n = none ∧ (L.length : Int) < most ∧ x = 0 ∧ e = 0)) →
      CallsH Tryz.prog 24 ⟨[.pointer (some ⟨bt, 0, none⟩), St n, In id]⟩ h1 fun u h2 => u = .tuple ⟨[In x, In e]⟩ ∧ Ext (M15 m bt v) h1 h2 ∧ ∃ v' L', T15 h0 h2 b m bt v' most L' := by
    intro h1 t1 x1 x e hc
    have r1 : Rf h1 bt v most L := d.rf.ext x1 (fun e => s3 e.symm) (fun q hq e => s5 (by rw [hq, e]))
    rw [aput_enc] at t1
    have hpp := put_perm hp d.rise n id
    have hsz := x1.size
    refine (set15 r1 d.rise (by omega) n id).mono fun u h2 hpost => ?_
    rcases hpost with ⟨u0, hg, rfl, r2, x2⟩ | ⟨hg, hle, rfl, rfl⟩ | ⟨hg, hlt, rfl, v', r2, x2, hf⟩
    · rcases hc with ⟨u1, hg1, rfl, rfl⟩ | ⟨hg1, _⟩
      · rw [hg] at hg1
        obtain rfl := Option.some.inj hg1
        refine ⟨rfl, x2.mono fun k _ e => .inr (.inr e), v, _, ⟨⟨_, t1.ext x2 s4 s5, hpp⟩, r2, d.rise.set _ _, (d.ext.trans' x1 (fun k hk e => by have := d.lo.2.1; omega)).trans' x2 (fun k hk e => by have := d.lo.2.2.2 k e; omega), d.lo, ?_, d.most⟩⟩
        rw [setL_len d.rise, hg]
        exact d.le
      · rw [hg] at hg1; cases hg1
    · rcases hc with ⟨u1, hg1, _⟩ | ⟨_, hlt, _⟩
      · rw [hg] at hg1; cases hg1
      · omega
    · rcases hc with ⟨u1, hg1, _⟩ | ⟨_, _, rfl, rfl⟩
      · rw [hg] at hg1; cases hg1
      · refine ⟨rfl, x2.mono fun k _ e => .inr (.inl e), v', _, ⟨⟨_, t1.ext x2 s2 s3, hpp⟩, r2, d.rise.set _ _, (d.ext.trans' x1 (fun k hk e => by have := d.lo.2.1; omega)).trans' x2 (fun k hk e => by have := d.lo.2.2.1; omega), ⟨d.lo.1, d.lo.2.1, d.lo.2.2.1, fun q hq => by have := hf q hq; omega⟩, ?_, d.most⟩⟩
        rw [setL_len d.rise, hg]
        simp
        omega
  rcases hg : getL L n with _ | u0
  · rw [hg] at hlk
    by_cases hlt : (L.length : Int) < most
    · refine (set_new_ t n (In id) hlk (by rw [hEl]; exact hlt)).mono fun u h1 ⟨hu, t1, x1⟩ => ⟨0, 0, hu, x1.mono fun k _ e => .inl e, key h1 t1 x1 0 0 (.inr ⟨hg, hlt, rfl, rfl⟩)⟩
    · refine (set_full t n (In id) hlk (by rw [hEl]; omega)).mono fun u h1 ⟨hu, e⟩ => ⟨0, 6, hu, e ▸ .refl _ _, ?_⟩
      subst e
      refine (set15 d.rf d.rise (by omega) n id).mono fun u h2 hpost => ?_
      rcases hpost with ⟨u0, hg2, _⟩ | ⟨_, _, rfl, rfl⟩ | ⟨_, hlt2, _⟩
      · rw [hg] at hg2; cases hg2
      · exact ⟨rfl, .refl _ _, v, L, d⟩
      · omega
  · rw [hg] at hlk
    refine (set_there t n (In id) hlk).mono fun u h1 ⟨hu, t1, x1⟩ => ⟨u0, 0, hu, x1.mono fun k _ e => .inl e, key h1 t1 x1 u0 0 (.inl ⟨u0, hg, rfl, rfl⟩)⟩
theorem tget_both (d : T15 h0 h b m bt v most L) (n : List UInt8) :
    CallsH Tryz.prog 54 ⟨[.pointer (some ⟨b, 0, none⟩), St n]⟩ h (fun u h1 => u = .tuple ⟨[In ((getL L n).getD 0), .bool (getL L n).isSome]⟩ ∧ h1 = h) ∧
      CallsH Tryz.prog 65 ⟨[.pointer (some ⟨bt, 0, none⟩), St n]⟩ h fun u h2 => u = .tuple ⟨[In ((getL L n).getD 0), .bool (getL L n).isSome]⟩ ∧ h2 = h := by
  obtain ⟨E, t, hp⟩ := d.tb
  have hlen := d.len
  have hlk : alook (encE In E) n = (getL L n).map In := by rw [alook_enc, getL_perm hp d.rise.nd]
  refine ⟨?_, get15 d.rf d.rise (by omega) n⟩
  rcases hg : getL L n with _ | u0
  · rw [hg] at hlk
    exact get_no t n hlk
  · rw [hg] at hlk
    exact get_yes t n hlk
end
end Go.Proofs.YtggmocdbfbhklaaGreat


