/-
  ARGUMENTS THAT CAME IN, READ AS PLAIN DATA; a law's contract, lifted into its row. No program is named here.
-/
import Derived.Test.YtkpgnhhidnkmcaaGreatDoorK7
import Derived.Below
import Derived.ProofKit
import Derived.OpenShut
import Derived.ShutString
import Derived.ChangeOld
import Derived.Deep.Slices
namespace Go.RK
open Go Go.ChangeShapes Go.WideShapes Go.ChangeAt Go.RowKit Go.Deep

theorem length_flat {α : Type} {sz : Nat} {F : α → List Value} (hl : ∀ a, (F a).length = sz) (l : List α) : (l.flatMap F).length = l.length * sz := by
  induction l with
  | nil => simp
  | cons a l ih => simp [ih, hl, Nat.add_mul, Nat.add_comm]


/-- Whatever reads at type t has cells of the form F a, with Q a. -/
def Opens (P : Program) (w : World) (t : TypeId) {α : Type} (F : α → List Value) (Q : α → Prop) : Prop :=
  ∀ (H : Type) (enc : TypeId × Value → H) (base : Nat) (spare : Nat → Bool) (held : Bool) (fuel : Nat) (cs : List Value) (x : DataW H × List MemPlace), DataW.trod enc P w base spare held fuel t cs = some x → (∀ n ∈ x.1.weights P t, n ≤ reachBytes) → ∃ a, cs = F a ∧ Q a
section
variable {P : Program} {w : World} {t : TypeId}
theorem Opens.map {α β : Type} {F : α → List Value} {Q : α → Prop} (o : Opens P w t F Q) (g : α → β) {F' : β → List Value} {Q' : β → Prop} (hF : ∀ a, F a = F' (g a)) (hQ : ∀ a, Q a → Q' (g a)) : Opens P w t F' Q' := by
  intro H enc base spare held fuel cs x h hz
  obtain ⟨a, rfl, q⟩ := o H enc base spare held fuel cs x h hz
  exact ⟨g a, hF a, hQ a q⟩
theorem opens_int {k : IntKind} (ht : P.underlying t = some (.int k)) : Opens P w t (fun n : Int => [.int k n]) (fun n => (Lit.int k n).wf = true) := by
  intro H enc base spare held fuel cs x h _
  obtain ⟨n, h1, _, h2⟩ := DataW.trod_int ht h
  exact ⟨n, h1, h2⟩
theorem opens_bool (ht : P.underlying t = some .bool) : Opens P w t (fun b : Bool => [.bool b]) (fun _ => True) := by
  intro H enc base spare held fuel cs x h _
  obtain ⟨b, h1, _⟩ := DataW.trod_bool ht h
  exact ⟨b, h1, trivial⟩
theorem opens_string (ht : P.underlying t = some .string) : Opens P w t (fun l : List UInt8 => [St l]) (fun l => l.length ≤ reachBytes) := by
  intro H enc base spare held fuel cs x h hz
  obtain ⟨s, h1, rfl, h2⟩ := DataW.trod_string ht h
  exact ⟨s.data.toList, h1, hz _ (by simp [DataW.weights])⟩
/-- Fields, one behind the other from cell o on. -/
def OpensF (P : Program) (w : World) (o : Nat) (fs : List Field) {α : Type} (F : α → List Value) (Q : α → Prop) : Prop :=
  ∀ (H : Type) (enc : TypeId × Value → H) (base : Nat) (spare : Nat → Bool) (held : Bool) (n : Nat) (cs : List Value),
    (∀ f ∈ fs, ∃ x, DataW.trod enc P w base spare held n f.type ((cs.drop f.offset).take (P.cellsOf f.type)) = some x ∧ ∀ n ∈ x.1.weights P f.type, n ≤ reachBytes) → ∃ a, (cs.drop o).take (F a).length = F a ∧ (F a).length = (fs.map fun f => P.cellsOf f.type).sum ∧ Q a
theorem opensF_nil {o : Nat} : OpensF P w o [] (fun _ : Unit => []) (fun _ => True) := fun _ _ _ _ _ _ _ _ => ⟨(), by simp, by simp, trivial⟩
theorem opensF_cons {α β : Type} {o : Nat} {f : Field} {fs : List Field} {F : α → List Value} {Q : α → Prop} {G : β → List Value} {R : β → Prop} {sz : Nat} (ho : f.offset = o) (h1 : Opens P w f.type F Q) (hc : P.cellsOf f.type = sz) (hl : ∀ a, (F a).length = sz) (h2 : OpensF P w (o + sz) fs G R) :
    OpensF P w o (f :: fs) (fun p : α × β => F p.1 ++ G p.2) (fun p => Q p.1 ∧ R p.2) := by
  intro H enc base spare held n cs h
  obtain ⟨x, hx, hz⟩ := h f (by simp)
  obtain ⟨a, ha, qa⟩ := h1 H enc base spare held n _ _ hx hz
  obtain ⟨b, hb, hbl, qb⟩ := h2 H enc base spare held n cs fun g hg => h g (by simp [hg])
  refine ⟨(a, b), ?_, ?_, qa, qb⟩
  · rw [ho, hc] at ha
    simp only [List.length_append]
    rw [List.take_add, hl, ha, List.drop_drop, hb]
  · simp [hl, hc, hbl]
theorem opens_struct {α : Type} {fs : List Field} {F : α → List Value} {Q : α → Prop} (ht : P.underlying t = some (.struct ⟨fs⟩)) (hc : P.cellsOf t = (fs.map fun f => P.cellsOf f.type).sum) (hf : OpensF P w 0 fs F Q) : Opens P w t F Q := by
  intro H enc base spare held fuel cs x h hz
  obtain ⟨xs, n, _, rfl, hl, hxl, hi⟩ := DataW.trod_struct ht h
  obtain ⟨a, ha, hal, q⟩ := hf H enc base spare held n cs fun f hm => by
    obtain ⟨i, hi', e⟩ := List.mem_iff_getElem.1 hm
    have h1 := hi i f (by simp [← e, hi'])
    have h2 : i < xs.length := by rw [hxl]; simpa using hi'
    rw [List.getElem?_eq_getElem h2] at h1
    refine ⟨_, h1, fun m hm => hz m ?_⟩
    simp only [DataW.weights, ht]
    exact DataW.weights_mem_each (j := i) (by simp [List.getElem?_eq_getElem hi', e]) (by simp [List.getElem?_eq_getElem h2]) m hm
  refine ⟨a, ?_, q⟩
  rw [← ha, List.drop_zero, List.take_of_length_le (by omega)]
theorem weightsAll_mem {H : Type} {P : Program} {e : TypeId} : ∀ {l : List (DataW H)} {d : DataW H}, d ∈ l → ∀ n ∈ d.weights P e, n ∈ DataW.weightsAll P e l
  | c :: l, d, hd, n, hn => by
    simp only [DataW.weightsAll, List.mem_append]
    rcases List.mem_cons.1 hd with rfl | hd
    · exact .inl hn
    · exact .inr (weightsAll_mem hd n hn)
theorem cell_spot {h : Heap} {a : Addr} {v : Value} (hc : cell h a = some v) : a.spot = Option.none := by
  unfold cell at hc
  split at hc
  · split at hc
    · cases hc
    · rename_i h1; simpa using h1
  · cases hc
theorem opens_slice {α : Type} {e : TypeId} {F : α → List Value} {Q : α → Prop} {sz : Nat} (ht : P.underlying t = some (.slice e)) (hc : P.cellsOf e = sz) (hp : 0 < sz) (hl : ∀ a, (F a).length = sz) (h1 : Opens P w e F Q) :
    Opens P w t (fun p : Value × List α => [p.1]) (fun p => Rd w.heap p.1 sz p.2.length (p.2.flatMap F) ∧ p.2.length ≤ maxLen ∧ (∃ A c, p.1 = .slice A p.2.length c ∧ c ≤ maxLen) ∧ (∀ a ∈ p.2, Q a) ∧ p.2.length * P.bytesOf e ≤ reachBytes) := by
  intro H enc base spare held fuel cs x h hz
  rcases open_slice ht h with ⟨rfl, _⟩ | ⟨a, len, cap, m, n, D, Pl, rfl, hb, hle, hm, hme, rfl, hi⟩
  · exact ⟨(.slice Option.none 0 0, []), rfl, Rd.nil _ _, by simp [maxLen], ⟨_, _, rfl, by simp [maxLen]⟩, by simp, by simp⟩
  · rw [hc] at hi
    have hml : len ≤ m := by rw [hme]; split <;> omega
    have key : ∀ k, k ≤ len → ∃ l : List α, l.length = k ∧ (∀ a ∈ l, Q a) ∧ ∀ (j : Nat) (v : Value), (l.flatMap F)[j]? = some v → w.cell? (a.add j) = some v := by
      intro k
      induction k with
      | zero => intro _; exact ⟨[], rfl, by simp, by simp⟩
      | succ k ih =>
        intro hk
        obtain ⟨l, hll, hq, hj⟩ := ih (by omega)
        obtain ⟨cs', hcs, htr⟩ := hi k (by omega)
        obtain ⟨b, rfl, qb⟩ := h1 H enc base spare held n _ _ htr fun m hm => hz m (by
          simp only [DataW.weights, ht, List.mem_cons, List.mem_append]
          exact .inr (.inl (weightsAll_mem (List.mem_map.2 ⟨k, List.mem_range.2 (by omega), rfl⟩) m hm)))
        obtain ⟨_, hcl, hcell⟩ := World.cells?_some hcs
        have hfl : (l.flatMap F).length = k * sz := by rw [← hll]; exact length_flat hl l
        refine ⟨l ++ [b], by simp [hll], ?_, ?_⟩
        · intro c hcm
          rcases List.mem_append.1 hcm with hcm | hcm
          · exact hq c hcm
          · simp at hcm; subst hcm; exact qb
        · intro j v hv
          simp only [List.flatMap_append, List.flatMap_cons, List.flatMap_nil, List.append_nil] at hv
          by_cases hjl : j < (l.flatMap F).length
          · rw [List.getElem?_append_left hjl] at hv
            exact hj j v hv
          · rw [List.getElem?_append_right (by omega)] at hv
            have hlt := (List.getElem?_eq_some_iff.1 hv).1
            have h2 := hcell (j - (l.flatMap F).length) (by rw [← hl b]; exact hlt)
            rw [hv] at h2
            rw [← h2, Go.Deep.add_add]
            congr 2
            omega
    obtain ⟨l, hll, hq, hj⟩ := key len (Nat.le_refl _)
    refine ⟨(.slice (some a) len cap, l), rfl, ⟨some a, cap, by rw [hll], by show l.length ≤ cap; omega, ?_, fun hn => ?_⟩, by show l.length ≤ _; omega, ⟨_, _, by rw [hll], hm⟩, hq, by
      have := hz _ (by simp only [DataW.weights, ht]; exact List.mem_cons_self)
      refine Nat.le_trans (Nat.mul_le_mul_right _ ?_) this
      simp [hll]⟩
    · exact length_flat hl l
    · have h0 : 0 < (l.flatMap F).length := by
        cases l with
        | nil => simp at hn
        | cons a l => simp [hl]; omega
      have hc0 := hj 0 _ (List.getElem?_eq_getElem h0)
      rw [Addr.add_zero'] at hc0
      obtain ⟨b, o, spot⟩ := a
      have hs : spot = Option.none := cell_spot hc0
      subst hs
      refine ⟨b, o, rfl, cell_lt hc0, fun j v hv => ?_⟩
      have := hj j v hv
      rw [Addr.add_lit] at this
      exact this
end

theorem At.elem {α : Type} {h : Heap} {b o sz : Nat} {F : α → List Value} (hl : ∀ a, (F a).length = sz) {xs : List α} (ha : At h b o (xs.flatMap F)) {k : Nat} {x : α} (hk : xs[k]? = some x) : At h b (o + k * sz) (F x) := by
  intro j v hv
  have hlt := (List.getElem?_eq_some_iff.1 hv).1
  rw [hl] at hlt
  have key : ∀ (xs : List α) (k : Nat), xs[k]? = some x → (xs.flatMap F)[k * sz + j]? = some v := by
    intro xs
    induction xs with
    | nil => intro k hk; simp at hk
    | cons y ys ih =>
      intro k hk
      cases k with
      | zero =>
        simp only [List.getElem?_cons_zero, Option.some.injEq] at hk
        subst hk
        simp only [List.flatMap_cons, Nat.zero_mul, Nat.zero_add]
        rw [List.getElem?_append_left (by rw [hl]; exact hlt)]
        exact hv
      | succ k =>
        simp only [List.getElem?_cons_succ] at hk
        simp only [List.flatMap_cons]
        rw [List.getElem?_append_right (by rw [hl, Nat.add_mul]; omega), hl]
        have : (k + 1) * sz + j - sz = k * sz + j := by rw [Nat.add_mul]; omega
        rw [this]
        exact ih k hk
  have := ha (k * sz + j) v (key xs k hk)
  rwa [← Nat.add_assoc] at this
theorem law_calls {P : Program} {k : FuncId} {args : List Value} {w : World} (hc : CallsH P k ⟨args⟩ w.heap (fun u h' => u = .bool true ∧ Ext No w.heap h')) :
    Calls P k ⟨args⟩ w fun e w' => e = .returned (.bool true) ∧ Below w.heap.size w w' :=
  (hc w rfl).mono fun _ _ ⟨hs, v, he, hv, hx⟩ => ⟨by rw [he, hv], ⟨hs.os, hs.tape, hs.output, hx.size, fun b hb => hx.keep b hb id⟩⟩
end Go.RK
