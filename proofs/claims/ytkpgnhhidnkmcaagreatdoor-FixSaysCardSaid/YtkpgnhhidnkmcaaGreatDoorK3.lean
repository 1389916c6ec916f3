/-
  HEAPS: WHAT IS READ, WRITTEN AND MADE, AND THE RULES OF THE OPERATIONS THAT DO IT. No program is named here.
-/
import Derived.Test.YtkpgnhhidnkmcaaGreatDoorK2
import Derived.Maps.AppendAt
import Derived.Laws.Tables
import Derived.Laws.Rows
import Derived.Laws.CopyRow
namespace Go.RK
open Go

def cell (h : Heap) (a : Addr) : Option Value :=
  match h[a.block]? with
  | some (.cells c _ _) => if a.spot.isSome then Option.none else c[a.off]?
  | _ => Option.none
theorem cell_eq (w : World) (a : Addr) : w.cell? a = cell w.heap a := rfl
/-- From cell o of block b on lie the values vs. -/
def At (h : Heap) (b o : Nat) (vs : List Value) : Prop := ∀ (j : Nat) (v : Value), vs[j]? = some v → cell h ⟨b, o + j, Option.none⟩ = some v
/-- Slice value v of n elements (sz cells each) reads as the cells xs. -/
def Rd (h : Heap) (v : Value) (sz n : Nat) (xs : List Value) : Prop :=
  ∃ A c, v = .slice A n c ∧ n ≤ c ∧ xs.length = n * sz ∧ (0 < n → ∃ b o, A = some ⟨b, o, Option.none⟩ ∧ b < h.size ∧ At h b o xs)
/-- Slice value v of n elements lies at the head of a row of its own, or is nil. -/
def Own (h : Heap) (v : Value) (e : TypeId) (sz n : Nat) (xs : List Value) : Prop :=
  xs.length = n * sz ∧ ((v = .slice Option.none 0 0 ∧ n = 0) ∨
    ∃ g cap cur, v = .slice (some ⟨g, 0, Option.none⟩) n cap ∧ h[g]? = some (.cells cur e (0, 0)) ∧ n ≤ cap ∧ cap ≤ maxLen ∧ cur.size = cap * sz ∧ cur.toList.take (n * sz) = xs)
/-- h' is h with new blocks, and what has turned are blocks of S. -/
structure Ext (S : Nat → Prop) (h h' : Heap) : Prop where
  size : h.size ≤ h'.size
  keep : ∀ b, b < h.size → ¬ S b → h'[b]? = h[b]?
abbrev No : Nat → Prop := fun _ => False
theorem nos {b : Nat} : ¬ No b := fun h => h

section
variable {h h' h'' : Heap} {S S' : Nat → Prop}
theorem Ext.refl (S : Nat → Prop) (h : Heap) : Ext S h h := ⟨Nat.le_refl _, fun _ _ _ => rfl⟩
theorem Ext.trans (a : Ext S h h') (b : Ext S h' h'') : Ext S h h'' :=
  ⟨Nat.le_trans a.size b.size, fun k hk hS => (b.keep k (Nat.lt_of_lt_of_le hk a.size) hS).trans (a.keep k hk hS)⟩
/-- What the second step turns are blocks of S, or were new to the first. -/
theorem Ext.trans' (a : Ext S h h') (b : Ext S' h' h'') (hs : ∀ k, k < h.size → S' k → S k) : Ext S h h'' :=
  ⟨Nat.le_trans a.size b.size, fun k hk hS => (b.keep k (Nat.lt_of_lt_of_le hk a.size) (fun e => hS (hs k hk e))).trans (a.keep k hk hS)⟩
theorem Ext.mono (a : Ext S h h') (hs : ∀ k, k < h.size → S k → S' k) : Ext S' h h' := ⟨a.size, fun k hk hS => a.keep k hk fun e => hS (hs k hk e)⟩
theorem lt_of_some {b : Nat} {o : Obj} (hb : h[b]? = some o) : b < h.size := by
  rcases Nat.lt_or_ge b h.size with hlt | hge
  · exact hlt
  · rw [Array.getElem?_eq_none hge] at hb; cases hb
theorem Ext.obj (a : Ext S h h') {b : Nat} {o : Obj} (hb : h[b]? = some o) (hS : ¬ S b) : h'[b]? = some o := (a.keep b (lt_of_some hb) hS).trans hb
theorem Ext.push (S : Nat → Prop) (h : Heap) (o : Obj) : Ext S h (h.push o) :=
  ⟨by simp, fun b hb _ => by rw [Array.getElem?_push, if_neg (by omega)]⟩
theorem Ext.set (h : Heap) (b : Nat) (o : Obj) (hS : S b) : Ext S h (h.setIfInBounds b o) :=
  ⟨by simp, fun k _ hk => by rw [Array.getElem?_setIfInBounds_ne]; rintro rfl; exact hk hS⟩
theorem push_new (h : Heap) (o : Obj) : (h.push o)[h.size]? = some o := by simp
theorem push_old {b : Nat} {o x : Obj} (hb : h[b]? = some x) : (h.push o)[b]? = some x := (Ext.push No h o).obj hb id
theorem set_new {b : Nat} {o x : Obj} (hb : h[b]? = some x) : (h.setIfInBounds b o)[b]? = some o := by
  have := lt_of_some hb
  simp [this]
theorem set_old {b b' : Nat} {o x : Obj} (hne : b ≠ b') (hb : h[b']? = some x) : (h.setIfInBounds b o)[b']? = some x := by
  rw [Array.getElem?_setIfInBounds_ne hne]; exact hb

theorem cell_of {b o : Nat} {cs : Array Value} {t : TypeId} {z : Nat × Nat} (hb : h[b]? = some (.cells cs t z)) : cell h ⟨b, o, Option.none⟩ = cs[o]? := by
  simp [cell, hb]
theorem cell_lt {a : Addr} {v : Value} (hc : cell h a = some v) : a.block < h.size := by
  unfold cell at hc
  cases e : h[a.block]? with
  | none => rw [e] at hc; cases hc
  | some o => exact lt_of_some e
theorem cell_keep {a : Addr} (e : h'[a.block]? = h[a.block]?) : cell h' a = cell h a := by simp [cell, e]
theorem Ext.cell (a : Ext S h h') {p : Addr} {v : Value} (hc : cell h p = some v) (hS : ¬ S p.block) : cell h' p = some v :=
  (cell_keep (a.keep _ (cell_lt hc) hS)).trans hc
theorem At.ext {b o : Nat} {vs : List Value} (h0 : At h b o vs) (a : Ext S h h') (hS : ¬ S b) : At h' b o vs := fun j v hj => a.cell (h0 j v hj) hS
theorem At.one {b o : Nat} {vs : List Value} (h0 : At h b o vs) {j : Nat} {v : Value} (hj : vs[j]? = some v) : cell h ⟨b, o + j, Option.none⟩ = some v := h0 j v hj
theorem At.drop {b o : Nat} {vs : List Value} (h0 : At h b o vs) (k : Nat) : At h b (o + k) (vs.drop k) := fun j v hj => by
  rw [List.getElem?_drop] at hj
  rw [Nat.add_assoc]
  exact h0 _ v hj
theorem At.take {b o : Nat} {vs : List Value} (h0 : At h b o vs) (k : Nat) : At h b o (vs.take k) := fun j v hj => by
  rw [List.getElem?_take] at hj
  split at hj
  · exact h0 j v hj
  · cases hj
theorem At.of_block {b : Nat} {cs : List Value} {t : TypeId} {z : Nat × Nat} (hb : h[b]? = some (.cells ⟨cs⟩ t z)) : At h b 0 cs := fun j v hj => by
  rw [Nat.zero_add, cell_of hb]; simpa using hj

theorem Rd.ext {v : Value} {sz n : Nat} {xs : List Value} (r : Rd h v sz n xs) (a : Ext S h h') (hS : ∀ b, v.ownBlock = some b → ¬ S b) : Rd h' v sz n xs := by
  obtain ⟨A, c, rfl, hc, hl, hp⟩ := r
  refine ⟨A, c, rfl, hc, hl, fun hn => ?_⟩
  obtain ⟨b, o, rfl, hb, hat⟩ := hp hn
  exact ⟨b, o, rfl, Nat.lt_of_lt_of_le hb a.size, hat.ext a (hS b rfl)⟩
theorem Rd.ext0 {v : Value} {sz n : Nat} {xs : List Value} (r : Rd h v sz n xs) (a : Ext No h h') : Rd h' v sz n xs := r.ext a (fun _ _ => id)
theorem Rd.nil (h : Heap) (sz : Nat) : Rd h (.slice Option.none 0 0) sz 0 [] := ⟨_, _, rfl, Nat.le_refl _, by simp, fun h => absurd h (by omega)⟩
theorem Own.nil (h : Heap) (e : TypeId) (sz : Nat) : Own h (.slice Option.none 0 0) e sz 0 [] := ⟨by simp, .inl ⟨rfl, rfl⟩⟩
theorem Own.rd {v : Value} {e : TypeId} {sz n : Nat} {xs : List Value} (r : Own h v e sz n xs) : Rd h v sz n xs := by
  obtain ⟨hl, ⟨rfl, rfl⟩ | ⟨g, cap, cur, rfl, hg, hn, hm, hs, ht⟩⟩ := r
  · obtain rfl : xs = [] := List.eq_nil_of_length_eq_zero (by simpa using hl)
    exact Rd.nil h sz
  · refine ⟨_, _, rfl, hn, hl, fun _ => ⟨g, 0, rfl, lt_of_some hg, fun j v hj => ?_⟩⟩
    rw [Nat.zero_add, cell_of hg]
    rw [← ht, List.getElem?_take] at hj
    split at hj
    · simpa using hj
    · cases hj
theorem Own.ext {v : Value} {e : TypeId} {sz n : Nat} {xs : List Value} (r : Own h v e sz n xs) (a : Ext S h h') (hS : ∀ b, v.ownBlock = some b → ¬ S b) : Own h' v e sz n xs := by
  obtain ⟨hl, ⟨rfl, rfl⟩ | ⟨g, cap, cur, rfl, hg, hn, hm, hs, ht⟩⟩ := r
  · exact ⟨hl, .inl ⟨rfl, rfl⟩⟩
  · exact ⟨hl, .inr ⟨g, cap, cur, rfl, a.obj hg (hS g rfl), hn, hm, hs, ht⟩⟩
theorem Own.len {v : Value} {e : TypeId} {sz n : Nat} {xs : List Value} (r : Own h v e sz n xs) : xs.length = n * sz := r.1
theorem Own.slice {v : Value} {e : TypeId} {sz n : Nat} {xs : List Value} (r : Own h v e sz n xs) : ∃ A c, v = .slice A n c ∧ n ≤ c := by
  obtain ⟨hl, ⟨rfl, rfl⟩ | ⟨g, cap, cur, rfl, hg, hn, hm, hs, ht⟩⟩ := r
  · exact ⟨_, _, rfl, Nat.le_refl _⟩
  · exact ⟨_, _, rfl, hn⟩
end

/-! ### The steps of a region -/
section
variable {P : Program} {n : Env} {Q : Post} {f : Fr} {h : Heap} {l0 rest : List Oper}

theorem OkP.ok {o : Oper} {v : Value} (ho : OkP P f o h v) : Ok P f o h v h := fun ρ w ha hw => ⟨w, .refl w, hw, .inl (ho ρ w ha hw)⟩

theorem toAct_mono {w w' : World} (hs : Same w w') : ∀ (l : List Oper) (a : Act) (w'' : World), wpList P l0.toArray (toAct n Q w') l a w'' → wpList P l0.toArray (toAct n Q w) l a w'' := by
  have upon_mono : ∀ (o : Oper) (a : Act) (K K' : Act → World → Prop) (r : Result Next), (∀ a w, K a w → K' a w) → o.upon P a K (toAct n Q w') r → o.upon P a K' (toAct n Q w) r := by
    intro o a K K' r hKK hu
    cases r with
    | ok x w2 =>
      cases x <;> simp only [Oper.upon] at hu ⊢ <;> first | exact hKK _ _ hu | exact hu | skip
      · refine hu.mono fun e w3 he => ?_
        cases e with
        | returned v => exact hKK _ _ he
        | panicked c => exact he.trans hs
        | outgrown => obtain ⟨a0, w0, q⟩ := he; exact ⟨a0, w0, q.trans hs⟩
      · exact hu.mono fun v w3 he => hKK _ _ he
    | halt x w2 => cases x <;> simp only [Oper.upon] at hu ⊢ <;> first | exact hu.trans hs | exact hu
  intro l
  induction l with
  | nil => intro a w'' q; exact toAct.trans hs q
  | cons o' l ih =>
    intro a w'' q
    unfold wpList at q ⊢
    split
    · rename_i hw'
      rw [if_pos hw'] at q
      rcases q with q | ⟨q1, a0, w0, q2⟩
      · exact .inl (upon_mono _ _ _ _ _ ih q)
      · exact .inr ⟨q1, a0, w0, q2.trans hs⟩
    · rename_i hw'
      rw [if_neg hw'] at q
      exact ih _ _ q

/-- What a guard is. -/
def gval (f : Fr) (l0 : List Oper) (j : Nat) : Option Bool :=
  match (l0[j]?).bind (·.dst) with
  | some t => match f.get t with
    | some (.bool b) => some b
    | _ => Option.none
  | Option.none => Option.none
theorem gval_yielded {a : Act} (ha : Rep n a f) {j : Nat} {b : Bool} (hb : gval f l0 j = some b) : yielded l0.toArray a.tmps j = some b := by
  unfold gval at hb
  unfold yielded
  simp only [List.getElem?_toArray]
  cases e : (l0[j]?).bind (·.dst) with
  | none => rw [e] at hb; cases hb
  | some t =>
    rw [e] at hb
    cases e2 : f.get t with
    | none => simp [e2] at hb
    | some v =>
      have := ha.at_ t v e2
      cases v <;> simp [e2] at hb
      subst hb
      simp [this]
/-- May operation o be carried out at this frame? -/
def goes (f : Fr) (l0 : List Oper) (o : Oper) : Bool :=
  match o.guard with
  | Option.none => true
  | some (j, b) => match gval f l0 j with
    | some c => c == b
    | Option.none => false
/-- What a guard is that was not carried out itself. -/
def gund (f : Fr) (l0 : List Oper) (j : Nat) : Bool :=
  match (l0[j]?).bind (·.dst) with
  | some t => match f.get t with
    | some (.tuple ⟨[]⟩) => true
    | _ => false
  | Option.none => false
theorem gund_yielded {a : Act} (ha : Rep n a f) {j : Nat} (hb : gund f l0 j = true) : yielded l0.toArray a.tmps j = Option.none := by
  unfold gund at hb
  unfold yielded
  simp only [List.getElem?_toArray]
  cases e : (l0[j]?).bind (·.dst) with
  | none => rfl
  | some t =>
    rw [e] at hb
    simp only at hb
    split at hb
    · rename_i e2
      have := ha.at_ t _ e2
      simp [this]
    · cases hb
def stops (f : Fr) (l0 : List Oper) (o : Oper) : Bool :=
  match o.guard with
  | Option.none => false
  | some (j, b) => match gval f l0 j with
    | some c => c != b
    | Option.none => gund f l0 j
theorem goes_wanted {a : Act} (ha : Rep n a f) {o : Oper} (hg : goes f l0 o = true) : Region.wanted o (yielded l0.toArray a.tmps) = true := by
  unfold goes at hg
  unfold Region.wanted
  cases e : o.guard with
  | none => rfl
  | some p =>
    obtain ⟨j, b⟩ := p
    rw [e] at hg
    simp only at hg ⊢
    cases e2 : gval f l0 j with
    | none => simp [e2] at hg
    | some c =>
      rw [gval_yielded ha e2]
      simp [e2] at hg
      simp [hg]
theorem stops_wanted {a : Act} (ha : Rep n a f) {o : Oper} (hg : stops f l0 o = true) : Region.wanted o (yielded l0.toArray a.tmps) = false := by
  unfold stops at hg
  unfold Region.wanted
  cases e : o.guard with
  | none => rw [e] at hg; cases hg
  | some p =>
    obtain ⟨j, b⟩ := p
    rw [e] at hg
    simp only at hg ⊢
    cases e2 : gval f l0 j with
    | none =>
      rw [e2] at hg
      simp only at hg
      rw [gund_yielded ha hg]
      rfl
    | some c =>
      rw [gval_yielded ha e2]
      simp [e2] at hg
      simp [hg]

theorem WL.run {o : Oper} {R : Value → Heap → Prop} (hok : OkR P f o h R) (hg : goes f l0 o = true)
    (hk : ∀ v h' a w, R v h' → Rep n a f → w.heap = h' → wpList P l0.toArray (toAct n Q w) rest (a.put o.dst v) w) : WL P n l0 (o :: rest) Q f h := by
  intro a w ha hw
  refine wpList_step fun K hK => ?_
  rw [if_pos (goes_wanted ha hg)]
  obtain ⟨v, w', hs, hR, hrun⟩ := hok a.eval w ha.agrees hw
  unfold Oper.wp
  have hk' := toAct_mono hs _ _ _ (hk v w'.heap a w' hR ha rfl)
  rcases hrun with hrun | ⟨hrun, rfl⟩ <;> rw [hrun] <;> simp only [Oper.upon] <;> exact hK _ _ hk'
theorem OkP.r {o : Oper} {v : Value} (ho : OkP P f o h v) : OkR P f o h (fun v' h' => v' = v ∧ h' = h) := fun ρ w ha hw => ⟨v, w, .refl w, ⟨rfl, hw⟩, .inl (ho ρ w ha hw)⟩
/-- One operation that only computes or reads. -/
theorem WL.step {o : Oper} {v : Value} {t : Nat} (hok : OkP P f o h v) (hg : goes f l0 o = true) (hd : o.dst = some t) (ht : Nat.blt t n.n = true) (hk : WL P n l0 rest Q ((t, v) :: f) h) : WL P n l0 (o :: rest) Q f h :=
  .run hok.r hg (by rintro v h' a w ⟨rfl, rfl⟩ ha hw; rw [hd]; exact hk _ w (ha.put ht _) hw)
/-- One that yields a value and may turn the heap. -/
theorem WL.stepR {o : Oper} {R : Value → Heap → Prop} {t : Nat} (hok : OkR P f o h R) (hg : goes f l0 o = true) (hd : o.dst = some t) (ht : Nat.blt t n.n = true) (hk : ∀ v h', R v h' → WL P n l0 rest Q ((t, v) :: f) h') : WL P n l0 (o :: rest) Q f h :=
  .run hok hg (by rintro v h' a w hR ha hw; rw [hd]; exact hk v h' hR _ w (ha.put ht _) hw)
theorem WL.stepR0 {o : Oper} {R : Value → Heap → Prop} (hok : OkR P f o h R) (hg : goes f l0 o = true) (hd : o.dst = Option.none) (hk : ∀ v h', R v h' → WL P n l0 rest Q f h') : WL P n l0 (o :: rest) Q f h :=
  .run hok hg (by rintro v h' a w hR ha hw; rw [hd]; exact hk v h' hR _ w ha hw)
theorem WL.pass {o : Oper} {t : Nat} (hg : stops f l0 o = true) (hd : o.dst = some t) (ht : Nat.blt t n.n = true) (hk : WL P n l0 rest Q ((t, undef) :: f) h) : WL P n l0 (o :: rest) Q f h := by
  intro a w ha hw
  refine wpList_step fun K hK => ?_
  rw [if_neg (by rw [stops_wanted ha hg]; exact Bool.false_ne_true), hd]
  exact hK _ _ (hk _ w (ha.put ht _) hw)
theorem WL.pass0 {o : Oper} (hg : stops f l0 o = true) (hd : o.dst = Option.none) (hk : WL P n l0 rest Q f h) : WL P n l0 (o :: rest) Q f h := by
  intro a w ha hw
  refine wpList_step fun K hK => ?_
  rw [if_neg (by rw [stops_wanted ha hg]; exact Bool.false_ne_true), hd]
  exact hK _ _ (hk _ w ha hw)
/-- The way parts at a Bool that a slot holds. -/
theorem WL.part {l : List Oper} (t : Nat) {b : Bool} (hb : f.get t = some (.bool b)) (h1 : b = true → WL P n l0 l Q ((t, .bool true) :: f) h) (h2 : b = false → WL P n l0 l Q ((t, .bool false) :: f) h) : WL P n l0 l Q f h := by
  cases b
  · exact fun a w ha hw => h2 rfl a w (ha.sub_set hb) hw
  · exact fun a w ha hw => h1 rfl a w (ha.sub_set hb) hw
theorem WL.sub {l : List Oper} (g : Fr) (hs : SubL g f) (hc : WL P n l0 l Q g h) : WL P n l0 l Q f h := fun a w ha hw => hc a w (ha.sub hs) hw

/-- A call of a function by its contract. -/
theorem WL.call {o : Oper} {t : Nat} {k : FuncId} {xs : List Operand} {vs : List Value} {ts : Array TypeId} {R : Value → Heap → Prop} (ho : o.op = .call { callee := .value (.func k), args := ⟨xs⟩, argTypes := ts })
    (hc : ∀ (args : Array Value) (w : World), (callFunc k args).run P w = .ok (.enter k args) w)
    (hx : xs.map f.ev = vs.map some) (hR : CallsH P k ⟨vs⟩ h R) (hg : goes f l0 o = true) (hd : o.dst = some t) (ht : Nat.blt t n.n = true) (hk : ∀ v h', R v h' → WL P n l0 rest Q ((t, v) :: f) h') : WL P n l0 (o :: rest) Q f h := by
  intro a w ha hw
  refine wpList_step fun K hK => ?_
  rw [if_pos (goes_wanted ha hg)]
  have hargs : xs.map a.eval = vs := by
    clear ho hR
    induction xs generalizing vs with
    | nil => cases vs <;> simp_all
    | cons x xs ih =>
      cases vs with
      | nil => simp at hx
      | cons v vs =>
        simp only [List.map_cons, List.cons.injEq] at hx ⊢
        exact ⟨ha.agrees _ _ hx.1, ih hx.2⟩
  unfold Oper.wp
  have hrun : (execOp a.eval o).run P w = .ok (.enter k ⟨vs⟩) w := by
    have e2 : Array.map a.eval ⟨xs⟩ = ⟨vs⟩ := by rw [← hargs]; simp
    simp [execOp, ho, resolve, Deferred.ofValue, invoke, Act.eval, e2, hc]
  rw [hrun]
  simp only [Oper.upon]
  refine (hR w hw).mono fun e w' ⟨hs, v, he, hv⟩ => ?_
  subst he
  rw [hd]
  exact hK _ _ (toAct_mono hs _ _ _ (hk v _ hv _ w' (ha.put ht _) rfl))
end
end Go.RK
