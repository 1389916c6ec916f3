/-
  FRAMES AND HEAPS THAT ARE KNOWN IN PART, AND THE RULES BY WHICH A BODY IS WALKED OVER THEM. No program is named here.
-/
import Derived.WalkKit
import Derived.Deep.Quiet
import Derived.KernelRfl
import Derived.RangeFuncLeaves
import Derived.RangeFuncRecord
namespace Go.RK
open Go

abbrev Heap := Array Obj
/-- What is known of a frame: slots with their values; the first that names a slot holds. -/
abbrev Fr := List (Nat × Value)
def Fr.get : Fr → Nat → Option Value
  | [], _ => Option.none
  | (t, v) :: r, n => bif Nat.beq t n then some v else Fr.get r n
def Fr.ev (f : Fr) : Operand → Option Value
  | .tmp t => f.get t
  | .const v => some v
  | .global g => some (.pointer (some ⟨g, 0, Option.none⟩))
  | .func k => some (.func (.func k) #[] #[])
def SubL : Fr → Fr → Prop
  | [], _ => True
  | (t, v) :: r, f => f.get t = some v ∧ SubL r f
def ArgL : Fr → List Value → Prop
  | [], _ => True
  | (t, v) :: r, f => f[t]? = some v ∧ ArgL r f

/-- What stays through a body: how many slots the frame has, what is deferred, and the round of a range over a function, if it is one. -/
structure Env where
  n : Nat
  ds : List Deferred := []
  ro : Option Nat := Option.none
structure Rep (n : Env) (a : Act) (f : Fr) : Prop where
  size : a.tmps.size = n.n
  defers : a.defers = n.ds
  at_ : ∀ t v, f.get t = some v → a.tmps[t]? = some v
/-! ### draws are never taken back -/
theorem viewStore_drawn {p : Program} {w : World} {at_ : Addr} {u : TypeId} {k : Addr} {v : Value} {b : Bool} {r : World × List Addr} (h : w.viewStore p at_ u k v b = .ok r) : r.1.drawn = w.drawn := by
  unfold World.viewStore at h
  simp only [bind, Except.bind, pure, Except.pure] at h
  repeat' split at h
  all_goals first | (cases h; done) | skip
  all_goals (cases h; rfl)
theorem ask_drawn {α : Type} (k : Ask α) : ∀ w : World, w.drawn ≤ (w.ask k).2.drawn := by
  induction k with
  | done a => exact fun w => Nat.le_refl _
  | ask what range k ih =>
    intro w
    unfold World.ask
    simp only
    split
    · exact ih _ w
    · exact Nat.le_trans (Nat.le_succ _) (ih _ { w with drawn := w.drawn + 1 })
theorem sys_drawn (w : World) (c : Sys) : w.drawn ≤ (w.sys c).2.drawn := by
  unfold World.sys
  have := ask_drawn (Kernel.perform c w.os) w
  split
  · exact Nat.le_refl _
  · rename_i h
    rw [h] at this
    exact this
theorem freeze_drawn (w : World) (a : Addr) (n : Nat) : (w.freeze a n).drawn = w.drawn := by
  unfold World.freeze
  split <;> rfl
theorem farStore_drawn {p : Program} {w : World} {a : Addr} {v : Value} {b : Bool} {r : World × List Addr} (h : w.farStore p a v b = .ok r) : r.1.drawn = w.drawn := by
  unfold World.farStore at h
  split at h
  · split at h
    · cases h; exact viewStore_drawn ‹_›
    · cases h
  · cases h
theorem run_drawn {α : Type} {p : Program} (m : Sem α) : ∀ {w w' : World} {x : α}, m.run p w = .ok x w' → w.drawn ≤ w'.drawn := by
  induction m with
  | pure a => intro w w' x h; unfold Sem.run at h; cases h; exact Nat.le_refl _
  | load m a k ih =>
    intro w w' x h
    unfold Sem.run at h
    split at h
    · exact ih _ h
    · split at h
      · exact ih _ h
      · cases h
  | store m a v k ih =>
    intro w w' x h
    cases v
    all_goals
      simp only [Sem.run] at h
      first
      | (cases h; done)
      | (split at h
         · split at h
           · cases h
           · have h2 := ih h; exact h2
         · split at h
           · have h1 := farStore_drawn ‹_›
             have h2 := ih h
             simp only at h1
             omega
           · cases h)
  | new o k ih => intro w w' x h; unfold Sem.run at h; have h2 := ih _ h; exact h2
  | shape r k ih => intro w w' x h; unfold Sem.run at h; exact ih _ h
  | freeze a n k ih => intro w w' x h; unfold Sem.run at h; have := ih h; rwa [freeze_drawn] at this
  | frozen a k ih => intro w w' x h; unfold Sem.run at h; exact ih _ h
  | getObj r k ih =>
    intro w w' x h
    unfold Sem.run at h
    split at h
    · cases h
    · exact ih _ h
    · cases h
  | setObj r o k ih =>
    intro w w' x h
    unfold Sem.run at h
    split at h
    · cases h
    · have h2 := ih h; exact h2
    · cases h
  | choose q k ih =>
    intro w w' x h
    unfold Sem.run at h
    split at h
    · exact ih _ h
    · exact Nat.le_trans (Nat.le_succ _) (ih _ h)
  | sys c k ih => intro w w' x h; unfold Sem.run at h; exact Nat.le_trans (sys_drawn w c) (ih _ h)
  | program k ih => intro w w' x h; unfold Sem.run at h; exact ih _ h
  | mark m k ih => intro w w' x h; unfold Sem.run at h; exact ih h
  | halt h => intro w w' x h; unfold Sem.run at h; cases h
/-- Two worlds that differ in their heaps and draws alone. -/
structure Same (w w' : World) : Prop where
  tape : w'.tape = w.tape
  os : w'.os = w.os
  output : w'.output = w.output
  drawn : True
theorem Same.refl (w : World) : Same w w := ⟨rfl, rfl, rfl, trivial⟩
theorem Same.trans {a b c : World} (h : Same a b) (k : Same b c) : Same a c := ⟨k.tape.trans h.tape, k.os.trans h.os, k.output.trans h.output, trivial⟩

theorem Fr.get_cons (t : Nat) (v : Value) (f : Fr) (n : Nat) : Fr.get ((t, v) :: f) n = if t = n then some v else Fr.get f n := by
  show (bif Nat.beq t n then some v else Fr.get f n) = _
  by_cases h : t = n
  · subst h; simp
  · have h2 : Nat.beq t n = false := by
      cases h3 : Nat.beq t n
      · rfl
      · exact absurd (Nat.eq_of_beq_eq_true h3) h
    simp [h, h2]

theorem blt_lt {d n : Nat} (hd : Nat.blt d n = true) : d < n := by
  have h1 : d + 1 ≤ n := by simpa [Nat.blt, Nat.ble_eq] using hd
  omega
theorem Rep.put {n : Env} {a : Act} {f : Fr} (h : Rep n a f) {d : Nat} (hd : Nat.blt d n.n = true) (v : Value) : Rep n (a.put (some d) v) ((d, v) :: f) := by
  have hd' := blt_lt hd
  refine ⟨by simp [Act.put, h.size], by simp [Act.put, h.defers], fun t u hu => ?_⟩
  rw [Fr.get_cons] at hu
  by_cases e : d = t
  · subst e
    simp only [if_true] at hu
    injection hu with hu
    subst hu
    simp [Act.put, h.size, hd']
  · rw [if_neg e] at hu
    simp only [Act.put]
    rw [Array.getElem?_setIfInBounds_ne e]
    exact h.at_ t u hu

/-- What an operand is, whatever else the frame holds. -/
def Agrees (ρ : Operand → Value) (f : Fr) : Prop := ∀ x v, f.ev x = some v → ρ x = v
theorem Rep.agrees {n : Env} {a : Act} {f : Fr} (h : Rep n a f) : Agrees a.eval f := by
  intro x v hx
  cases x with
  | tmp t =>
    have := h.at_ t v hx
    simp [Act.eval, Array.getD_eq_getD_getElem?, this]
  | const u => simpa [Fr.ev, Act.eval] using hx
  | global g => simpa [Fr.ev, Act.eval] using hx
  | func k => simpa [Fr.ev, Act.eval] using hx

theorem Rep.sub {n : Env} {a : Act} {f g : Fr} (h : Rep n a f) (hs : SubL g f) : Rep n a g := by
  refine ⟨h.size, h.defers, ?_⟩
  induction g with
  | nil => intro t v hv; cases hv
  | cons p g ih =>
    obtain ⟨t0, v0⟩ := p
    intro t v hv
    rw [Fr.get_cons] at hv
    by_cases e : t0 = t
    · subst e
      rw [if_pos rfl] at hv
      injection hv with hv
      subst hv
      exact h.at_ _ _ hs.1
    · rw [if_neg e] at hv
      exact ih hs.2 t v hv

theorem Rep.sub_set {n : Env} {a : Act} {f : Fr} (h : Rep n a f) {t : Nat} {v : Value} (hv : f.get t = some v) : Rep n a ((t, v) :: f) := by
  refine ⟨h.size, h.defers, fun s u hu => ?_⟩
  rw [Fr.get_cons] at hu
  by_cases e : t = s
  · subst e
    rw [if_pos rfl] at hu
    exact h.at_ _ _ (hv.trans hu)
  · rw [if_neg e] at hu
    exact h.at_ _ _ hu

abbrev Post := Exit → Fr → Heap → Prop
/-- A region without defer statements. -/
def noDef (l : List Oper) : Bool := l.all fun o => match o.op with | .defer _ => false | _ => true
def calm : Exit → Bool
  | .panic _ => false
  | .outgrown => false
  | _ => true
def wd (ro : Option Nat) : Fence := { Fence.wide with round := ro }
def toAct (n : Env) (Q : Post) (w0 : World) : Exit → Act → World → Prop := fun e a w => calm e = true ∧ Same w0 w ∧ ∃ f, Rep n a f ∧ Q e f w.heap
def WC (P : Program) (n : Env) (c : Code) (Q : Post) (f : Fr) (h : Heap) : Prop := ∀ a w, Rep n a f → w.heap = h → c.wpIn (wd n.ro) 0 P (toAct n Q w) a w
def WL (P : Program) (n : Env) (l0 l : List Oper) (Q : Post) (f : Fr) (h : Heap) : Prop := ∀ a w, Rep n a f → w.heap = h → wpList P l0.toArray (toAct n Q w) l a w
def thenP (K : Fr → Heap → Prop) (Q : Post) : Post
  | .normal, f, w => K f w
  | e, f, w => Q e f w
def blockP (id : Nat) (Q : Post) : Post
  | .exit i, f, w => if i = id then Q .normal f w else Q (.exit i) f w
  | e, f, w => Q e f w
def CallsH (P : Program) (k : FuncId) (args : Array Value) (h : Heap) (R : Value → Heap → Prop) : Prop :=
  ∀ w : World, w.heap = h → Calls P k args w fun e w' => Same w w' ∧ ∃ v, e = .returned v ∧ R v w'.heap

theorem CallsH.mono {P : Program} {k : FuncId} {args : Array Value} {h : Heap} {R R' : Value → Heap → Prop} (hc : CallsH P k args h R) (hr : ∀ v h', R v h' → R' v h') : CallsH P k args h R' :=
  fun w hw => (hc w hw).mono fun _ _ ⟨s, v, e, r⟩ => ⟨s, v, e, hr _ _ r⟩

theorem toAct.trans {n : Env} {Q : Post} {w0 w1 : World} (hs : Same w0 w1) {e : Exit} {a : Act} {w : World} (h : toAct n Q w1 e a w) : toAct n Q w0 e a w := ⟨h.1, hs.trans h.2.1, h.2.2⟩
theorem toAct.shut {n : Env} {Q : Post} {w0 : World} : ¬ LetsOut (toAct n Q w0) := fun ⟨_, _, h, _⟩ => by cases h

/-! ### a region's walk serves in a round too -/
section
variable {P : Program} {ops : Array Oper} {Q : Exit → Act → World → Prop} {ro : Option Nat}
theorem rows_wide {row : String} {args : Array Value} {w : World} {R : Value → World → Prop} (h : Rows P row args w R) : RowsIn (wd ro) 0 P row args w R := fun c cs _ =>
  let ⟨v, w', hr, hs⟩ := h c cs
  ⟨v, w', hr, stepsIn_wide.2 hs⟩
theorem calls_wide {k : FuncId} {args : Array Value} {w : World} {R : Ending → World → Prop} (h : Calls P k args w R) : CallsIn (wd ro) 0 P k args w R := callsIn_wide (n := 0) |>.2 h
theorem upon_in {o : Oper} {a : Act} {K K' : Act → World → Prop} (hK : ∀ a w, K a w → K' a w) {r : Result Next} (h : o.upon P a K Q r) : o.uponIn (wd ro) 0 P a K' Q r := by
  cases r with
  | ok x w2 =>
    cases x <;> simp only [Oper.upon, Oper.uponIn] at h ⊢ <;> first | exact hK _ _ h | exact h | skip
    · refine ⟨fun e => (by cases e), (calls_wide h).mono fun e w3 he => ?_⟩
      cases e with
      | returned v => exact hK _ _ he
      | panicked c => exact he
      | outgrown => exact he
    · exact ⟨fun e => (by cases e), (rows_wide h).mono fun v w3 he => hK _ _ he⟩
  | halt x w2 => cases x <;> simp only [Oper.upon, Oper.uponIn] at h ⊢ <;> exact h
theorem semAt_of {o : Oper} {a : Act} (hd : ro = Option.none ∨ ∀ c, o.op ≠ .defer c) : o.semAt ro a.eval = execOp a.eval o := by
  rcases hd with rfl | hd
  · exact Oper.semAt_none _ _
  · exact Oper.semAt_eq _ _ _ hd
theorem noDef_at {l : List Oper} (h : noDef l = true) {i : Nat} {o : Oper} (ho : l[i]? = some o) : ∀ c, o.op ≠ .defer c := fun c e => by
  have := List.all_eq_true.1 h o (List.mem_of_getElem? ho)
  rw [e] at this
  cases this
theorem ops_in (hd : ro = Option.none ∨ noDef ops.toList = true) (hQ : ¬ LetsOut Q) : ∀ (l : List Nat) (a : Act) (w : World), wpOps P ops Q l a w → wpOpsIn (wd ro) 0 P ops Q l a w
  | [], a, w, h => h
  | i :: l, a, w, h => by
    unfold wpOps at h
    unfold wpOpsIn
    cases ho : ops[i]? with
    | none =>
      rw [ho] at h
      exact ops_in hd hQ l a w h
    | some o =>
      rw [ho] at h
      simp only at h ⊢
      by_cases hw : Region.wanted o (yielded ops a.tmps) = true
      · rw [if_pos hw] at h ⊢
        refine ⟨fun _ _ => trivial, ?_⟩
        show o.uponIn (wd ro) 0 P a _ Q ((o.semAt ro a.eval).run P w)
        rw [semAt_of (hd.imp id fun e => noDef_at e (by simpa using ho))]
        rcases h with h | h
        · exact upon_in (fun a w k => ops_in hd hQ l a w k) h
        · exact absurd h.2 hQ
      · rw [if_neg hw] at h ⊢
        exact ⟨fun _ _ => trivial, ops_in hd hQ l _ _ h⟩
theorem list_in {l : List Oper} {id : Nat} {a : Act} {w : World} (hd : ro = Option.none ∨ noDef l = true) (hQ : ¬ LetsOut Q) (h : wpList P l.toArray Q l a w) : (Code.region id l.toArray false).wpIn (wd ro) 0 P Q a w := by
  refine wpIn_region (ops_in hd hQ _ _ _ ?_)
  have e := wpOps_eq_wpList (P := P) (ops := l.toArray) (Q := Q) l 0 (by simp)
  rw [List.range_eq_range', show l.toArray.size = l.length by simp, e]
  exact h
theorem any_in {id : Nat} {a : Act} {w : World} (hd : ro = Option.none ∨ noDef ops.toList = true) (hQ : ¬ LetsOut Q) (hm : P.follows .mixedOrders = true)
    (h : wpAny P .any ops Q ops.size (Array.replicate ops.size false) a { w with drawn := w.drawn + 1 }) : (Code.region id ops true).wpIn (wd ro) 0 P Q a w :=
  wpIn_region_draw fun t => by
    simp only [Region.schedule, hm, Bool.true_or, if_true]
    exact ops_in hd hQ _ _ _ (wpAny_sound ops.size t _ a _ h)
end

section
variable {P : Program} {n : Env} {Q : Post} {f : Fr} {h : Heap}

theorem WC.sub {c : Code} (g : Fr) (hs : SubL g f) (hc : WC P n c Q g h) : WC P n c Q f h := fun a w ha hw => hc a w (ha.sub hs) hw
theorem WC.mono {c : Code} {Q' : Post} (hc : WC P n c Q f h) (hq : ∀ e f h, Q e f h → Q' e f h) : WC P n c Q' f h :=
  fun a w ha hw => wpIn_mono (hc a w ha hw) fun _ _ _ ⟨hl, hs, g, hg, q⟩ => ⟨hl, hs, g, hg, hq _ _ _ q⟩
theorem WC.seq {x y : Code} (hx : WC P n x (thenP (WC P n y Q) Q) f h) : WC P n (.seq x y) Q f h := by
  intro a w ha hw
  refine wpIn_seq (wpIn_mono (hx a w ha hw) ?_)
  rintro e a' w' ⟨hl, hs, g, hg, q⟩
  cases e
  case normal => exact wpIn_mono (q a' w' hg rfl) fun _ _ _ hq => hq.trans hs
  all_goals exact ⟨hl, hs, g, hg, q⟩
theorem WC.skip (hq : Q .normal f h) : WC P n .skip Q f h := fun _ w ha hw => wpIn_skip ⟨rfl, .refl w, f, ha, hw ▸ hq⟩
theorem WC.label {l : Nat} (hq : Q .normal f h) : WC P n (.label l) Q f h := fun _ w ha hw => wpIn_label ⟨rfl, .refl w, f, ha, hw ▸ hq⟩
theorem WC.ret (hq : Q .ret f h) : WC P n .ret Q f h := fun _ w ha hw => wpIn_ret ⟨rfl, .refl w, f, ha, hw ▸ hq⟩
theorem WC.exit {id : Nat} (hq : Q (.exit id) f h) : WC P n (.exit id) Q f h := fun _ w ha hw => wpIn_exit ⟨rfl, .refl w, f, ha, hw ▸ hq⟩
theorem WC.block {id : Nat} {c : Code} (hc : WC P n c (blockP id Q) f h) : WC P n (.block id c) Q f h := by
  intro a w ha hw
  refine wpIn_block (wpIn_mono (hc a w ha hw) ?_)
  rintro e a' w' ⟨hl, hs, g, hg, q⟩
  cases e with
  | exit i =>
    simp only [Exit.inBlock, blockP] at q ⊢
    by_cases hi : i = id
    · rw [if_pos hi] at q ⊢; exact ⟨rfl, hs, g, hg, q⟩
    · rw [if_neg hi] at q ⊢; exact ⟨rfl, hs, g, hg, q⟩
  | normal => exact ⟨hl, hs, g, hg, q⟩
  | goto l => exact ⟨hl, hs, g, hg, q⟩
  | ret => exact ⟨hl, hs, g, hg, q⟩
  | panic ch => cases hl
  | outgrown => cases hl
theorem WC.cond {c : Operand} {x y : Code} {b : Bool} (hc : f.ev c = some (.bool b)) (ht : b = true → WC P n x Q f h) (hf : b = false → WC P n y Q f h) : WC P n (.cond c x y) Q f h := by
  intro a w ha hw
  exact wpIn_cond_split (ha.agrees _ _ hc) (fun e => ht e a w ha hw) (fun e => hf e a w ha hw)
theorem WC.cond_t {c : Operand} {x y : Code} (hc : f.ev c = some (.bool true)) (hx : WC P n x Q f h) : WC P n (.cond c x y) Q f h :=
  .cond hc (fun _ => hx) (fun e => by cases e)
theorem WC.cond_f {c : Operand} {x y : Code} (hc : f.ev c = some (.bool false)) (hy : WC P n y Q f h) : WC P n (.cond c x y) Q f h :=
  .cond hc (fun e => by cases e) (fun _ => hy)
/-- The ways through x meet again: what y is told of is the frame g and the fact A on the heap. -/
theorem WC.cut {X : Type} {x y : Code} (g : X → Fr) (A : X → Heap → Prop) (hx : WC P n x (thenP (fun f' h' => ∃ z, SubL (g z) f' ∧ A z h') Q) f h) (hy : ∀ z h', A z h' → WC P n y Q (g z) h') : WC P n (.seq x y) Q f h :=
  .seq (hx.mono fun e f' h' q => by
    cases e
    case normal => obtain ⟨z, hs, ha⟩ := q; exact .sub _ hs (hy z h' ha)
    all_goals exact q)
/-- A loop: F writes out what is known of the frame at its head, by a state x. -/
theorem WC.loop {X : Type} {c : Code} (F : X → Fr) (I : X → Heap → Prop) (μ : X → Nat) (x0 : X) (hs : SubL (F x0) f) (h0 : I x0 h)
    (round : ∀ x h, I x h → WC P n c (thenP (fun f' h' => ∃ x', SubL (F x') f' ∧ I x' h' ∧ μ x' < μ x) Q) (F x) h) : WC P n (.loop c) Q f h := by
  intro a w ha hw b k cs hro hb hr
  have key : ∀ m (x : X) (a : Act) (w' : World), μ x = m → I x w'.heap → Rep n a (F x) → Same w w' →
      ∃ e a' w'', toAct n Q w e a' w'' ∧ ArrivesIn (Machine.fenced P (wd n.ro)) P (lone (b.atR a (.code c :: .inLoop c :: k)) cs w') b k cs e a' w'' := by
    intro m
    induction m using Nat.strongRecOn with
    | _ m ih =>
      intro x a w' hm hI hrp hsame
      obtain ⟨e, a₁, w₁, ⟨hl, hs1, g, hg, hq⟩, harr⟩ := round x w'.heap hI a w' hrp rfl b (.inLoop c :: k) cs hro hb hr
      cases e with
      | normal =>
        obtain ⟨x', hs', hI', hlt⟩ := hq
        obtain ⟨e₂, a₂, w₂, hq₂, harr₂⟩ := ih (μ x') (hm ▸ hlt) x' a₁ w₁ rfl hI' (hg.sub hs') (hsame.trans hs1)
        exact ⟨e₂, a₂, w₂, hq₂, .of_steps (StepsIn.trans harr (.one (fenced_calm hb hr rfl) stepR_inLoop)) harr₂⟩
      | exit id => exact ⟨_, a₁, w₁, ⟨rfl, hsame.trans hs1, g, hg, hq⟩, .pass (x := .inLoop c) rfl (fun _ _ => .inl (by simp)) harr⟩
      | goto l => exact ⟨_, a₁, w₁, ⟨rfl, hsame.trans hs1, g, hg, hq⟩, .pass (x := .inLoop c) rfl (fun _ _ => .inl (by simp)) harr⟩
      | ret => exact ⟨_, a₁, w₁, ⟨rfl, hsame.trans hs1, g, hg, hq⟩, .pass (x := .inLoop c) rfl (fun _ _ => .inl (by simp)) harr⟩
      | panic ch => cases hl
      | outgrown => cases hl
  obtain ⟨e, a', w', hq, harr⟩ := key _ x0 a w rfl (hw ▸ h0) (ha.sub hs) (.refl w)
  exact ⟨e, a', w', hq, .of_steps (.one (fenced_calm hb hr rfl) stepR_loop) harr⟩

/-! ### Regions -/
theorem WC.region {id : Nat} {l : List Oper} (hl : WL P n l l Q f h) (hd : n.ro = Option.none ∨ noDef l = true := by first | exact .inl rfl | exact .inr rfl) : WC P n (.region id l.toArray false) Q f h :=
  fun a w ha hw => list_in hd toAct.shut (hl a w ha hw)
theorem WL.nil {l0 : List Oper} (hq : Q .normal f h) : WL P n l0 [] Q f h := fun _ w ha hw => wpList_nil ⟨rfl, .refl w, f, ha, hw ▸ hq⟩

/-- Operation o, at a frame f and a heap h, yields v and leaves the heap h'. -/
def Ok (P : Program) (f : Fr) (o : Oper) (h : Heap) (v : Value) (h' : Heap) : Prop :=
  ∀ (ρ : Operand → Value) (w : World), Agrees ρ f → w.heap = h → ∃ w', Same w w' ∧ w'.heap = h' ∧
    ((execOp ρ o).run P w = .ok (.value v) w' ∨ ((execOp ρ o).run P w = .ok .skip w' ∧ v = undef))

end
end Go.RK
