/-
  SEVERAL TEXTS IN ONE: K1, K2, K3, K4, K5, K6, K7, K8, K9, K10, K11, K12, K26, Base, Inst, Cell, Sl, Back, FmB.
-/
import Derived.WalkKit
import Derived.Deep.Quiet
import Derived.KernelRfl
import Derived.RangeFuncLeaves
import Derived.RangeFuncRecord
import Derived.Laws.Pointers
import Derived.WalkLawsBesides
import Derived.WalkSpells
import Derived.Maps.AppendAt
import Derived.Laws.Tables
import Derived.Laws.Rows
import Derived.Laws.CopyRow
import Derived.Deep.AppendLies
import Derived.MapKept
import Derived.Below
import Derived.ProofKit
import Derived.OpenShut
import Derived.ShutString
import Derived.ChangeOld
import Derived.Deep.Slices
import Derived.OrdersHeld
import Derived.StillTail
import Derived.Lib.ConvBytes
import Derived.Lib.UnsafeStr
import Derived.Lib.Builder
import Derived.Laws.BytesString
import Derived.Laws.Externs
import Derived.Laws.Strings2
import Derived.Laws.Strings3
import Derived.Laws.MakeOwn
import Derived.Laws.StructEq
import Derived.Laws.BitsLemmas
import Derived.ChangeKeysEq
import Derived.Test.YtbokngiajfdanaaGreatDoorChecked
/-
  FRAMES AND HEAPS THAT ARE KNOWN IN PART, AND THE RULES BY WHICH A BODY IS WALKED OVER THEM. No program is named here.
-/
namespace Go.RK
open Go

abbrev Heap := Array Obj
/-- What is known of a frame: slots with their values; the first that names a slot holds. -/
abbrev Fr := List (Nat × Value)
def Fr.get : Fr → Nat → Option Value
  | [], _ => Option.none
  | (t, v) :: r, n => bif Nat.beq t n then some v else Fr.get r n
def Fr.ev (f : Fr) : Operand → Option Value
  | .tmp t => f.get t
  | .const v => some v
  | .global g => some (.pointer (some ⟨g, 0, Option.none⟩))
  | .func k => some (.func (.func k) #[] #[])
def SubL : Fr → Fr → Prop
  | [], _ => True
  | (t, v) :: r, f => f.get t = some v ∧ SubL r f
def ArgL : Fr → List Value → Prop
  | [], _ => True
  | (t, v) :: r, f => f[t]? = some v ∧ ArgL r f

/-- What stays through a body: how many slots the frame has, what is deferred, and the round of a range over a function, if it is one. -/
structure Env where
  n : Nat
  ds : List Deferred := []
  ro : Option Nat := Option.none
structure Rep (n : Env) (a : Act) (f : Fr) : Prop where
  size : a.tmps.size = n.n
  defers : a.defers = n.ds
  at_ : ∀ t v, f.get t = some v → a.tmps[t]? = some v
/-- Two worlds that differ in their heaps and draws alone. -/
structure Same (w w' : World) : Prop where
  tape : w'.tape = w.tape
  os : w'.os = w.os
  output : w'.output = w.output
  drawn : True
theorem Same.refl (w : World) : Same w w := ⟨rfl, rfl, rfl, trivial⟩
theorem Same.trans {a b c : World} (h : Same a b) (k : Same b c) : Same a c := ⟨k.tape.trans h.tape, k.os.trans h.os, k.output.trans h.output, trivial⟩

theorem Fr.get_cons (t : Nat) (v : Value) (f : Fr) (n : Nat) : Fr.get ((t, v) :: f) n = if t = n then some v else Fr.get f n := by
  show (bif Nat.beq t n then some v else Fr.get f n) = _
  by_cases h : t = n
  · subst h; simp
  · have h2 : Nat.beq t n = false := by
      cases h3 : Nat.beq t n
      · rfl
      · exact absurd (Nat.eq_of_beq_eq_true h3) h
    simp [h, h2]

theorem blt_lt {d n : Nat} (hd : Nat.blt d n = true) : d < n := by
  have h1 : d + 1 ≤ n := by simpa [Nat.blt, Nat.ble_eq] using hd
  omega
theorem Rep.put {n : Env} {a : Act} {f : Fr} (h : Rep n a f) {d : Nat} (hd : Nat.blt d n.n = true) (v : Value) : Rep n (a.put (some d) v) ((d, v) :: f) := by
  have hd' := blt_lt hd
  refine ⟨by simp [Act.put, h.size], by simp [Act.put, h.defers], fun t u hu => ?_⟩
  rw [Fr.get_cons] at hu
  by_cases e : d = t
  · subst e
    simp only [if_true] at hu
    injection hu with hu
    subst hu
    simp [Act.put, h.size, hd']
  · rw [if_neg e] at hu
    simp only [Act.put]
    rw [Array.getElem?_setIfInBounds_ne e]
    exact h.at_ t u hu

/-- What an operand is, whatever else the frame holds. -/
def Agrees (ρ : Operand → Value) (f : Fr) : Prop := ∀ x v, f.ev x = some v → ρ x = v
theorem Rep.agrees {n : Env} {a : Act} {f : Fr} (h : Rep n a f) : Agrees a.eval f := by
  intro x v hx
  cases x with
  | tmp t =>
    have := h.at_ t v hx
    simp [Act.eval, Array.getD_eq_getD_getElem?, this]
  | const u => simpa [Fr.ev, Act.eval] using hx
  | global g => simpa [Fr.ev, Act.eval] using hx
  | func k => simpa [Fr.ev, Act.eval] using hx

theorem Rep.sub {n : Env} {a : Act} {f g : Fr} (h : Rep n a f) (hs : SubL g f) : Rep n a g := by
  refine ⟨h.size, h.defers, ?_⟩
  induction g with
  | nil => intro t v hv; cases hv
  | cons p g ih =>
    obtain ⟨t0, v0⟩ := p
    intro t v hv
    rw [Fr.get_cons] at hv
    by_cases e : t0 = t
    · subst e
      rw [if_pos rfl] at hv
      injection hv with hv
      subst hv
      exact h.at_ _ _ hs.1
    · rw [if_neg e] at hv
      exact ih hs.2 t v hv

theorem Rep.sub_set {n : Env} {a : Act} {f : Fr} (h : Rep n a f) {t : Nat} {v : Value} (hv : f.get t = some v) : Rep n a ((t, v) :: f) := by
  refine ⟨h.size, h.defers, fun s u hu => ?_⟩
  rw [Fr.get_cons] at hu
  by_cases e : t = s
  · subst e
    rw [if_pos rfl] at hu
    exact h.at_ _ _ (hv.trans hu)
  · rw [if_neg e] at hu
    exact h.at_ _ _ hu

abbrev Post := Exit → Fr → Heap → Prop
/-- A region without defer statements. -/
def noDef (l : List Oper) : Bool := l.all fun o => match o.op with | .defer _ => false | _ => true
def calm : Exit → Bool
  | .panic _ => false
  | .outgrown => false
  | _ => true
def wd (ro : Option Nat) : Fence := { Fence.wide with round := ro }
def toAct (n : Env) (Q : Post) (w0 : World) : Exit → Act → World → Prop := fun e a w => calm e = true ∧ Same w0 w ∧ ∃ f, Rep n a f ∧ Q e f w.heap
def WC (P : Program) (n : Env) (c : Code) (Q : Post) (f : Fr) (h : Heap) : Prop := ∀ a w, Rep n a f → w.heap = h → c.wpIn (wd n.ro) 0 P (toAct n Q w) a w
def WL (P : Program) (n : Env) (l0 l : List Oper) (Q : Post) (f : Fr) (h : Heap) : Prop := ∀ a w, Rep n a f → w.heap = h → wpList P l0.toArray (toAct n Q w) l a w
def thenP (K : Fr → Heap → Prop) (Q : Post) : Post
  | .normal, f, w => K f w
  | e, f, w => Q e f w
def blockP (id : Nat) (Q : Post) : Post
  | .exit i, f, w => if i = id then Q .normal f w else Q (.exit i) f w
  | e, f, w => Q e f w
def CallsH (P : Program) (k : FuncId) (args : Array Value) (h : Heap) (R : Value → Heap → Prop) : Prop :=
  ∀ w : World, w.heap = h → Calls P k args w fun e w' => Same w w' ∧ ∃ v, e = .returned v ∧ R v w'.heap

theorem CallsH.mono {P : Program} {k : FuncId} {args : Array Value} {h : Heap} {R R' : Value → Heap → Prop} (hc : CallsH P k args h R) (hr : ∀ v h', R v h' → R' v h') : CallsH P k args h R' :=
  fun w hw => (hc w hw).mono fun _ _ ⟨s, v, e, r⟩ => ⟨s, v, e, hr _ _ r⟩

theorem toAct.trans {n : Env} {Q : Post} {w0 w1 : World} (hs : Same w0 w1) {e : Exit} {a : Act} {w : World} (h : toAct n Q w1 e a w) : toAct n Q w0 e a w := ⟨h.1, hs.trans h.2.1, h.2.2⟩
theorem toAct.shut {n : Env} {Q : Post} {w0 : World} : ¬ LetsOut (toAct n Q w0) := fun ⟨_, _, h, _⟩ => by cases h

/-! ### a region's walk serves in a round too -/
section
variable {P : Program} {ops : Array Oper} {Q : Exit → Act → World → Prop} {ro : Option Nat}
theorem rows_wide {row : String} {args : Array Value} {w : World} {R : Value → World → Prop} (h : Rows P row args w R) : RowsIn (wd ro) 0 P row args w R := fun c cs _ =>
  let ⟨v, w', hr, hs⟩ := h c cs
  ⟨v, w', hr, stepsIn_wide.2 hs⟩
theorem calls_wide {k : FuncId} {args : Array Value} {w : World} {R : Ending → World → Prop} (h : Calls P k args w R) : CallsIn (wd ro) 0 P k args w R := callsIn_wide (n := 0) |>.2 h
theorem upon_in {o : Oper} {a : Act} {K K' : Act → World → Prop} (hK : ∀ a w, K a w → K' a w) {r : Result Next} (h : o.upon P a K Q r) : o.uponIn (wd ro) 0 P a K' Q r := by
  cases r with
  | ok x w2 =>
    cases x <;> simp only [Oper.upon, Oper.uponIn] at h ⊢ <;> first | exact hK _ _ h | exact h | skip
    · refine ⟨fun e => (by cases e), (calls_wide h).mono fun e w3 he => ?_⟩
      cases e with
      | returned v => exact hK _ _ he
      | panicked c => exact he
      | outgrown => exact he
    · exact ⟨fun e => (by cases e), (rows_wide h).mono fun v w3 he => hK _ _ he⟩
  | halt x w2 => cases x <;> simp only [Oper.upon, Oper.uponIn] at h ⊢ <;> exact h
theorem semAt_of {o : Oper} {a : Act} (hd : ro = Option.none ∨ ∀ c, o.op ≠ .defer c) : o.semAt ro a.eval = execOp a.eval o := by
  rcases hd with rfl | hd
  · exact Oper.semAt_none _ _
  · exact Oper.semAt_eq _ _ _ hd
theorem noDef_at {l : List Oper} (h : noDef l = true) {i : Nat} {o : Oper} (ho : l[i]? = some o) : ∀ c, o.op ≠ .defer c := fun c e => by
  have := List.all_eq_true.1 h o (List.mem_of_getElem? ho)
  rw [e] at this
  cases this
theorem ops_in (hd : ro = Option.none ∨ noDef ops.toList = true) (hQ : ¬ LetsOut Q) : ∀ (l : List Nat) (a : Act) (w : World), wpOps P ops Q l a w → wpOpsIn (wd ro) 0 P ops Q l a w
  | [], a, w, h => h
  | i :: l, a, w, h => by
    unfold wpOps at h
    unfold wpOpsIn
    cases ho : ops[i]? with
    | none =>
      rw [ho] at h
      exact ops_in hd hQ l a w h
    | some o =>
      rw [ho] at h
      simp only at h ⊢
      by_cases hw : Region.wanted o (yielded ops a.tmps) = true
      · rw [if_pos hw] at h ⊢
        refine ⟨fun _ _ => trivial, ?_⟩
        show o.uponIn (wd ro) 0 P a _ Q ((o.semAt ro a.eval).run P w)
        rw [semAt_of (hd.imp id fun e => noDef_at e (by simpa using ho))]
        rcases h with h | h
        · exact upon_in (fun a w k => ops_in hd hQ l a w k) h
        · exact absurd h.2 hQ
      · rw [if_neg hw] at h ⊢
        exact ⟨fun _ _ => trivial, ops_in hd hQ l _ _ h⟩
theorem list_in {l : List Oper} {id : Nat} {a : Act} {w : World} (hd : ro = Option.none ∨ noDef l = true) (hQ : ¬ LetsOut Q) (h : wpList P l.toArray Q l a w) : (Code.region id l.toArray false).wpIn (wd ro) 0 P Q a w := by
  refine wpIn_region (ops_in hd hQ _ _ _ ?_)
  have e := wpOps_eq_wpList (P := P) (ops := l.toArray) (Q := Q) l 0 (by simp)
  rw [List.range_eq_range', show l.toArray.size = l.length by simp, e]
  exact h
theorem any_in {id : Nat} {a : Act} {w : World} (hd : ro = Option.none ∨ noDef ops.toList = true) (hQ : ¬ LetsOut Q) (hm : P.follows .mixedOrders = true)
    (h : wpAny P .any ops Q ops.size (Array.replicate ops.size false) a { w with drawn := w.drawn + 1 }) : (Code.region id ops true).wpIn (wd ro) 0 P Q a w :=
  wpIn_region_draw fun t => by
    simp only [Region.schedule, hm, Bool.true_or, if_true]
    exact ops_in hd hQ _ _ _ (wpAny_sound ops.size t _ a _ h)
end

section
variable {P : Program} {n : Env} {Q : Post} {f : Fr} {h : Heap}

theorem WC.sub {c : Code} (g : Fr) (hs : SubL g f) (hc : WC P n c Q g h) : WC P n c Q f h := fun a w ha hw => hc a w (ha.sub hs) hw
theorem WC.mono {c : Code} {Q' : Post} (hc : WC P n c Q f h) (hq : ∀ e f h, Q e f h → Q' e f h) : WC P n c Q' f h :=
  fun a w ha hw => wpIn_mono (hc a w ha hw) fun _ _ _ ⟨hl, hs, g, hg, q⟩ => ⟨hl, hs, g, hg, hq _ _ _ q⟩
theorem WC.seq {x y : Code} (hx : WC P n x (thenP (WC P n y Q) Q) f h) : WC P n (.seq x y) Q f h := by
  intro a w ha hw
  refine wpIn_seq (wpIn_mono (hx a w ha hw) ?_)
  rintro e a' w' ⟨hl, hs, g, hg, q⟩
  cases e
  case normal => exact wpIn_mono (q a' w' hg rfl) fun _ _ _ hq => hq.trans hs
  all_goals exact ⟨hl, hs, g, hg, q⟩
theorem WC.skip (hq : Q .normal f h) : WC P n .skip Q f h := fun _ w ha hw => wpIn_skip ⟨rfl, .refl w, f, ha, hw ▸ hq⟩
theorem WC.ret (hq : Q .ret f h) : WC P n .ret Q f h := fun _ w ha hw => wpIn_ret ⟨rfl, .refl w, f, ha, hw ▸ hq⟩
theorem WC.exit {id : Nat} (hq : Q (.exit id) f h) : WC P n (.exit id) Q f h := fun _ w ha hw => wpIn_exit ⟨rfl, .refl w, f, ha, hw ▸ hq⟩
theorem WC.block {id : Nat} {c : Code} (hc : WC P n c (blockP id Q) f h) : WC P n (.block id c) Q f h := by
  intro a w ha hw
  refine wpIn_block (wpIn_mono (hc a w ha hw) ?_)
  rintro e a' w' ⟨hl, hs, g, hg, q⟩
  cases e with
  | exit i =>
    simp only [Exit.inBlock, blockP] at q ⊢
    by_cases hi : i = id
    · rw [if_pos hi] at q ⊢; exact ⟨rfl, hs, g, hg, q⟩
    · rw [if_neg hi] at q ⊢; exact ⟨rfl, hs, g, hg, q⟩
  | normal => exact ⟨hl, hs, g, hg, q⟩
  | goto l => exact ⟨hl, hs, g, hg, q⟩
  | ret => exact ⟨hl, hs, g, hg, q⟩
  | panic ch => cases hl
  | outgrown => cases hl
theorem WC.cond {c : Operand} {x y : Code} {b : Bool} (hc : f.ev c = some (.bool b)) (ht : b = true → WC P n x Q f h) (hf : b = false → WC P n y Q f h) : WC P n (.cond c x y) Q f h := by
  intro a w ha hw
  exact wpIn_cond_split (ha.agrees _ _ hc) (fun e => ht e a w ha hw) (fun e => hf e a w ha hw)
theorem WC.cond_t {c : Operand} {x y : Code} (hc : f.ev c = some (.bool true)) (hx : WC P n x Q f h) : WC P n (.cond c x y) Q f h :=
  .cond hc (fun _ => hx) (fun e => by cases e)
theorem WC.cond_f {c : Operand} {x y : Code} (hc : f.ev c = some (.bool false)) (hy : WC P n y Q f h) : WC P n (.cond c x y) Q f h :=
  .cond hc (fun e => by cases e) (fun _ => hy)
/-- The ways through x meet again: what y is told of is the frame g and the fact A on the heap. -/
theorem WC.cut {X : Type} {x y : Code} (g : X → Fr) (A : X → Heap → Prop) (hx : WC P n x (thenP (fun f' h' => ∃ z, SubL (g z) f' ∧ A z h') Q) f h) (hy : ∀ z h', A z h' → WC P n y Q (g z) h') : WC P n (.seq x y) Q f h :=
  .seq (hx.mono fun e f' h' q => by
    cases e
    case normal => obtain ⟨z, hs, ha⟩ := q; exact .sub _ hs (hy z h' ha)
    all_goals exact q)
/-- A loop: F writes out what is known of the frame at its head, by a state x. -/
theorem WC.loop {X : Type} {c : Code} (F : X → Fr) (I : X → Heap → Prop) (μ : X → Nat) (x0 : X) (hs : SubL (F x0) f) (h0 : I x0 h)
    (round : ∀ x h, I x h → WC P n c (thenP (fun f' h' => ∃ x', SubL (F x') f' ∧ I x' h' ∧ μ x' < μ x) Q) (F x) h) : WC P n (.loop c) Q f h := by
  intro a w ha hw b k cs hro hb hr
  have key : ∀ m (x : X) (a : Act) (w' : World), μ x = m → I x w'.heap → Rep n a (F x) → Same w w' →
      ∃ e a' w'', toAct n Q w e a' w'' ∧ ArrivesIn (Machine.fenced P (wd n.ro)) P (lone (b.atR a (.code c :: .inLoop c :: k)) cs w') b k cs e a' w'' := by
    intro m
    induction m using Nat.strongRecOn with
    | _ m ih =>
      intro x a w' hm hI hrp hsame
      obtain ⟨e, a₁, w₁, ⟨hl, hs1, g, hg, hq⟩, harr⟩ := round x w'.heap hI a w' hrp rfl b (.inLoop c :: k) cs hro hb hr
      cases e with
      | normal =>
        obtain ⟨x', hs', hI', hlt⟩ := hq
        obtain ⟨e₂, a₂, w₂, hq₂, harr₂⟩ := ih (μ x') (hm ▸ hlt) x' a₁ w₁ rfl hI' (hg.sub hs') (hsame.trans hs1)
        exact ⟨e₂, a₂, w₂, hq₂, .of_steps (StepsIn.trans harr (.one (fenced_calm hb hr rfl) stepR_inLoop)) harr₂⟩
      | exit id => exact ⟨_, a₁, w₁, ⟨rfl, hsame.trans hs1, g, hg, hq⟩, .pass (x := .inLoop c) rfl (fun _ _ => .inl (by simp)) harr⟩
      | goto l => exact ⟨_, a₁, w₁, ⟨rfl, hsame.trans hs1, g, hg, hq⟩, .pass (x := .inLoop c) rfl (fun _ _ => .inl (by simp)) harr⟩
      | ret => exact ⟨_, a₁, w₁, ⟨rfl, hsame.trans hs1, g, hg, hq⟩, .pass (x := .inLoop c) rfl (fun _ _ => .inl (by simp)) harr⟩
      | panic ch => cases hl
      | outgrown => cases hl
  obtain ⟨e, a', w', hq, harr⟩ := key _ x0 a w rfl (hw ▸ h0) (ha.sub hs) (.refl w)
  exact ⟨e, a', w', hq, .of_steps (.one (fenced_calm hb hr rfl) stepR_loop) harr⟩

/-! ### Regions -/
theorem WC.region {id : Nat} {l : List Oper} (hl : WL P n l l Q f h) (hd : n.ro = Option.none ∨ noDef l = true := by first | exact .inl rfl | exact .inr rfl) : WC P n (.region id l.toArray false) Q f h :=
  fun a w ha hw => list_in hd toAct.shut (hl a w ha hw)
theorem WL.nil {l0 : List Oper} (hq : Q .normal f h) : WL P n l0 [] Q f h := fun _ w ha hw => wpList_nil ⟨rfl, .refl w, f, ha, hw ▸ hq⟩

/-- Operation o, at a frame f and a heap h, yields v and leaves the heap h'. -/
def Ok (P : Program) (f : Fr) (o : Oper) (h : Heap) (v : Value) (h' : Heap) : Prop :=
  ∀ (ρ : Operand → Value) (w : World), Agrees ρ f → w.heap = h → ∃ w', Same w w' ∧ w'.heap = h' ∧
    ((execOp ρ o).run P w = .ok (.value v) w' ∨ ((execOp ρ o).run P w = .ok .skip w' ∧ v = undef))

end
end Go.RK

/-
  THE RULES, OPERATION BY OPERATION: what only computes or reads. No program is named here.
-/
namespace Go.RK
open Go

/-- A text, by its bytes. -/
@[reducible] def St (l : List UInt8) : Value := .string ⟨⟨l⟩⟩
@[reducible] def In (n : Int) : Value := .int .i64 n

theorem append_St (l m : List UInt8) : (ByteArray.mk ⟨l⟩) ++ (ByteArray.mk ⟨m⟩) = ByteArray.mk ⟨l ++ m⟩ := by
  apply ByteArray.ext
  simp

/-- Operation o computes or reads: it yields v, and the world stays. -/
def OkP (P : Program) (f : Fr) (o : Oper) (h : Heap) (v : Value) : Prop :=
  ∀ (ρ : Operand → Value) (w : World), Agrees ρ f → w.heap = h → (execOp ρ o).run P w = .ok (.value v) w
/-- Operation o may draw, write and make memory: what it yields and leaves is told by R. -/
def OkR (P : Program) (f : Fr) (o : Oper) (h : Heap) (R : Value → Heap → Prop) : Prop :=
  ∀ (ρ : Operand → Value) (w : World), Agrees ρ f → w.heap = h → ∃ v w', Same w w' ∧ R v w'.heap ∧
    ((execOp ρ o).run P w = .ok (.value v) w' ∨ ((execOp ρ o).run P w = .ok .skip w' ∧ v = undef))

section
variable {P : Program} {f : Fr} {h : Heap} {d : Option Tmp} {ty : TypeId} {pos : String} {af : Array Edge} {g : Option (Nat × Bool)}

theorem ok_move {x : Operand} {v : Value} (hx : f.ev x = some v) : OkP P f ⟨d, .move x, ty, pos, af, g⟩ h v := fun ρ w ha _ => by simp [execOp, ha _ _ hx]
theorem ok_assign {x : Operand} {v : Value} (hx : f.ev x = some v) : OkP P f ⟨d, .assign x, ty, pos, af, g⟩ h v := fun ρ w ha _ => by simp [execOp, ha _ _ hx]
theorem ok_pick_t {c x y : Operand} {v : Value} (hc : f.ev c = some (.bool true)) (hx : f.ev x = some v) : OkP P f ⟨d, .pick c x y, ty, pos, af, g⟩ h v :=
  fun ρ w ha _ => by simp [execOp, ha _ _ hc, ha _ _ hx, asBool]
theorem ok_pick_f {c x y : Operand} {v : Value} (hc : f.ev c = some (.bool false)) (hy : f.ev y = some v) : OkP P f ⟨d, .pick c x y, ty, pos, af, g⟩ h v :=
  fun ρ w ha _ => by simp [execOp, ha _ _ hc, ha _ _ hy, asBool]
theorem ok_nilCheck {x : Operand} {a : Addr} (hx : f.ev x = some (.pointer (some a))) : OkP P f ⟨d, .nilCheck x, ty, pos, af, g⟩ h (.pointer (some a)) :=
  fun ρ w ha _ => by simp [execOp, ha _ _ hx]
theorem ok_extract {x : Operand} {i : Nat} {vs : List Value} {v : Value} (hx : f.ev x = some (.tuple ⟨vs⟩)) (hv : vs[i]? = some v) : OkP P f ⟨d, .extract x i, ty, pos, af, g⟩ h v :=
  fun ρ w ha _ => by simp [execOp, ha _ _ hx, Instr.extract, hv]
theorem ok_fieldAddr {x : Operand} {s i : Nat} {fs : Array Field} {fl : Field} {b o k : Nat} (hx : f.ev x = some (.pointer (some ⟨b, o, Option.none⟩))) (hu : P.underlying s = some (.struct fs)) (hf : fs[i]? = some fl)
    (hz : ∀ w, (sizeOf fl.type).run P w = .ok (k + 1) w) : OkP P f ⟨d, .fieldAddr s x i, ty, pos, af, g⟩ h (.pointer (some ⟨b, o + fl.offset, Option.none⟩)) :=
  fun ρ w ha _ => by simp [execOp, ha _ _ hx, Instr.fieldAt, run_underlying hu, hf, Instr.sureAddr, fieldPlace, hz, Addr.add_lit]

/-! ### numbers -/
section ints
variable {t t2 : TypeId} {x y : Operand} {k : IntKind} {a b : Int}
theorem ok_add (hx : f.ev x = some (.int k a)) (hy : f.ev y = some (.int k b)) : OkP P f ⟨d, .binOp .add t x y t2, ty, pos, af, g⟩ h (.int k (k.wrap (a + b))) :=
  fun ρ w ha _ => by simp [execOp, ha _ _ hx, ha _ _ hy, eqGuard_add, binOp_add, Op.intArith]
theorem ok_sub (hx : f.ev x = some (.int k a)) (hy : f.ev y = some (.int k b)) : OkP P f ⟨d, .binOp .sub t x y t2, ty, pos, af, g⟩ h (.int k (k.wrap (a - b))) :=
  fun ρ w ha _ => by simp [execOp, ha _ _ hx, ha _ _ hy, eqGuard_sub, binOp_sub, Op.intArith]
theorem ok_mul (hx : f.ev x = some (.int k a)) (hy : f.ev y = some (.int k b)) : OkP P f ⟨d, .binOp .mul t x y t2, ty, pos, af, g⟩ h (.int k (k.wrap (a * b))) :=
  fun ρ w ha _ => by simp [execOp, ha _ _ hx, ha _ _ hy, eqGuard_mul, binOp_mul, Op.intArith]
theorem wrap_i64 (a : Int) (h0 : -9223372036854775808 ≤ a) (h1 : a ≤ 9223372036854775807) : IntKind.i64.wrap a = a := by rw [IntKind.wrap_i64]; omega
theorem ok_addI (hx : f.ev x = some (In a)) (hy : f.ev y = some (In b)) (h0 : -9223372036854775808 ≤ a + b ∧ a + b ≤ 9223372036854775807) : OkP P f ⟨d, .binOp .add t x y t2, ty, pos, af, g⟩ h (In (a + b)) := by
  have := ok_add (P := P) (d := d) (ty := ty) (pos := pos) (af := af) (g := g) (h := h) (t := t) (t2 := t2) hx hy
  rwa [wrap_i64 _ h0.1 h0.2] at this
theorem ok_subI (hx : f.ev x = some (In a)) (hy : f.ev y = some (In b)) (h0 : -9223372036854775808 ≤ a - b ∧ a - b ≤ 9223372036854775807) : OkP P f ⟨d, .binOp .sub t x y t2, ty, pos, af, g⟩ h (In (a - b)) := by
  have := ok_sub (P := P) (d := d) (ty := ty) (pos := pos) (af := af) (g := g) (h := h) (t := t) (t2 := t2) hx hy
  rwa [wrap_i64 _ h0.1 h0.2] at this
theorem ok_mulI (hx : f.ev x = some (In a)) (hy : f.ev y = some (In b)) (h0 : -9223372036854775808 ≤ a * b ∧ a * b ≤ 9223372036854775807) : OkP P f ⟨d, .binOp .mul t x y t2, ty, pos, af, g⟩ h (In (a * b)) := by
  have := ok_mul (P := P) (d := d) (ty := ty) (pos := pos) (af := af) (g := g) (h := h) (t := t) (t2 := t2) hx hy
  rwa [wrap_i64 _ h0.1 h0.2] at this
theorem ok_lss (hx : f.ev x = some (.int k a)) (hy : f.ev y = some (.int k b)) : OkP P f ⟨d, .binOp .lss t x y t2, ty, pos, af, g⟩ h (.bool (decide (a < b))) :=
  fun ρ w ha _ => by simp [execOp, ha _ _ hx, ha _ _ hy, eqGuard_lss, binOp_lss]
theorem ok_leq (hx : f.ev x = some (.int k a)) (hy : f.ev y = some (.int k b)) : OkP P f ⟨d, .binOp .leq t x y t2, ty, pos, af, g⟩ h (.bool (decide (a ≤ b))) :=
  fun ρ w ha _ => by simp [execOp, ha _ _ hx, ha _ _ hy, eqGuard_leq, binOp_leq]
theorem ok_gtr (hx : f.ev x = some (.int k a)) (hy : f.ev y = some (.int k b)) : OkP P f ⟨d, .binOp .gtr t x y t2, ty, pos, af, g⟩ h (.bool (decide (b < a))) :=
  fun ρ w ha _ => by simp [execOp, ha _ _ hx, ha _ _ hy, eqGuard_gtr, binOp_gtr]
theorem ok_geq (hx : f.ev x = some (.int k a)) (hy : f.ev y = some (.int k b)) : OkP P f ⟨d, .binOp .geq t x y t2, ty, pos, af, g⟩ h (.bool (decide (b ≤ a))) :=
  fun ρ w ha _ => by simp [execOp, ha _ _ hx, ha _ _ hy, eqGuard_geq, binOp_geq]
theorem ok_eql (hx : f.ev x = some (.int k a)) (hy : f.ev y = some (.int k b)) : OkP P f ⟨d, .binOp .eql t x y t2, ty, pos, af, g⟩ h (.bool (decide (a = b))) :=
  fun ρ w ha _ => by simp [execOp, ha _ _ hx, ha _ _ hy, binOp_eql, eqGuard_at_int, BEq.beq]
theorem ok_neq (hx : f.ev x = some (.int k a)) (hy : f.ev y = some (.int k b)) : OkP P f ⟨d, .binOp .neq t x y t2, ty, pos, af, g⟩ h (.bool (!decide (a = b))) :=
  fun ρ w ha _ => by simp [execOp, ha _ _ hx, ha _ _ hy, binOp_neq, eqGuard_at_int, bne, BEq.beq]

theorem OkP.bool_t {o : Oper} {p : Prop} [Decidable p] (hp : p) (ho : OkP P f o h (.bool (decide p))) : OkP P f o h (.bool true) := by rwa [decide_eq_true hp] at ho
theorem OkP.bool_f {o : Oper} {p : Prop} [Decidable p] (hp : ¬p) (ho : OkP P f o h (.bool (decide p))) : OkP P f o h (.bool false) := by rwa [decide_eq_false hp] at ho
theorem OkP.nbool_t {o : Oper} {p : Prop} [Decidable p] (hp : ¬p) (ho : OkP P f o h (.bool (!decide p))) : OkP P f o h (.bool true) := by rwa [decide_eq_false hp] at ho
theorem OkP.nbool_f {o : Oper} {p : Prop} [Decidable p] (hp : p) (ho : OkP P f o h (.bool (!decide p))) : OkP P f o h (.bool false) := by rwa [decide_eq_true hp] at ho
theorem OkP.as {o : Oper} {v v' : Value} (e : v = v') (ho : OkP P f o h v) : OkP P f o h v' := e ▸ ho
end ints

/-! ### bools -/
theorem ok_not {x : Operand} {t : TypeId} {b : Bool} (hx : f.ev x = some (.bool b)) : OkP P f ⟨d, .unOp .not t x, ty, pos, af, g⟩ h (.bool (!b)) :=
  fun ρ w ha _ => by simp [execOp, ha _ _ hx, Op.unary]
theorem ok_eqlB {x y : Operand} {t t2 : TypeId} {a b : Bool} (hu : P.underlying t = some .bool) (hx : f.ev x = some (.bool a)) (hy : f.ev y = some (.bool b)) : OkP P f ⟨d, .binOp .eql t x y t2, ty, pos, af, g⟩ h (.bool (decide (a = b))) :=
  fun ρ w ha _ => by simp [execOp, ha _ _ hx, ha _ _ hy, eqGuard_at_bool, run_eql_bool w t a b hu, BEq.beq]
theorem ok_neqB {x y : Operand} {t t2 : TypeId} {a b : Bool} (hu : P.underlying t = some .bool) (hx : f.ev x = some (.bool a)) (hy : f.ev y = some (.bool b)) : OkP P f ⟨d, .binOp .neq t x y t2, ty, pos, af, g⟩ h (.bool (!decide (a = b))) :=
  fun ρ w ha _ => by simp [execOp, ha _ _ hx, ha _ _ hy, eqGuard_at_bool, run_neq_bool w t a b hu, BEq.beq]

/-! ### texts -/
section strs
variable {t t2 : TypeId} {x y : Operand} {a b : List UInt8}
theorem beq_dec {α : Type} [BEq α] [LawfulBEq α] [DecidableEq α] (a b : α) : (a == b) = decide (a = b) := by
  by_cases e : a = b <;> simp [e]
theorem ok_eqlS (hx : f.ev x = some (St a)) (hy : f.ev y = some (St b)) : OkP P f ⟨d, .binOp .eql t x y t2, ty, pos, af, g⟩ h (.bool (decide (a = b))) :=
  fun ρ w ha _ => by simp [execOp, ha _ _ hx, ha _ _ hy, eqGuard_at_string, binOp, Op.stringOp, beq_dec]
theorem ok_neqS (hx : f.ev x = some (St a)) (hy : f.ev y = some (St b)) : OkP P f ⟨d, .binOp .neq t x y t2, ty, pos, af, g⟩ h (.bool (!decide (a = b))) :=
  fun ρ w ha _ => by simp [execOp, ha _ _ hx, ha _ _ hy, eqGuard_at_string, binOp, Op.stringOp, beq_dec]
theorem ok_catS (hx : f.ev x = some (St a)) (hy : f.ev y = some (St b)) (hl : a.length + b.length ≤ 9223372036854775807) : OkP P f ⟨d, .binOp .add t x y t2, ty, pos, af, g⟩ h (St (a ++ b)) :=
  fun ρ w ha _ => by
    have h1 : ¬ (((ByteArray.mk ⟨a⟩).size + (ByteArray.mk ⟨b⟩).size : Nat) : Int) > IntKind.i64.max := by
      rw [IntKind.max_i64]; show ¬ ((a.length + b.length : Nat) : Int) > _; omega
    simp only [execOp, ha _ _ hx, ha _ _ hy, eqGuard_at_string, binOp, Op.stringOp, if_neg h1, append_St, Sem.run_bind, Sem.run_pure, Result.andThen_ok]
theorem ok_lenS {x : Operand} {c : Array TypeId} (hc : c = #[t]) (hu : P.underlying t = some .string) (hx : f.ev x = some (St a)) :
    OkP P f ⟨d, .call { callee := .builtin .len, args := #[x], argTypes := c }, ty, pos, af, g⟩ h (In a.length) :=
  fun ρ w ha _ => by
    subst hc
    have : (ByteArray.mk ⟨a⟩).size = a.length := rfl
    simp [execOp, resolve, invoke, builtin, ha _ _ hx, Builtin.len_, run_underlying hu, goInt, this]
theorem ok_idxS {i : Int} {k : IntKind} {u : UInt8} (hu : P.underlying t = some .string) (hx : f.ev x = some (St a)) (hy : f.ev y = some (.int k i)) (h0 : 0 ≤ i) (hv : a[i.toNat]? = some u) :
    OkP P f ⟨d, .index t x y, ty, pos, af, g⟩ h (.int .u8 u.toNat) :=
  fun ρ w ha _ => by
    obtain ⟨hlt, hv2⟩ := List.getElem?_eq_some_iff.1 hv
    have hi : 0 ≤ i ∧ i < ((ByteArray.mk ⟨a⟩).size : Nat) := ⟨h0, by show i < (a.length : Nat); omega⟩
    have hb : (ByteArray.mk ⟨a⟩)[i.toNat]'(by omega) = u := hv2
    simp [execOp, ha _ _ hx, ha _ _ hy, run_index_string, hu, hi, hb]
end strs

/-! ### nil -/
theorem pointee_of {t e : TypeId} (hu : P.underlying t = some (.pointer e)) : P.underlying t = some (.pointer (P.pointee t)) := by
  have : P.pointee t = e := by unfold Program.pointee; rw [hu]
  rw [this]; exact hu
theorem ok_eqlPn {t t2 e : TypeId} {x y : Operand} {p : Option Addr} (hu : P.underlying t = some (.pointer e)) (hx : f.ev x = some (.pointer p)) (hy : f.ev y = some (.pointer Option.none)) :
    OkP P f ⟨d, .binOp .eql t x y t2, ty, pos, af, g⟩ h (.bool p.isNone) :=
  fun ρ w ha _ => by simp [execOp, ha _ _ hx, ha _ _ hy, eqGuard_at_pointer, run_eql_pointer_nil w t p (pointee_of hu)]
theorem ok_neqPn {t t2 e : TypeId} {x y : Operand} {p : Option Addr} (hu : P.underlying t = some (.pointer e)) (hx : f.ev x = some (.pointer p)) (hy : f.ev y = some (.pointer Option.none)) :
    OkP P f ⟨d, .binOp .neq t x y t2, ty, pos, af, g⟩ h (.bool p.isSome) :=
  fun ρ w ha _ => by cases p <;> simp [execOp, ha _ _ hx, ha _ _ hy, eqGuard_at_pointer, run_neq_pointer_nil w t _ (pointee_of hu)]
theorem ok_neqMn {t t2 k e : TypeId} {x y : Operand} {m : Option Nat} (hu : P.underlying t = some (.map k e)) (hx : f.ev x = some (.map m)) (hy : f.ev y = some (.map Option.none)) :
    OkP P f ⟨d, .binOp .neq t x y t2, ty, pos, af, g⟩ h (.bool m.isSome) :=
  fun ρ w ha _ => by cases m <;> simp [execOp, ha _ _ hx, ha _ _ hy, eqGuard_at_map, run_neq_map_nil w t k e _ hu]
theorem ok_eqlMn {t t2 k e : TypeId} {x y : Operand} {m : Option Nat} (hu : P.underlying t = some (.map k e)) (hx : f.ev x = some (.map m)) (hy : f.ev y = some (.map Option.none)) :
    OkP P f ⟨d, .binOp .eql t x y t2, ty, pos, af, g⟩ h (.bool m.isNone) :=
  fun ρ w ha _ => by simp [execOp, ha _ _ hx, ha _ _ hy, eqGuard_at_map, run_eql_map_nil w t k e m hu]
theorem ok_eqlSn {t t2 e : TypeId} {x y : Operand} {p : Option Addr} {l c : Nat} (hu : P.underlying t = some (.slice e)) (hx : f.ev x = some (.slice p l c)) (hy : f.ev y = some (.slice Option.none 0 0)) :
    OkP P f ⟨d, .binOp .eql t x y t2, ty, pos, af, g⟩ h (.bool p.isNone) :=
  fun ρ w ha _ => by simp [execOp, ha _ _ hx, ha _ _ hy, eqGuard_at_slice, Lib.run_eql_slice_nil w t e p l c 0 0 hu]
/-! ### slices -/
theorem ok_lenL {t e : TypeId} {x : Operand} {p : Option Addr} {l c : Nat} {ts : Array TypeId} (hc : ts = #[t]) (hu : P.underlying t = some (.slice e)) (hx : f.ev x = some (.slice p l c)) :
    OkP P f ⟨d, .call { callee := .builtin .len, args := #[x], argTypes := ts }, ty, pos, af, g⟩ h (In l) :=
  fun ρ w ha _ => by subst hc; simp [execOp, resolve, invoke, builtin, ha _ _ hx, Builtin.len_, run_underlying hu, goInt]
theorem ok_idxAddr {t e : TypeId} {x y : Operand} {b o l c sz : Nat} {k : IntKind} {i : Int} (hu : P.underlying t = some (.slice e)) (hz : ∀ w, (sizeOf e).run P w = .ok sz w)
    (hx : f.ev x = some (.slice (some ⟨b, o, Option.none⟩) l c)) (hy : f.ev y = some (.int k i)) (hi : 0 ≤ i ∧ i < l) :
    OkP P f ⟨d, .indexAddr t x y, ty, pos, af, g⟩ h (.pointer (some ⟨b, o + i.toNat * sz, Option.none⟩)) :=
  fun ρ w ha _ => by simp [execOp, ha _ _ hx, ha _ _ hy, Instr.indexAt, asIntOf, run_underlying hu, hi, hz, Addr.add_lit]
end
end Go.RK

/-
  HEAPS: WHAT IS READ, WRITTEN AND MADE, AND THE RULES OF THE OPERATIONS THAT DO IT. No program is named here.
-/
namespace Go.RK
open Go

def cell (h : Heap) (a : Addr) : Option Value :=
  match h[a.block]? with
  | some (.cells c _ _) => if a.spot.isSome then Option.none else c[a.off]?
  | _ => Option.none
theorem cell_eq (w : World) (a : Addr) : w.cell? a = cell w.heap a := rfl
/-- From cell o of block b on lie the values vs. -/
def At (h : Heap) (b o : Nat) (vs : List Value) : Prop := ∀ (j : Nat) (v : Value), vs[j]? = some v → cell h ⟨b, o + j, Option.none⟩ = some v
/-- Slice value v of n elements (sz cells each) reads as the cells xs. -/
def Rd (h : Heap) (v : Value) (sz n : Nat) (xs : List Value) : Prop :=
  ∃ A c, v = .slice A n c ∧ n ≤ c ∧ xs.length = n * sz ∧ (0 < n → ∃ b o, A = some ⟨b, o, Option.none⟩ ∧ b < h.size ∧ At h b o xs)
/-- Slice value v of n elements lies at the head of a row of its own, or is nil. -/
def Own (h : Heap) (v : Value) (e : TypeId) (sz n : Nat) (xs : List Value) : Prop :=
  xs.length = n * sz ∧ ((v = .slice Option.none 0 0 ∧ n = 0) ∨
    ∃ g cap cur, v = .slice (some ⟨g, 0, Option.none⟩) n cap ∧ h[g]? = some (.cells cur e (0, 0)) ∧ n ≤ cap ∧ cap ≤ maxLen ∧ cur.size = cap * sz ∧ cur.toList.take (n * sz) = xs)
/-- h' is h with new blocks, and what has turned are blocks of S. -/
structure Ext (S : Nat → Prop) (h h' : Heap) : Prop where
  size : h.size ≤ h'.size
  keep : ∀ b, b < h.size → ¬ S b → h'[b]? = h[b]?
abbrev No : Nat → Prop := fun _ => False
theorem nos {b : Nat} : ¬ No b := fun h => h

section
variable {h h' h'' : Heap} {S S' : Nat → Prop}
theorem Ext.refl (S : Nat → Prop) (h : Heap) : Ext S h h := ⟨Nat.le_refl _, fun _ _ _ => rfl⟩
theorem Ext.trans (a : Ext S h h') (b : Ext S h' h'') : Ext S h h'' :=
  ⟨Nat.le_trans a.size b.size, fun k hk hS => (b.keep k (Nat.lt_of_lt_of_le hk a.size) hS).trans (a.keep k hk hS)⟩
/-- What the second step turns are blocks of S, or were new to the first. -/
theorem Ext.trans' (a : Ext S h h') (b : Ext S' h' h'') (hs : ∀ k, k < h.size → S' k → S k) : Ext S h h'' :=
  ⟨Nat.le_trans a.size b.size, fun k hk hS => (b.keep k (Nat.lt_of_lt_of_le hk a.size) (fun e => hS (hs k hk e))).trans (a.keep k hk hS)⟩
theorem Ext.mono (a : Ext S h h') (hs : ∀ k, k < h.size → S k → S' k) : Ext S' h h' := ⟨a.size, fun k hk hS => a.keep k hk fun e => hS (hs k hk e)⟩
theorem lt_of_some {b : Nat} {o : Obj} (hb : h[b]? = some o) : b < h.size := by
  rcases Nat.lt_or_ge b h.size with hlt | hge
  · exact hlt
  · rw [Array.getElem?_eq_none hge] at hb; cases hb
theorem Ext.obj (a : Ext S h h') {b : Nat} {o : Obj} (hb : h[b]? = some o) (hS : ¬ S b) : h'[b]? = some o := (a.keep b (lt_of_some hb) hS).trans hb
theorem Ext.push (S : Nat → Prop) (h : Heap) (o : Obj) : Ext S h (h.push o) :=
  ⟨by simp, fun b hb _ => by rw [Array.getElem?_push, if_neg (by omega)]⟩
theorem Ext.set (h : Heap) (b : Nat) (o : Obj) (hS : S b) : Ext S h (h.setIfInBounds b o) :=
  ⟨by simp, fun k _ hk => by rw [Array.getElem?_setIfInBounds_ne]; rintro rfl; exact hk hS⟩
theorem push_new (h : Heap) (o : Obj) : (h.push o)[h.size]? = some o := by simp
theorem push_old {b : Nat} {o x : Obj} (hb : h[b]? = some x) : (h.push o)[b]? = some x := (Ext.push No h o).obj hb id
theorem set_new {b : Nat} {o x : Obj} (hb : h[b]? = some x) : (h.setIfInBounds b o)[b]? = some o := by
  have := lt_of_some hb
  simp [this]
theorem cell_of {b o : Nat} {cs : Array Value} {t : TypeId} {z : Nat × Nat} (hb : h[b]? = some (.cells cs t z)) : cell h ⟨b, o, Option.none⟩ = cs[o]? := by
  simp [cell, hb]
theorem cell_lt {a : Addr} {v : Value} (hc : cell h a = some v) : a.block < h.size := by
  unfold cell at hc
  cases e : h[a.block]? with
  | none => rw [e] at hc; cases hc
  | some o => exact lt_of_some e
theorem cell_keep {a : Addr} (e : h'[a.block]? = h[a.block]?) : cell h' a = cell h a := by simp [cell, e]
theorem Ext.cell (a : Ext S h h') {p : Addr} {v : Value} (hc : cell h p = some v) (hS : ¬ S p.block) : cell h' p = some v :=
  (cell_keep (a.keep _ (cell_lt hc) hS)).trans hc
theorem At.ext {b o : Nat} {vs : List Value} (h0 : At h b o vs) (a : Ext S h h') (hS : ¬ S b) : At h' b o vs := fun j v hj => a.cell (h0 j v hj) hS
theorem At.one {b o : Nat} {vs : List Value} (h0 : At h b o vs) {j : Nat} {v : Value} (hj : vs[j]? = some v) : cell h ⟨b, o + j, Option.none⟩ = some v := h0 j v hj
theorem At.drop {b o : Nat} {vs : List Value} (h0 : At h b o vs) (k : Nat) : At h b (o + k) (vs.drop k) := fun j v hj => by
  rw [List.getElem?_drop] at hj
  rw [Nat.add_assoc]
  exact h0 _ v hj
theorem At.take {b o : Nat} {vs : List Value} (h0 : At h b o vs) (k : Nat) : At h b o (vs.take k) := fun j v hj => by
  rw [List.getElem?_take] at hj
  split at hj
  · exact h0 j v hj
  · cases hj
theorem At.of_block {b : Nat} {cs : List Value} {t : TypeId} {z : Nat × Nat} (hb : h[b]? = some (.cells ⟨cs⟩ t z)) : At h b 0 cs := fun j v hj => by
  rw [Nat.zero_add, cell_of hb]; simpa using hj

theorem Rd.ext {v : Value} {sz n : Nat} {xs : List Value} (r : Rd h v sz n xs) (a : Ext S h h') (hS : ∀ b, v.ownBlock = some b → ¬ S b) : Rd h' v sz n xs := by
  obtain ⟨A, c, rfl, hc, hl, hp⟩ := r
  refine ⟨A, c, rfl, hc, hl, fun hn => ?_⟩
  obtain ⟨b, o, rfl, hb, hat⟩ := hp hn
  exact ⟨b, o, rfl, Nat.lt_of_lt_of_le hb a.size, hat.ext a (hS b rfl)⟩
theorem Rd.ext0 {v : Value} {sz n : Nat} {xs : List Value} (r : Rd h v sz n xs) (a : Ext No h h') : Rd h' v sz n xs := r.ext a (fun _ _ => id)
theorem Rd.nil (h : Heap) (sz : Nat) : Rd h (.slice Option.none 0 0) sz 0 [] := ⟨_, _, rfl, Nat.le_refl _, by simp, fun h => absurd h (by omega)⟩
theorem Own.nil (h : Heap) (e : TypeId) (sz : Nat) : Own h (.slice Option.none 0 0) e sz 0 [] := ⟨by simp, .inl ⟨rfl, rfl⟩⟩
theorem Own.rd {v : Value} {e : TypeId} {sz n : Nat} {xs : List Value} (r : Own h v e sz n xs) : Rd h v sz n xs := by
  obtain ⟨hl, ⟨rfl, rfl⟩ | ⟨g, cap, cur, rfl, hg, hn, hm, hs, ht⟩⟩ := r
  · obtain rfl : xs = [] := List.eq_nil_of_length_eq_zero (by simpa using hl)
    exact Rd.nil h sz
  · refine ⟨_, _, rfl, hn, hl, fun _ => ⟨g, 0, rfl, lt_of_some hg, fun j v hj => ?_⟩⟩
    rw [Nat.zero_add, cell_of hg]
    rw [← ht, List.getElem?_take] at hj
    split at hj
    · simpa using hj
    · cases hj
theorem Own.ext {v : Value} {e : TypeId} {sz n : Nat} {xs : List Value} (r : Own h v e sz n xs) (a : Ext S h h') (hS : ∀ b, v.ownBlock = some b → ¬ S b) : Own h' v e sz n xs := by
  obtain ⟨hl, ⟨rfl, rfl⟩ | ⟨g, cap, cur, rfl, hg, hn, hm, hs, ht⟩⟩ := r
  · exact ⟨hl, .inl ⟨rfl, rfl⟩⟩
  · exact ⟨hl, .inr ⟨g, cap, cur, rfl, a.obj hg (hS g rfl), hn, hm, hs, ht⟩⟩
theorem Own.len {v : Value} {e : TypeId} {sz n : Nat} {xs : List Value} (r : Own h v e sz n xs) : xs.length = n * sz := r.1
theorem Own.slice {v : Value} {e : TypeId} {sz n : Nat} {xs : List Value} (r : Own h v e sz n xs) : ∃ A c, v = .slice A n c ∧ n ≤ c := by
  obtain ⟨hl, ⟨rfl, rfl⟩ | ⟨g, cap, cur, rfl, hg, hn, hm, hs, ht⟩⟩ := r
  · exact ⟨_, _, rfl, Nat.le_refl _⟩
  · exact ⟨_, _, rfl, hn⟩
end

/-! ### The steps of a region -/
section
variable {P : Program} {n : Env} {Q : Post} {f : Fr} {h : Heap} {l0 rest : List Oper}

theorem OkP.ok {o : Oper} {v : Value} (ho : OkP P f o h v) : Ok P f o h v h := fun ρ w ha hw => ⟨w, .refl w, hw, .inl (ho ρ w ha hw)⟩

theorem toAct_mono {w w' : World} (hs : Same w w') : ∀ (l : List Oper) (a : Act) (w'' : World), wpList P l0.toArray (toAct n Q w') l a w'' → wpList P l0.toArray (toAct n Q w) l a w'' := by
  have upon_mono : ∀ (o : Oper) (a : Act) (K K' : Act → World → Prop) (r : Result Next), (∀ a w, K a w → K' a w) → o.upon P a K (toAct n Q w') r → o.upon P a K' (toAct n Q w) r := by
    intro o a K K' r hKK hu
    cases r with
    | ok x w2 =>
      cases x <;> simp only [Oper.upon] at hu ⊢ <;> first | exact hKK _ _ hu | exact hu | skip
      · refine hu.mono fun e w3 he => ?_
        cases e with
        | returned v => exact hKK _ _ he
        | panicked c => exact he.trans hs
        | outgrown => obtain ⟨a0, w0, q⟩ := he; exact ⟨a0, w0, q.trans hs⟩
      · exact hu.mono fun v w3 he => hKK _ _ he
    | halt x w2 => cases x <;> simp only [Oper.upon] at hu ⊢ <;> first | exact hu.trans hs | exact hu
  intro l
  induction l with
  | nil => intro a w'' q; exact toAct.trans hs q
  | cons o' l ih =>
    intro a w'' q
    unfold wpList at q ⊢
    split
    · rename_i hw'
      rw [if_pos hw'] at q
      rcases q with q | ⟨q1, a0, w0, q2⟩
      · exact .inl (upon_mono _ _ _ _ _ ih q)
      · exact .inr ⟨q1, a0, w0, q2.trans hs⟩
    · rename_i hw'
      rw [if_neg hw'] at q
      exact ih _ _ q

/-- What a guard is. -/
def gval (f : Fr) (l0 : List Oper) (j : Nat) : Option Bool :=
  match (l0[j]?).bind (·.dst) with
  | some t => match f.get t with
    | some (.bool b) => some b
    | _ => Option.none
  | Option.none => Option.none
theorem gval_yielded {a : Act} (ha : Rep n a f) {j : Nat} {b : Bool} (hb : gval f l0 j = some b) : yielded l0.toArray a.tmps j = some b := by
  unfold gval at hb
  unfold yielded
  simp only [List.getElem?_toArray]
  cases e : (l0[j]?).bind (·.dst) with
  | none => rw [e] at hb; cases hb
  | some t =>
    rw [e] at hb
    cases e2 : f.get t with
    | none => simp [e2] at hb
    | some v =>
      have := ha.at_ t v e2
      cases v <;> simp [e2] at hb
      subst hb
      simp [this]
/-- May operation o be carried out at this frame? -/
def goes (f : Fr) (l0 : List Oper) (o : Oper) : Bool :=
  match o.guard with
  | Option.none => true
  | some (j, b) => match gval f l0 j with
    | some c => c == b
    | Option.none => false
/-- What a guard is that was not carried out itself. -/
def gund (f : Fr) (l0 : List Oper) (j : Nat) : Bool :=
  match (l0[j]?).bind (·.dst) with
  | some t => match f.get t with
    | some (.tuple ⟨[]⟩) => true
    | _ => false
  | Option.none => false
theorem gund_yielded {a : Act} (ha : Rep n a f) {j : Nat} (hb : gund f l0 j = true) : yielded l0.toArray a.tmps j = Option.none := by
  unfold gund at hb
  unfold yielded
  simp only [List.getElem?_toArray]
  cases e : (l0[j]?).bind (·.dst) with
  | none => rfl
  | some t =>
    rw [e] at hb
    simp only at hb
    split at hb
    · rename_i e2
      have := ha.at_ t _ e2
      simp [this]
    · cases hb
def stops (f : Fr) (l0 : List Oper) (o : Oper) : Bool :=
  match o.guard with
  | Option.none => false
  | some (j, b) => match gval f l0 j with
    | some c => c != b
    | Option.none => gund f l0 j
theorem goes_wanted {a : Act} (ha : Rep n a f) {o : Oper} (hg : goes f l0 o = true) : Region.wanted o (yielded l0.toArray a.tmps) = true := by
  unfold goes at hg
  unfold Region.wanted
  cases e : o.guard with
  | none => rfl
  | some p =>
    obtain ⟨j, b⟩ := p
    rw [e] at hg
    simp only at hg ⊢
    cases e2 : gval f l0 j with
    | none => simp [e2] at hg
    | some c =>
      rw [gval_yielded ha e2]
      simp [e2] at hg
      simp [hg]
theorem stops_wanted {a : Act} (ha : Rep n a f) {o : Oper} (hg : stops f l0 o = true) : Region.wanted o (yielded l0.toArray a.tmps) = false := by
  unfold stops at hg
  unfold Region.wanted
  cases e : o.guard with
  | none => rw [e] at hg; cases hg
  | some p =>
    obtain ⟨j, b⟩ := p
    rw [e] at hg
    simp only at hg ⊢
    cases e2 : gval f l0 j with
    | none =>
      rw [e2] at hg
      simp only at hg
      rw [gund_yielded ha hg]
      rfl
    | some c =>
      rw [gval_yielded ha e2]
      simp [e2] at hg
      simp [hg]

theorem WL.run {o : Oper} {R : Value → Heap → Prop} (hok : OkR P f o h R) (hg : goes f l0 o = true)
    (hk : ∀ v h' a w, R v h' → Rep n a f → w.heap = h' → wpList P l0.toArray (toAct n Q w) rest (a.put o.dst v) w) : WL P n l0 (o :: rest) Q f h := by
  intro a w ha hw
  refine wpList_step fun K hK => ?_
  rw [if_pos (goes_wanted ha hg)]
  obtain ⟨v, w', hs, hR, hrun⟩ := hok a.eval w ha.agrees hw
  unfold Oper.wp
  have hk' := toAct_mono hs _ _ _ (hk v w'.heap a w' hR ha rfl)
  rcases hrun with hrun | ⟨hrun, rfl⟩ <;> rw [hrun] <;> simp only [Oper.upon] <;> exact hK _ _ hk'
theorem OkP.r {o : Oper} {v : Value} (ho : OkP P f o h v) : OkR P f o h (fun v' h' => v' = v ∧ h' = h) := fun ρ w ha hw => ⟨v, w, .refl w, ⟨rfl, hw⟩, .inl (ho ρ w ha hw)⟩
/-- One operation that only computes or reads. -/
theorem WL.step {o : Oper} {v : Value} {t : Nat} (hok : OkP P f o h v) (hg : goes f l0 o = true) (hd : o.dst = some t) (ht : Nat.blt t n.n = true) (hk : WL P n l0 rest Q ((t, v) :: f) h) : WL P n l0 (o :: rest) Q f h :=
  .run hok.r hg (by rintro v h' a w ⟨rfl, rfl⟩ ha hw; rw [hd]; exact hk _ w (ha.put ht _) hw)
/-- One that yields a value and may turn the heap. -/
theorem WL.stepR {o : Oper} {R : Value → Heap → Prop} {t : Nat} (hok : OkR P f o h R) (hg : goes f l0 o = true) (hd : o.dst = some t) (ht : Nat.blt t n.n = true) (hk : ∀ v h', R v h' → WL P n l0 rest Q ((t, v) :: f) h') : WL P n l0 (o :: rest) Q f h :=
  .run hok hg (by rintro v h' a w hR ha hw; rw [hd]; exact hk v h' hR _ w (ha.put ht _) hw)
theorem WL.stepR0 {o : Oper} {R : Value → Heap → Prop} (hok : OkR P f o h R) (hg : goes f l0 o = true) (hd : o.dst = Option.none) (hk : ∀ v h', R v h' → WL P n l0 rest Q f h') : WL P n l0 (o :: rest) Q f h :=
  .run hok hg (by rintro v h' a w hR ha hw; rw [hd]; exact hk v h' hR _ w ha hw)
theorem WL.pass {o : Oper} {t : Nat} (hg : stops f l0 o = true) (hd : o.dst = some t) (ht : Nat.blt t n.n = true) (hk : WL P n l0 rest Q ((t, undef) :: f) h) : WL P n l0 (o :: rest) Q f h := by
  intro a w ha hw
  refine wpList_step fun K hK => ?_
  rw [if_neg (by rw [stops_wanted ha hg]; exact Bool.false_ne_true), hd]
  exact hK _ _ (hk _ w (ha.put ht _) hw)
/-- The way parts at a Bool that a slot holds. -/
theorem WL.part {l : List Oper} (t : Nat) {b : Bool} (hb : f.get t = some (.bool b)) (h1 : b = true → WL P n l0 l Q ((t, .bool true) :: f) h) (h2 : b = false → WL P n l0 l Q ((t, .bool false) :: f) h) : WL P n l0 l Q f h := by
  cases b
  · exact fun a w ha hw => h2 rfl a w (ha.sub_set hb) hw
  · exact fun a w ha hw => h1 rfl a w (ha.sub_set hb) hw
theorem WL.sub {l : List Oper} (g : Fr) (hs : SubL g f) (hc : WL P n l0 l Q g h) : WL P n l0 l Q f h := fun a w ha hw => hc a w (ha.sub hs) hw

/-- A call of a function by its contract. -/
theorem WL.call {o : Oper} {t : Nat} {k : FuncId} {xs : List Operand} {vs : List Value} {ts : Array TypeId} {R : Value → Heap → Prop} (ho : o.op = .call { callee := .value (.func k), args := ⟨xs⟩, argTypes := ts })
    (hc : ∀ (args : Array Value) (w : World), (callFunc k args).run P w = .ok (.enter k args) w)
    (hx : xs.map f.ev = vs.map some) (hR : CallsH P k ⟨vs⟩ h R) (hg : goes f l0 o = true) (hd : o.dst = some t) (ht : Nat.blt t n.n = true) (hk : ∀ v h', R v h' → WL P n l0 rest Q ((t, v) :: f) h') : WL P n l0 (o :: rest) Q f h := by
  intro a w ha hw
  refine wpList_step fun K hK => ?_
  rw [if_pos (goes_wanted ha hg)]
  have hargs : xs.map a.eval = vs := by
    clear ho hR
    induction xs generalizing vs with
    | nil => cases vs <;> simp_all
    | cons x xs ih =>
      cases vs with
      | nil => simp at hx
      | cons v vs =>
        simp only [List.map_cons, List.cons.injEq] at hx ⊢
        exact ⟨ha.agrees _ _ hx.1, ih hx.2⟩
  unfold Oper.wp
  have hrun : (execOp a.eval o).run P w = .ok (.enter k ⟨vs⟩) w := by
    have e2 : Array.map a.eval ⟨xs⟩ = ⟨vs⟩ := by rw [← hargs]; simp
    simp [execOp, ho, resolve, Deferred.ofValue, invoke, Act.eval, e2, hc]
  rw [hrun]
  simp only [Oper.upon]
  refine (hR w hw).mono fun e w' ⟨hs, v, he, hv⟩ => ?_
  subst he
  rw [hd]
  exact hK _ _ (toAct_mono hs _ _ _ (hk v _ hv _ w' (ha.put ht _) rfl))
end
end Go.RK

/-
  MEMORY: THE RULES OF THE OPERATIONS THAT READ, WRITE AND MAKE IT; ENTRY AND RETURN; REGIONS THAT DRAW. No program is named here.
-/
namespace Go.RK
open Go

section
variable {P : Program} {f : Fr} {h : Heap} {d : Option Tmp} {ty : TypeId} {pos : String} {af : Array Edge} {g : Option (Nat × Bool)}

/-! ### loads -/
theorem ok_load {t : TypeId} {x : Operand} {b o : Nat} {v : Value} (ht : ∀ w, (isAgg t).run P w = .ok false w) (hx : f.ev x = some (.pointer (some ⟨b, o, Option.none⟩))) (hc : cell h ⟨b, o, Option.none⟩ = some v) :
    OkP P f ⟨d, .load t x, ty, pos, af, g⟩ h v :=
  fun ρ w ha hw => by
    subst hw
    have h1 : w.cell? ⟨b, o, Option.none⟩ = some v := hc
    simp [execOp, ha _ _ hx, Instr.loadAt, Instr.sureAddr, loadVar, ht, h1]
theorem ok_loadN {t : TypeId} {x : Operand} {b o k : Nat} {vs : List Value} (ht : ∀ w, (isAgg t).run P w = .ok true w) (hz : ∀ w, (sizeOf t).run P w = .ok k w) (hx : f.ev x = some (.pointer (some ⟨b, o, Option.none⟩))) (hk : vs.length = k) (hc : At h b o vs) :
    OkP P f ⟨d, .load t x, ty, pos, af, g⟩ h (.agg ⟨vs⟩) :=
  fun ρ w ha hw => by
    subst hw
    subst hk
    have h1 : (loadCells ⟨b, o, Option.none⟩ vs.length).run P w = .ok vs.toArray w := run_loadCells_list w _ vs fun j v hj => by rw [Addr.add_lit]; exact hc j v hj
    simp [execOp, ha _ _ hx, Instr.loadAt, Instr.sureAddr, loadVar, ht, hz, h1]

/-! ### stores -/
theorem run_store_block {w : World} {b o : Nat} {cs : Array Value} {e : TypeId} {v : Value} (hb : w.heap[b]? = some (.cells cs e (0, 0))) (ho : o < cs.size) (hv : v.oneCell' = true) :
    ∃ w', (store ⟨b, o, Option.none⟩ v).run P w = .ok () w' ∧ Same w w' ∧ w'.heap = w.heap.setIfInBounds b (.cells (cs.setIfInBounds o v) e (0, 0)) := by
  refine ⟨w.setCell ⟨b, o, Option.none⟩ v, ?_, ⟨rfl, rfl, rfl, trivial⟩, ?_⟩
  · rw [run_store P w _ _ _ hv]
    have h1 : w.cell? ⟨b, o, Option.none⟩ = some cs[o] := by simp [World.cell?, hb, ho]
    have h2 : w.frozen? ⟨b, o, Option.none⟩ = false := by simp [World.frozen?, hb]
    simp [h1, h2]
  · obtain ⟨hlt, hv⟩ := Array.getElem?_eq_some_iff.1 hb
    apply Array.ext_getElem?
    intro i
    simp only [World.setCell, Array.getElem?_modify]
    by_cases e1 : b = i
    · subst e1; simp [hlt, hv]
    · simp [e1, Array.getElem?_setIfInBounds_ne e1]
/-- A store of one cell into a block that is known. -/
theorem ok_store {t : TypeId} {x y : Operand} {b o : Nat} {cs : List Value} {e : TypeId} {v : Value} (hz : ∀ w, (sizeOf t).run P w = .ok 1 w) (hx : f.ev x = some (.pointer (some ⟨b, o, Option.none⟩))) (hy : f.ev y = some v)
    (hb : h[b]? = some (.cells ⟨cs⟩ e (0, 0))) (ho : o < cs.length) (hv : v.oneCell' = true) (hv1 : v.cells = #[v]) :
    OkR P f ⟨d, .store t x y, ty, pos, af, g⟩ h (fun u h' => u = undef ∧ h' = h.setIfInBounds b (.cells ⟨cs.set o v⟩ e (0, 0))) :=
  fun ρ w ha hw => by
    subst hw
    obtain ⟨w', hr, hs, hh⟩ := run_store_block (P := P) hb (by simpa using ho) hv
    refine ⟨undef, w', hs, ⟨rfl, by rw [hh]; simp⟩, .inr ⟨?_, rfl⟩⟩
    simp [execOp, ha _ _ hx, ha _ _ hy, Instr.storeAt, Instr.sureAddr, storeVar, hz, hv1, storeCells, Addr.add_zero', hr]

theorem run_storeCells_block (b : Nat) (e : TypeId) : ∀ (vs : List Value) (i o : Nat) (cs : List Value) (w : World), w.heap[b]? = some (.cells ⟨cs⟩ e (0, 0)) → o + i + vs.length ≤ cs.length → (∀ v ∈ vs, v.oneCell' = true) →
    ∃ w', (storeCells ⟨b, o, Option.none⟩ vs i).run P w = .ok () w' ∧ Same w w' ∧ w'.heap = w.heap.setIfInBounds b (.cells ⟨cs.take (o + i) ++ vs ++ cs.drop (o + i + vs.length)⟩ e (0, 0))
  | [], i, o, cs, w, hb, hl, _ => by
    refine ⟨w, by simp [storeCells], .refl w, ?_⟩
    obtain ⟨hlt, hv⟩ := Array.getElem?_eq_some_iff.1 hb
    apply Array.ext_getElem?
    intro j
    by_cases e1 : b = j
    · subst e1; simp [hlt, hv]
    · simp [Array.getElem?_setIfInBounds_ne e1]
  | v :: vs, i, o, cs, w, hb, hl, hv => by
    simp only [List.length_cons] at hl
    obtain ⟨w1, hr, hs, hh⟩ := run_store_block (P := P) (w := w) (b := b) (o := o + i) (cs := ⟨cs⟩) (v := v) hb (by simp; omega) (hv v (by simp))
    have hb1 : w1.heap[b]? = some (.cells ⟨cs.set (o + i) v⟩ e (0, 0)) := by rw [hh, set_new hb]; simp
    obtain ⟨w2, hr2, hs2, hh2⟩ := run_storeCells_block b e vs (i + 1) o (cs.set (o + i) v) w1 hb1 (by rw [List.length_set]; omega) (fun u hu => hv u (by simp [hu]))
    refine ⟨w2, ?_, hs.trans hs2, ?_⟩
    · simp only [storeCells, Addr.add_lit, Sem.run_bind, hr, Result.andThen_ok]
      exact hr2
    · rw [hh2, hh]
      have hlt := lt_of_some hb
      apply Array.ext_getElem?
      intro j
      by_cases e1 : b = j
      · subst e1
        simp only [Array.getElem?_setIfInBounds_self, Array.size_setIfInBounds, hlt, if_true]
        congr 3
        have e3 : o + (i + 1) = o + i + 1 := by omega
        have e4 : o + i + 1 + vs.length = o + i + (vs.length + 1) := by omega
        rw [e3, List.length_cons, List.take_set, List.drop_set_of_lt (by omega), e4]
        have : List.take (o + i + 1) cs = List.take (o + i) cs ++ [cs[o + i]'(by omega)] := by rw [List.take_succ_eq_append_getElem (by omega)]
        rw [this, List.set_append_right _ _ (by simp; omega)]
        simp only [List.length_take]
        have e5 : o + i - min (o + i) cs.length = 0 := by omega
        simp [e5]
      · simp [Array.getElem?_setIfInBounds_ne e1]
theorem ok_storeN {t : TypeId} {x y : Operand} {b o k : Nat} {cs vs : List Value} {e : TypeId} (hz : ∀ w, (sizeOf t).run P w = .ok k w) (hx : f.ev x = some (.pointer (some ⟨b, o, Option.none⟩))) (hy : f.ev y = some (.agg ⟨vs⟩))
    (hk : vs.length = k) (hb : h[b]? = some (.cells ⟨cs⟩ e (0, 0))) (ho : o + vs.length ≤ cs.length) (hv : ∀ v ∈ vs, v.oneCell' = true) :
    OkR P f ⟨d, .store t x y, ty, pos, af, g⟩ h (fun u h' => u = undef ∧ h' = h.setIfInBounds b (.cells ⟨cs.take o ++ vs ++ cs.drop (o + vs.length)⟩ e (0, 0))) :=
  fun ρ w ha hw => by
    subst hw
    obtain ⟨w', hr, hs, hh⟩ := run_storeCells_block (P := P) b e vs 0 o cs w hb (by omega) hv
    refine ⟨undef, w', hs, ⟨rfl, by rw [hh]; simp⟩, .inr ⟨?_, rfl⟩⟩
    have hc : (Value.agg ⟨vs⟩).cells = ⟨vs⟩ := rfl
    simp [execOp, ha _ _ hx, ha _ _ hy, Instr.storeAt, Instr.sureAddr, storeVar, hz, hc, hk, hr]

/-! ### new blocks -/
theorem ok_alloc {t : TypeId} {z : Value} (hz : ∀ w, (zeroValue t).run P w = .ok z w) :
    OkR P f ⟨d, .alloc t, ty, pos, af, g⟩ h (fun u h' => u = .pointer (some ⟨h.size, 0, Option.none⟩) ∧ h' = h.push (.cells z.cells t (0, 0))) :=
  fun ρ w _ hw => by
    subst hw
    refine ⟨_, w.alloc (.cells z.cells t (0, 0)), ⟨rfl, rfl, rfl, trivial⟩, ⟨rfl, rfl⟩, .inl ?_⟩
    simp [execOp, Instr.alloc, hz, newVar, newRow, newObj, Sem.run]
theorem ok_box {t : TypeId} {x : Operand} {v : Value} (hx : f.ev x = some v) :
    OkR P f ⟨d, .box t x, ty, pos, af, g⟩ h (fun u h' => u = .pointer (some ⟨h.size, 0, Option.none⟩) ∧ h' = h.push (.cells v.cells t (0, 0))) :=
  fun ρ w ha hw => by
    subst hw
    refine ⟨_, w.alloc (.cells v.cells t (0, 0)), ⟨rfl, rfl, rfl, trivial⟩, ⟨rfl, rfl⟩, .inl ?_⟩
    simp [execOp, ha _ _ hx, Instr.box, newVar, newRow, newObj, Sem.run]
/-- A struct or an array out of its parts: the parts' values; what comes of it is reckoned off the program's table. -/
theorem ok_build {t : TypeId} {ps : List (Nat × Operand)} {qs : List (Nat × Value)} {cs : List Value} (hp : ps.map (fun p => (p.1, f.ev p.2)) = qs.map fun q => (q.1, some q.2)) (hb : P.built t qs = some ⟨cs⟩) :
    OkP P f ⟨d, .build t ⟨ps⟩, ty, pos, af, g⟩ h (.agg ⟨cs⟩) :=
  fun ρ w ha _ => by
    have e : ps.map (fun p => (p.1, ρ p.2)) = qs := by
      clear hb
      induction ps generalizing qs with
      | nil => cases qs <;> simp_all
      | cons p ps ih =>
        cases qs with
        | nil => simp at hp
        | cons q qs =>
          simp only [List.map_cons, List.cons.injEq, Prod.mk.injEq] at hp ⊢
          refine ⟨?_, ih hp.2⟩
          rw [hp.1.1, ha _ _ hp.1.2]
    have e2 : (Array.map (fun x : Nat × Operand => (x.fst, ρ x.snd)) ⟨ps⟩) = ⟨qs⟩ := by rw [← e]; simp
    have := run_build (P := P) w t ⟨qs⟩ ⟨cs⟩ hb
    simp [execOp, e2, this]
theorem ok_makeMap {t : TypeId} :
    OkR P f ⟨d, .makeMap t Option.none, ty, pos, af, g⟩ h (fun u h' => u = .map (some h.size) ∧ h' = h.push (.map #[] 0)) :=
  fun ρ w _ hw => by
    subst hw
    refine ⟨_, w.alloc (.map #[] 0), ⟨rfl, rfl, rfl, trivial⟩, ⟨rfl, rfl⟩, .inl ?_⟩
    simp [execOp, Instr.makeMap, newObj, Sem.run]
theorem ok_makeFunc {fn : Fn} {xs ys : List Operand} {vs us : List Value} (hx : xs.map f.ev = vs.map some) (hy : ys.map f.ev = us.map some) :
    OkP P f ⟨d, .makeFunc fn ⟨xs⟩ ⟨ys⟩, ty, pos, af, g⟩ h (.func fn ⟨vs⟩ ⟨us⟩) :=
  fun ρ w ha _ => by
    have key : ∀ (xs : List Operand) (vs : List Value), xs.map f.ev = vs.map some → xs.map ρ = vs := by
      intro xs
      induction xs with
      | nil => intro vs hv; cases vs <;> simp_all
      | cons x xs ih =>
        intro vs hv
        cases vs with
        | nil => simp at hv
        | cons v vs =>
          simp only [List.map_cons, List.cons.injEq] at hv ⊢
          exact ⟨ha _ _ hv.1, ih _ hv.2⟩
    have e1 : Array.map ρ ⟨xs⟩ = ⟨vs⟩ := by rw [← key xs vs hx]; simp
    have e2 : Array.map ρ ⟨ys⟩ = ⟨us⟩ := by rw [← key ys us hy]; simp
    simp [execOp, e1, e2, Instr.makeFunc]

/-! ### append onto a row of one's own -/
theorem Own.up {v : Value} {e : TypeId} {sz n : Nat} {xs : List Value} {w : World} (r : Own w.heap v e sz n xs) : w.ownsRow 0 e sz v n xs := by
  obtain ⟨hl, r | ⟨g, cap, cur, rfl, hg, r⟩⟩ := r
  · exact ⟨hl, .inl r⟩
  · exact ⟨hl, .inr ⟨g, cap, cur, rfl, Nat.zero_le _, hg, r⟩⟩
theorem Own.down {v : Value} {e : TypeId} {sz n : Nat} {xs : List Value} {w : World} (r : w.ownsRow 0 e sz v n xs) : Own w.heap v e sz n xs := by
  obtain ⟨hl, r | ⟨g, cap, cur, rfl, _, hg, r⟩⟩ := r
  · exact ⟨hl, .inl r⟩
  · exact ⟨hl, .inr ⟨g, cap, cur, rfl, hg, r⟩⟩

/-- append(s, x...): s nil or at the head of a row of its own; x reads as news. -/
theorem ok_append {x y : Operand} {t e : TypeId} {i : TypeInfo} {z : Value} {sz bytes : Nat} {ts : Array TypeId} (hts : ts = #[t, t]) (ht : P.underlying t = some (.slice e)) (hi : P.info? e = some i) (hz : i.zero = some z) (hsz : i.size = sz) (hby : i.bytes = bytes) (hzs : z.cells.size = sz) (hpos : 0 < sz)
    {v u : Value} {n m : Nat} {xs news : List Value} (hx : f.ev x = some v) (hy : f.ev y = some u) (hown : Own h v e sz n xs) (hrd : Rd h u sz m news) (h1 : ∀ c ∈ news, c.oneCell' = true)
    (h63 : n + m ≤ maxLen) (hb : (n + m) * bytes ≤ 140737488355328) :
    OkR P f ⟨d, .call { callee := .builtin .append, args := #[x, y], argTypes := ts }, ty, pos, af, g⟩ h
      (fun v' h' => Own h' v' e sz (n + m) (xs ++ news) ∧ Ext (fun k => v.ownBlock = some k) h h' ∧ (v'.ownBlock = v.ownBlock ∨ v'.ownBlock = some h.size)) :=
  fun ρ w ha hw => by
    subst hw
    subst hts
    obtain ⟨A, c, rfl, hc, hl, hp⟩ := hrd
    rcases A with _ | a
    · have hm : m = 0 := by
        rcases Nat.eq_zero_or_pos m with e | e
        · exact e
        · obtain ⟨b, o, e, _⟩ := hp e; cases e
      subst hm
      obtain rfl : news = [] := List.eq_nil_of_length_eq_zero (by simpa using hl)
      refine ⟨v, w, .refl w, ⟨by simpa using hown, .refl _ _, .inl rfl⟩, .inl ?_⟩
      obtain ⟨hl2, ⟨rfl, rfl⟩ | ⟨g, cap, cur, rfl, hg, hn, r⟩⟩ := hown
      · simp [execOp, resolve, invoke, builtin, ha _ _ hx, ha _ _ hy, Builtin.append_, run_underlying ht, sizeOf, typeInfo, hi, Builtin.lenOf, Builtin.firstCells]
      · simp [execOp, resolve, invoke, builtin, ha _ _ hx, ha _ _ hy, Builtin.append_, run_underlying ht, sizeOf, typeInfo, hi, Builtin.lenOf, Builtin.firstCells, hn, storeCells]
    · have hnews : ∀ j u, news[j]? = some u → w.cell? (a.add j) = some u := by
        intro j u hj
        have hm : 0 < m := by
          rcases Nat.eq_zero_or_pos m with e | e
          · subst e
            have : news = [] := List.eq_nil_of_length_eq_zero (by simpa using hl)
            subst this
            simp at hj
          · exact e
        obtain ⟨b, o, e, _, hat⟩ := hp hm
        injection e with e
        subst e
        rw [Addr.add_lit]
        exact hat j u hj
      obtain ⟨v', w', hrun, ho', hgr, _, hloc⟩ := run_append_own_at (P := P) w 0 t ty e i z sz bytes ht hi hz hsz hby hzs hpos v n xs hown.up a m c news hl hnews h1 h63 hb (Nat.zero_le _)
      refine ⟨v', w', ⟨hgr.tape, hgr.os, hgr.output, trivial⟩, ⟨.down ho', ⟨hgr.size, fun k hk hS => hgr.block k hk (fun e => hS e.symm)⟩, hloc⟩, .inl ?_⟩
      simp [execOp, resolve, invoke, builtin, ha _ _ hx, ha _ _ hy, hrun]

/-! ### a slice, cut -/
theorem sliced_Rd {v : Value} {sz n : Nat} {xs : List Value} (r : Rd h v sz n xs) {l k : Nat} (hl : l ≤ k) (hk : k ≤ n) :
    ∃ A c, v = .slice A n c ∧ Rd h (.slice (if c = l then A else A.map (·.add (l * sz))) (k - l) (c - l)) sz (k - l) ((xs.drop (l * sz)).take ((k - l) * sz)) := by
  obtain ⟨A, c, rfl, hc, hlen, hp⟩ := r
  refine ⟨A, c, rfl, _, _, rfl, by omega, ?_, fun hn => ?_⟩
  · rw [List.length_take, List.length_drop, hlen, ← Nat.sub_mul]
    exact Nat.min_eq_left (Nat.mul_le_mul_right _ (by omega))
  · obtain ⟨b, o, rfl, hb, hat⟩ := hp (by omega)
    refine ⟨b, o + l * sz, ?_, hb, (hat.drop _).take _⟩
    rw [if_neg (by omega)]
    simp [Addr.add_lit]
theorem ok_slice_l {t e : TypeId} {x lo : Operand} {A : Option Addr} {n c sz : Nat} {l : Int} (ht : P.underlying t = some (.slice e)) (hz : ∀ w, (sizeOf e).run P w = .ok sz w) (hx : f.ev x = some (.slice A n c)) (hlo : f.ev lo = some (In l)) (h0 : 0 ≤ l ∧ l ≤ n) :
    OkP P f ⟨d, .slice t x (some lo) Option.none Option.none, ty, pos, af, g⟩ h (.slice (if c = l.toNat then A else A.map (·.add (l.toNat * sz))) (n - l.toNat) (c - l.toNat)) :=
  fun ρ w ha _ => by
    simp [execOp, ha _ _ hx, ha _ _ hlo, Instr.sliceAt, Instr.slice, run_underlying ht, Instr.sliceBounds, Instr.sliceBound, asIntOf, h0, hz]
end
end Go.RK

/-
  ENTRY AND RETURN; REGIONS THAT DRAW THEIR ORDER; MAPS. No program is named here.
-/
namespace Go.RK
open Go

/-! ### entry and return -/
section
variable {P : Program} {n : Env} {f : Fr} {h : Heap}

/-- What the results' slots hold. -/
def ResL (P : Program) (h : Heap) (f : Fr) : List ResultVar → List Value → Prop
  | [], [] => True
  | .tmp t :: r, v :: vs => f.get t = some v ∧ ResL P h f r vs
  | .cell t ty :: r, v :: vs => (∃ a, f.get t = some (.pointer (some a)) ∧ ∀ w : World, w.heap = h → (loadVar ty a).run P w = .ok v w) ∧ ResL P h f r vs
  | _, _ => False
def tup : List Value → Value
  | [v] => v
  | vs => .tuple ⟨vs⟩
def retP (P : Program) (fn : Func) (R : Value → Heap → Prop) : Post
  | .normal, f, h | .ret, f, h => ∃ vs, ResL P h f fn.results.toList vs ∧ R (tup vs) h
  | _, _, _ => False
theorem run_mapM_list {α : Type} (F : α → Sem Value) {w : World} : ∀ (rs : List α) (vs : List Value), rs.length = vs.length → (∀ (i : Nat) (r : α) (v : Value), rs[i]? = some r → vs[i]? = some v → (F r).run P w = .ok v w) → (rs.mapM F).run P w = .ok vs w
  | [], [], _, _ => by simp
  | r :: rs, v :: vs, hl, hr => by
    have h1 := hr 0 r v rfl rfl
    have h2 := run_mapM_list F rs vs (by simpa using hl) (fun i r v h1 h2 => hr (i + 1) r v (by simpa using h1) (by simpa using h2))
    simp [List.mapM_cons, h1, h2]
  | [], _ :: _, hl, _ => by simp at hl
  | _ :: _, [], hl, _ => by simp at hl
theorem ResL.len : ∀ (rs : List ResultVar) (vs : List Value), ResL P h f rs vs → rs.length = vs.length
  | [], [], _ => rfl
  | .tmp t :: rs, v :: vs, hr => by simp [ResL.len rs vs hr.2]
  | .cell t ty :: rs, v :: vs, hr => by simp [ResL.len rs vs hr.2]
  | [], _ :: _, hr => hr.elim
  | .tmp _ :: _, [], hr => hr.elim
  | .cell _ _ :: _, [], hr => hr.elim
theorem ResL.get : ∀ (rs : List ResultVar) (vs : List Value), ResL P h f rs vs → ∀ (i : Nat) (r : ResultVar) (v : Value), rs[i]? = some r → vs[i]? = some v → ResL P h f [r] [v]
  | .tmp t :: rs, v :: vs, hr, 0, r, u, h1, h2 => by simp at h1 h2; subst h1; subst h2; exact ⟨hr.1, trivial⟩
  | .cell t ty :: rs, v :: vs, hr, 0, r, u, h1, h2 => by simp at h1 h2; subst h1; subst h2; exact ⟨hr.1, trivial⟩
  | .tmp t :: rs, v :: vs, hr, i + 1, r, u, h1, h2 => ResL.get rs vs hr.2 i r u (by simpa using h1) (by simpa using h2)
  | .cell t ty :: rs, v :: vs, hr, i + 1, r, u, h1, h2 => ResL.get rs vs hr.2 i r u (by simpa using h1) (by simpa using h2)
  | [], _, _, i, r, u, h1, _ => by simp at h1
  | .tmp _ :: _, [], hr, _, _, _, _, _ => hr.elim
  | .cell _ _ :: _, [], hr, _, _, _, _, _ => hr.elim
theorem run_results {fn : Func} {a : Act} (ha : Rep n a f) {w : World} (hw : w.heap = h) {vs : List Value} (hr : ResL P h f fn.results.toList vs) : (results fn a.tmps).run P w = .ok (tup vs) w := by
  have h1 := run_mapM_list (P := P) (fun r : ResultVar => match r with | .tmp t => (pure (a.tmps.getD t undef) : Sem Value) | .cell p t => do loadVar t (← asAddr (a.tmps.getD p undef))) (w := w) fn.results.toList vs (ResL.len _ _ hr) (fun i r v hi hv => by
    have hr1 := ResL.get _ _ hr i r v hi hv
    cases r with
    | tmp t =>
      have h1 := ha.at_ _ _ hr1.1
      simp [h1]
    | cell t ty =>
      obtain ⟨⟨p, hp, hl⟩, _⟩ := hr1
      have h1 := ha.at_ _ _ hp
      simp [h1, asAddr, hl w hw])
  unfold results
  rw [Array.mapM_eq_mapM_toList]
  simp only [Sem.run_bind, Sem.run_map]
  refine Eq.trans (congrArg (fun r => Result.andThen r _) (congrArg (fun r => Result.andThen r _) h1)) ?_
  simp only [Result.andThen_ok, Sem.run_pure]
  congr 1
  match vs with
  | [] => rfl
  | [v] => rfl
  | v :: u :: r => simp [tup]

theorem lt_of_getE {α : Type} {xs : Array α} {i : Nat} {x : α} (hx : xs[i]? = some x) : i < xs.size := (Array.getElem?_eq_some_iff.1 hx).1

theorem rep_enter {m : Nat} {fn : Func} {args : List Value} {f0 : Fr} (hn : fn.ntmps = m) (hle : args.length ≤ m) (ha : ArgL f0 args) :
    Rep ⟨m, [], Option.none⟩ { tmps := (⟨args⟩ : Array Value) ++ Array.replicate (fn.ntmps - (⟨args⟩ : Array Value).size) undef, defers := [] } f0 := by
  refine ⟨by simp [hn]; omega, rfl, ?_⟩
  induction f0 with
  | nil => intro t v hv; cases hv
  | cons p r ih =>
    obtain ⟨t0, v0⟩ := p
    intro t v hv
    rw [Fr.get_cons] at hv
    by_cases e : t0 = t
    · subst e
      rw [if_pos rfl] at hv
      injection hv with hv
      subst hv
      have h1 : (⟨args⟩ : Array Value)[t0]? = some v0 := by simpa using ha.1
      rw [Array.getElem?_append_left (lt_of_getE h1)]
      exact h1
    · rw [if_neg e] at hv
      exact ih ha.2 t v hv
theorem calls {m : Nat} {k : FuncId} {fn : Func} {c : Code} {args : List Value} {R : Value → Heap → Prop} (f0 : Fr) (hf : P.funcs[k]? = some fn) (hb : fn.body = some c) (hn : fn.ntmps = m) (hsz : Nat.ble args.length m = true) (ha : ArgL f0 args)
    (hc : WC P ⟨m, [], Option.none⟩ c (retP P fn R) f0 h) : CallsH P k ⟨args⟩ h R := by
  intro w hw
  refine calls_of_wp hf hb ?_
  have hle : args.length ≤ m := by simpa [Nat.ble_eq] using hsz
  have hrep : Rep ⟨m, [], Option.none⟩ { tmps := (⟨args⟩ : Array Value) ++ Array.replicate (fn.ntmps - (⟨args⟩ : Array Value).size) undef, defers := [] } f0 := rep_enter hn hle ha
  refine Go.wp_mono (wpIn_wide.1 (hc _ w hrep hw)) ?_
  rintro e a w' ⟨hl, hs, g, hg, hq⟩
  cases e with
  | normal =>
    obtain ⟨vs, hr, hR⟩ := hq
    exact ⟨hg.defers, _, run_results hg rfl hr, hs, _, rfl, hR⟩
  | ret =>
    obtain ⟨vs, hr, hR⟩ := hq
    exact ⟨hg.defers, _, run_results hg rfl hr, hs, _, rfl, hR⟩
  | _ => exact hq.elim
end

/-! ### a region that draws its order, whose operations read or call quietly -/
section
variable {P : Program} {n : Env} {Q : Post} {f : Fr} {h : Heap} {l0 rest : List Oper} {C : Heap → Prop}
def WQ (P : Program) (n : Env) (l0 l : List Oper) (C : Heap → Prop) (K : Fr → Prop) (f : Fr) : Prop :=
  ∀ (a : Act) (w0 : World), Rep n a f → wpQuiet P l0.toArray (fun w => Same w0 w ∧ C w.heap) (fun a' => ∃ g, Rep n a' g ∧ K g) l a
theorem wpQuiet_mono {ops : Array Oper} {C : World → Prop} {Q Q' : Act → Prop} (hQ : ∀ a, Q a → Q' a) : ∀ (l : List Oper) (a : Act), wpQuiet P ops C Q l a → wpQuiet P ops C Q' l a
  | [], a, hq => hQ a hq
  | o :: l, a, hq => by
    unfold wpQuiet at hq ⊢
    split
    · rename_i hw
      rw [if_pos hw] at hq
      obtain ⟨v, h1, h2⟩ := hq
      exact ⟨v, h1, wpQuiet_mono hQ l _ h2⟩
    · rename_i hw
      rw [if_neg hw] at hq
      exact wpQuiet_mono hQ l _ hq
theorem WC.draw {id : Nat} {l : List Oper} (C : Heap → Prop) (hm : P.follows .mixedOrders = true) (hB : Region.lexB .any l.toArray = true) (hC : C h)
    (hq : WQ P n l l C (fun g => ∀ h', C h' → Q .normal g h') f) (hd : n.ro = Option.none ∨ noDef l = true := by first | exact .inl rfl | exact .inr rfl) : WC P n (.region id l.toArray true) Q f h := by
  intro a w ha hw
  refine any_in (by simpa using hd) toAct.shut hm ?_
  simp only [Region.lexB, Bool.and_eq_true] at hB
  refine wpAny_of_quiet (C := fun w' => Same w w' ∧ C w'.heap) (Q := fun a' => ∀ w', (Same w w' ∧ C w'.heap) → toAct n Q w .normal a' w') (fun _ w' hw' h => h w' hw') _ _ _ _ ⟨⟨rfl, rfl, rfl, trivial⟩, by rw [← hw] at hC; exact hC⟩ ?_
  have h1 := wpQuiet_mono (Q' := fun a' => ∀ w', (Same w w' ∧ C w'.heap) → toAct n Q w .normal a' w') (by
    rintro a' ⟨g, hg, hk⟩ w' ⟨hs, hc⟩
    exact ⟨rfl, hs, g, hg, hk _ hc⟩) _ _ (hq a w ha)
  have := wpAnyQ_lex (P := P) (C := fun w' => Same w w' ∧ C w'.heap) (md := .any) hB.1 l 0 (Array.replicate l.toArray.size false) a (by simp) (by simpa using hB.2) h1
  simpa using this
variable {K : Fr → Prop}
theorem WQ.nil (hk : K f) : WQ P n l0 [] C K f := fun _ _ ha => ⟨f, ha, hk⟩
theorem WQ.step {o : Oper} {v : Value} {t : Nat} (hok : ∀ h, C h → OkP P f o h v) (hg : goes f l0 o = true) (hd : o.dst = some t) (ht : Nat.blt t n.n = true) (hk : WQ P n l0 rest C K ((t, v) :: f)) : WQ P n l0 (o :: rest) C K f := by
  intro a w0 ha
  refine wpQuiet_step fun K' hK' => ?_
  rw [if_pos (goes_wanted ha hg)]
  refine ⟨v, fun w hw => ?_, ?_⟩
  · unfold Oper.quietAt
    rw [hok _ hw.2 _ w ha.agrees rfl]
    exact ⟨rfl, rfl⟩
  · rw [hd]; exact hK' _ (hk _ w0 (ha.put ht _))
theorem WQ.pass {o : Oper} {t : Nat} (hg : stops f l0 o = true) (hd : o.dst = some t) (ht : Nat.blt t n.n = true) (hk : WQ P n l0 rest C K ((t, undef) :: f)) : WQ P n l0 (o :: rest) C K f := by
  intro a w0 ha
  refine wpQuiet_step fun K' hK' => ?_
  rw [if_neg (by rw [stops_wanted ha hg]; exact Bool.false_ne_true), hd]
  exact hK' _ (hk _ w0 (ha.put ht _))
theorem WQ.part {l : List Oper} (t : Nat) {b : Bool} (hb : f.get t = some (.bool b)) (h1 : b = true → WQ P n l0 l C K ((t, .bool true) :: f)) (h2 : b = false → WQ P n l0 l C K ((t, .bool false) :: f)) : WQ P n l0 l C K f := by
  cases b
  · exact fun a w ha => h2 rfl a w (ha.sub_set hb)
  · exact fun a w ha => h1 rfl a w (ha.sub_set hb)
theorem WQ.call {o : Oper} {t : Nat} {k : FuncId} {xs : List Operand} {vs : List Value} {ts : Array TypeId} {v : Value} (ho : o.op = .call { callee := .value (.func k), args := ⟨xs⟩, argTypes := ts })
    (hc : ∀ (args : Array Value) (w : World), (callFunc k args).run P w = .ok (.enter k args) w)
    (hx : xs.map f.ev = vs.map some) (hR : ∀ h, C h → CallsH P k ⟨vs⟩ h (fun u h' => u = v ∧ C h')) (hg : goes f l0 o = true) (hd : o.dst = some t) (ht : Nat.blt t n.n = true) (hk : WQ P n l0 rest C K ((t, v) :: f)) : WQ P n l0 (o :: rest) C K f := by
  intro a w0 ha
  refine wpQuiet_step fun K' hK' => ?_
  rw [if_pos (goes_wanted ha hg)]
  have hargs : xs.map a.eval = vs := by
    clear ho hR
    induction xs generalizing vs with
    | nil => cases vs <;> simp_all
    | cons x xs ih =>
      cases vs with
      | nil => simp at hx
      | cons v vs =>
        simp only [List.map_cons, List.cons.injEq] at hx ⊢
        exact ⟨ha.agrees _ _ hx.1, ih hx.2⟩
  refine ⟨v, fun w hw => ?_, ?_⟩
  · unfold Oper.quietAt
    have e2 : Array.map a.eval ⟨xs⟩ = ⟨vs⟩ := by rw [← hargs]; simp
    have hrun : (execOp a.eval o).run P w = .ok (.enter k ⟨vs⟩) w := by
      simp [execOp, ho, resolve, Deferred.ofValue, invoke, Act.eval, e2, hc]
    rw [hrun]
    refine ⟨rfl, (hR _ hw.2 w rfl).mono ?_⟩
    rintro e w' ⟨hs, u, he, hu, hc'⟩
    exact ⟨by rw [he, hu], hw.1.trans hs, hc'⟩
  · rw [hd]; exact hK' _ (hk _ w0 (ha.put ht _))
end
end Go.RK

/-
  MAPS; small steps between pieces of code. No program is named here.
-/
namespace Go.RK
open Go Go.MapKept

/-! ### what stands round a piece of code -/
structure Br (i : Nat) (p : Prop) : Prop where
  out : p
theorem Br.keep {i : Nat} {p : Prop} (h : Br i p) : Br i p := h
section
variable {P : Program} {n : Env} {Q : Post} {f : Fr} {h : Heap} {K : Fr → Heap → Prop}
theorem thenP_n (hk : K f h) : thenP K Q .normal f h := hk
theorem thenP_x {i : Nat} (hk : Q (.exit i) f h) : thenP K Q (.exit i) f h := hk
theorem thenP_r (hk : Q .ret f h) : thenP K Q .ret f h := hk
theorem blockP_n {id : Nat} (hk : Q .normal f h) : blockP id Q .normal f h := hk
theorem blockP_r {id : Nat} (hk : Q .ret f h) : blockP id Q .ret f h := hk
theorem blockP_hit {id : Nat} (hk : Q .normal f h) : blockP id Q (.exit id) f h := by simp only [blockP, if_true]; exact hk
theorem blockP_miss {id i : Nat} (hne : Nat.beq i id = false) (hk : Q (.exit i) f h) : blockP id Q (.exit i) f h := by
  have e : i ≠ id := fun e => by rw [e, Nat.beq_refl] at hne; cases hne
  simp only [blockP, if_neg e]
  exact hk
theorem WC.condB {c : Operand} {x y : Code} {b : Bool} (i j : Nat) (hc : f.ev c = some (.bool b)) (ht : b = true → Br i (WC P n x Q f h)) (hf : b = false → Br j (WC P n y Q f h)) : WC P n (.cond c x y) Q f h :=
  .cond hc (fun e => (ht e).out) (fun e => (hf e).out)
theorem WC.condB_t {c : Operand} {x y : Code} (i : Nat) (hc : f.ev c = some (.bool true)) (ht : Br i (WC P n x Q f h)) : WC P n (.cond c x y) Q f h := .cond_t hc ht.out
theorem WC.condB_f {c : Operand} {x y : Code} (j : Nat) (hc : f.ev c = some (.bool false)) (hf : Br j (WC P n y Q f h)) : WC P n (.cond c x y) Q f h := .cond_f hc hf.out
theorem WC.loopG {X : Type} {c : Code} (G : X → Fr) (fx : Fr) (I : X → Heap → Prop) (μ : X → Nat) (x0 : X) (hs : SubL (G x0 ++ fx) f) (h0 : I x0 h)
    (round : ∀ x h, I x h → WC P n c (thenP (fun f' h' => ∃ x', SubL (G x' ++ fx) f' ∧ I x' h' ∧ μ x' < μ x) Q) (G x ++ fx) h) : WC P n (.loop c) Q f h :=
  .loop (fun x => G x ++ fx) I μ x0 hs h0 round
theorem retP_1 {fn : Func} {R : Value → Heap → Prop} (v : Value) (hr : ResL P h f fn.results.toList [v]) (hR : R v h) : retP P fn R .ret f h := ⟨[v], hr, hR⟩
theorem retP_2 {fn : Func} {R : Value → Heap → Prop} (v u : Value) (hr : ResL P h f fn.results.toList [v, u]) (hR : R (.tuple ⟨[v, u]⟩) h) : retP P fn R .ret f h := ⟨[v, u], hr, hR⟩
theorem retP_3 {fn : Func} {R : Value → Heap → Prop} (v u x : Value) (hr : ResL P h f fn.results.toList [v, u, x]) (hR : R (.tuple ⟨[v, u, x]⟩) h) : retP P fn R .ret f h := ⟨[v, u, x], hr, hR⟩
theorem retP_0 {fn : Func} {R : Value → Heap → Prop} (hr : ResL P h f fn.results.toList []) (hR : R (.tuple ⟨[]⟩) h) : retP P fn R .ret f h := ⟨[], hr, hR⟩
theorem retP_n {fn : Func} {R : Value → Heap → Prop} (vs : List Value) (hr : ResL P h f fn.results.toList vs) (hR : R (tup vs) h) : retP P fn R .normal f h := ⟨vs, hr, hR⟩
theorem Rd.at_ {A : Option Addr} {k c sz : Nat} {xs : List Value} (r : Rd h (.slice A k c) sz k xs) (hn : 0 < k) : ∃ b o, A = some ⟨b, o, Option.none⟩ ∧ b < h.size ∧ At h b o xs := by
  obtain ⟨A', c', e, _, _, hp⟩ := r
  injection e with e1 e2 e3
  subst e1
  exact hp hn
theorem At.get {b o p : Nat} {vs : List Value} {v : Value} (ha : At h b o vs) (j : Nat) (hj : vs[j]? = some v) (hp : p = o + j) : cell h ⟨b, p, Option.none⟩ = some v := by subst hp; exact ha j v hj
theorem ok_idxAddrA {d : Option Tmp} {ty : TypeId} {pos : String} {af : Array Edge} {g : Option (Nat × Bool)} {t e : TypeId} {x y : Operand} {A : Option Addr} {b o l c sz k : Nat} {kd : IntKind} {i : Int} (hu : P.underlying t = some (.slice e)) (hz : ∀ w, (sizeOf e).run P w = .ok sz w)
    (hx : f.ev x = some (.slice A l c)) (hy : f.ev y = some (.int kd i)) (hi : i = (k : Int)) (hk : k < l) (hA : A = some ⟨b, o, Option.none⟩) :
    OkP P f ⟨d, .indexAddr t x y, ty, pos, af, g⟩ h (.pointer (some ⟨b, o + k * sz, Option.none⟩)) := by
  subst hA
  subst hi
  exact ok_idxAddr hu hz hx hy ⟨by omega, by omega⟩
end

/-! ### maps -/
structure KeyEnc (κ : Type) (d : TypeDesc) (enc : κ → Value) : Prop where
  key : ∀ k, IsKey d (enc k)
  inj : ∀ a b, enc a = enc b → a = b
theorem keyS : KeyEnc (List UInt8) .string St := ⟨fun _ => trivial, fun a b e => by
  simp only [St, Value.string.injEq, ByteArray.mk.injEq, Array.mk.injEq] at e
  exact e⟩
section
variable {κ : Type} [DecidableEq κ]
def alook (es : List (κ × Value)) (k : κ) : Option Value := (es.find? fun p => decide (p.1 = k)).map (·.2)
def aput (es : List (κ × Value)) (k : κ) (v : Value) : List (κ × Value) :=
  if (alook es k).isSome then es.map (fun p => if p.1 = k then (k, v) else p) else es ++ [(k, v)]
def adel (es : List (κ × Value)) (k : κ) : List (κ × Value) := es.filter fun p => decide (p.1 ≠ k)
end
/-- Block m is a map that holds es. -/
def Mp {κ : Type} (_d : TypeDesc) (enc : κ → Value) (h : Heap) (m : Nat) (es : List (κ × Value)) : Prop :=
  ∃ arr clock, h[m]? = some (.map arr clock) ∧ Stamped arr clock ∧ arr.toList.map (fun e => (e.key, e.val)) = es.map fun p => (enc p.1, p.2)

section
variable {κ : Type} [DecidableEq κ] {d : TypeDesc} {enc : κ → Value} {h h' : Heap} {m : Nat} {es : List (κ × Value)}
omit [DecidableEq κ] in
theorem Mp.lt (hm : Mp d enc h m es) : m < h.size := by
  obtain ⟨arr, clock, hb, _⟩ := hm
  exact lt_of_some hb
omit [DecidableEq κ] in
theorem Mp.ext {S : Nat → Prop} (hm : Mp d enc h m es) (a : Ext S h h') (hS : ¬ S m) : Mp d enc h' m es := by
  obtain ⟨arr, clock, hb, r⟩ := hm
  exact ⟨arr, clock, a.obj hb hS, r⟩
omit [DecidableEq κ] in
theorem Mp.new (h : Heap) : Mp d enc (h.push (.map #[] 0)) h.size ([] : List (κ × Value)) := ⟨#[], 0, push_new _ _, stamped_empty 0, rfl⟩
omit [DecidableEq κ] in
theorem nodup_of_map {l : List κ} (h1 : (l.map enc).Nodup) : l.Nodup := by
  induction l with
  | nil => simp
  | cons a l ih =>
    simp only [List.map_cons, List.nodup_cons, List.mem_map, not_exists, not_and] at h1 ⊢
    exact ⟨fun ha => h1.1 a ha rfl, ih h1.2⟩
omit [DecidableEq κ] in
theorem Mp.nodup (_E : KeyEnc κ d enc) (hm : Mp d enc h m es) : (es.map (·.1)).Nodup := by
  obtain ⟨arr, clock, hb, hs, he⟩ := hm
  have h1 : (arr.toList.map (·.key)).Nodup := hs.2.2
  have h2 : arr.toList.map (·.key) = (es.map (·.1)).map enc := by
    have := congrArg (List.map (·.1)) he
    simpa [List.map_map, Function.comp_def] using this
  rw [h2] at h1
  exact nodup_of_map h1
/-- What is found at a key. -/
theorem find_alook (E : KeyEnc κ d enc) {l : List MapEntry} (he : l.map (fun e => (e.key, e.val)) = es.map fun p => (enc p.1, p.2)) (k : κ) :
    (Instr.findNow d (enc k) l 0 = some none ∧ alook es k = Option.none ∧ ∀ x ∈ l, x.key ≠ enc k) ∨
    ∃ j v e, Instr.findNow d (enc k) l 0 = some (some (j, v)) ∧ alook es k = some v ∧ l[j]? = some e ∧ e.key = enc k ∧ e.val = v ∧ j < l.length := by
  have key : ∀ (l : List MapEntry) (es : List (κ × Value)) (i : Nat), l.map (fun e => (e.key, e.val)) = es.map (fun p => (enc p.1, p.2)) →
      (Instr.findNow d (enc k) l i = some none ∧ alook es k = Option.none ∧ ∀ x ∈ l, x.key ≠ enc k) ∨
      ∃ j v e, Instr.findNow d (enc k) l i = some (some (i + j, v)) ∧ alook es k = some v ∧ l[j]? = some e ∧ e.key = enc k ∧ e.val = v ∧ j < l.length := by
    intro l
    induction l with
    | nil =>
      intro es i he
      have : es = [] := by simpa using he.symm
      subst this
      exact .inl ⟨rfl, rfl, by simp⟩
    | cons e l ih =>
      intro es i he
      cases es with
      | nil => simp at he
      | cons p es =>
        simp only [List.map_cons, List.cons.injEq, Prod.mk.injEq] at he
        obtain ⟨⟨hk, hv⟩, he⟩ := he
        obtain ⟨r, hr, hiff⟩ := sameNow_of_keys (E.key k) (show IsKey d e.key by rw [hk]; exact E.key _)
        cases r with
        | true =>
          have e1 : enc k = e.key := hiff.1 rfl
          have e2 : p.1 = k := E.inj _ _ (by rw [← hk, e1])
          exact .inr ⟨0, e.val, e, by simp [Instr.findNow, hr], by simp [alook, e2, hv], rfl, e1.symm, rfl, by simp⟩
        | false =>
          have e1 : e.key ≠ enc k := fun q => by have := hiff.2 q.symm; cases this
          have e2 : p.1 ≠ k := fun q => e1 (by rw [hk, q])
          rcases ih es (i + 1) he with ⟨h1, h2, h3⟩ | ⟨j, v, e', h1, h2, h3, h4, h5, h6⟩
          · exact .inl ⟨by simp [Instr.findNow, hr, h1], by simpa [alook, e2] using h2, fun x hx => by
              rcases List.mem_cons.1 hx with rfl | hx
              · exact e1
              · exact h3 x hx⟩
          · exact .inr ⟨j + 1, v, e', by simp [Instr.findNow, hr, h1]; omega, by simpa [alook, e2] using h2, by simpa using h3, h4, h5, by simp; omega⟩
  have := key l es 0 he
  simpa using this

variable {P : Program} {f : Fr} {dd : Option Tmp} {ty : TypeId} {pos : String} {af : Array Edge} {g : Option (Nat × Bool)}
theorem ok_lookup {t kt et : TypeId} {x y : Operand} {k : κ} {v : Value} (E : KeyEnc κ d enc) (hu : P.underlying t = some (.map kt et)) (hd : P.underlying kt = some d) (hx : f.ev x = some (.map (some m))) (hy : f.ev y = some (enc k)) (hm : Mp d enc h m es) (hv : alook es k = some v) :
    OkP P f ⟨dd, .lookup t x y true, ty, pos, af, g⟩ h (.tuple ⟨[v, .bool true]⟩) ∧ OkP P f ⟨dd, .lookup t x y false, ty, pos, af, g⟩ h v := by
  have key : ∀ (ρ : Operand → Value) (w : World) (c : Bool), Agrees ρ f → w.heap = h → (execOp ρ ⟨dd, .lookup t x y c, ty, pos, af, g⟩).run P w = .ok (.value (if c then .tuple ⟨[v, .bool true]⟩ else v)) w := by
    intro ρ w c ha hw
    subst hw
    obtain ⟨arr, clock, hb, _, he⟩ := hm
    rcases find_alook E he k with ⟨h1, h2, _⟩ | ⟨j, v', e, h1, h2, _⟩
    · rw [hv] at h2; cases h2
    · rw [hv] at h2; injection h2 with h2; subst h2
      simp [execOp, ha _ _ hx, ha _ _ hy, Instr.lookup, run_underlying hu, MapKept.run_getObj_map hb, run_checkKey hd (E.key k), run_findKey hd h1]
  exact ⟨fun ρ w ha hw => key ρ w true ha hw, fun ρ w ha hw => key ρ w false ha hw⟩
theorem ok_lookup_no {t kt et : TypeId} {x y : Operand} {k : κ} {z : Value} (E : KeyEnc κ d enc) (hu : P.underlying t = some (.map kt et)) (hd : P.underlying kt = some d) (hz : ∀ w, (zeroValue et).run P w = .ok z w) (hx : f.ev x = some (.map (some m))) (hy : f.ev y = some (enc k)) (hm : Mp d enc h m es) (hv : alook es k = Option.none) :
    OkP P f ⟨dd, .lookup t x y true, ty, pos, af, g⟩ h (.tuple ⟨[z, .bool false]⟩) ∧ OkP P f ⟨dd, .lookup t x y false, ty, pos, af, g⟩ h z := by
  have key : ∀ (ρ : Operand → Value) (w : World) (c : Bool), Agrees ρ f → w.heap = h → (execOp ρ ⟨dd, .lookup t x y c, ty, pos, af, g⟩).run P w = .ok (.value (if c then .tuple ⟨[z, .bool false]⟩ else z)) w := by
    intro ρ w c ha hw
    subst hw
    obtain ⟨arr, clock, hb, _, he⟩ := hm
    rcases find_alook E he k with ⟨h1, h2, _⟩ | ⟨j, v', e, h1, h2, _⟩
    · simp [execOp, ha _ _ hx, ha _ _ hy, Instr.lookup, run_underlying hu, MapKept.run_getObj_map hb, run_checkKey hd (E.key k), run_findKey hd h1, hz]
    · rw [hv] at h2; cases h2
  exact ⟨fun ρ w ha hw => key ρ w true ha hw, fun ρ w ha hw => key ρ w false ha hw⟩
theorem map_aput {arr : Array MapEntry} (E : KeyEnc κ d enc) (he : arr.toList.map (fun e => (e.key, e.val)) = es.map fun p => (enc p.1, p.2)) (hnd : (arr.toList.map (·.key)).Nodup) {k : κ} {v v0 : Value} {j : Nat} {e : MapEntry} (hv : alook es k = some v0) (hj : arr.toList[j]? = some e) (hk : e.key = enc k) :
    (arr.modify j fun e => { e with key := enc k, val := v }).toList.map (fun e => (e.key, e.val)) = (aput es k v).map fun p => (enc p.1, p.2) := by
  unfold aput
  rw [hv]
  simp only [Option.isSome_some, if_true, List.map_map]
  apply List.ext_getElem?
  intro i
  have h0 : arr.toList[i]?.map (fun e => (e.key, e.val)) = es[i]?.map (fun p => (enc p.1, p.2)) := by
    have := congrArg (fun l => l[i]?) he
    simpa using this
  simp only [List.getElem?_map, Array.getElem?_toList, Array.getElem?_modify, Function.comp_def] at h0 hj ⊢
  by_cases e1 : j = i
  · subst e1
    rw [if_pos rfl, hj]
    rw [hj] at h0
    cases hp : es[j]? with
    | none => rw [hp] at h0; cases h0
    | some p =>
      rw [hp] at h0
      simp only [Option.map_some, Option.some.injEq, Prod.mk.injEq] at h0 ⊢
      have : p.1 = k := E.inj _ _ (by rw [← h0.1, hk])
      rw [if_pos this]
      exact ⟨rfl, rfl⟩
  · rw [if_neg e1]
    cases hp : es[i]? with
    | none => rw [hp] at h0; simpa using h0
    | some p =>
      rw [hp] at h0
      cases ha : arr[i]? with
      | none => rw [ha] at h0; cases h0
      | some a =>
        rw [ha] at h0
        simp only [Option.map_some, Option.some.injEq, Prod.mk.injEq] at h0 ⊢
        have : p.1 ≠ k := fun q => by
          have ha' : arr.toList[i]? = some a := by simpa using ha
          have hj' : arr.toList[j]? = some e := by simpa using hj
          have hki : a.key = e.key := by rw [h0.1, q, hk]
          have h1 : (arr.toList.map (·.key))[i]? = some a.key := by simp [ha]
          have h2 : (arr.toList.map (·.key))[j]? = some a.key := by simp [hj, hki]
          have hi := (List.getElem?_eq_some_iff.1 h1).1
          exact e1 (((List.getElem?_inj hi hnd).1 (h1.trans h2.symm)).symm)
        rw [if_neg this]
        exact h0
theorem ok_mapUpdate {t kt et : TypeId} {x y z : Operand} {k : κ} {v : Value} (E : KeyEnc κ d enc) (hu : P.underlying t = some (.map kt et)) (hd : P.underlying kt = some d) (hx : f.ev x = some (.map (some m))) (hy : f.ev y = some (enc k)) (hz : f.ev z = some v) (hm : Mp d enc h m es) :
    OkR P f ⟨dd, .mapUpdate t x y z, ty, pos, af, g⟩ h (fun _ h' => Mp d enc h' m (aput es k v) ∧ Ext (fun b => b = m) h h') :=
  fun ρ w ha hw => by
    subst hw
    obtain ⟨arr, clock, hb, hs, he⟩ := hm
    rcases find_alook E he k with ⟨h1, h2, h3⟩ | ⟨j, v0, e, h1, h2, h3, h4, h5, h6⟩
    · refine ⟨undef, { w with heap := w.heap.setIfInBounds m (.map (arr.push { key := enc k, val := v, born := clock }) (clock + 1)) }, ⟨rfl, rfl, rfl, trivial⟩, ⟨⟨_, _, set_new hb, stamped_push hs h3, ?_⟩, .set _ _ _ rfl⟩, .inr ⟨?_, rfl⟩⟩
      · simp [aput, h2, he]
      · simp [execOp, ha _ _ hx, ha _ _ hy, ha _ _ hz, Instr.mapUpdate, run_underlying hu, MapKept.run_getObj_map hb, run_checkKey hd (E.key k), run_findKey hd h1, MapKept.run_setObj_map _ hb]
    · have hj : arr[j]? = some e := by simpa using h3
      have hkey : ∀ e', arr[j]? = some e' → ({ e' with key := enc k, val := v } : MapEntry).key = e'.key := fun e' he' => by rw [hj] at he'; cases he'; exact h4.symm
      refine ⟨undef, { w with heap := w.heap.setIfInBounds m (.map (arr.modify j fun e => { e with key := enc k, val := v }) clock) }, ⟨rfl, rfl, rfl, trivial⟩, ⟨⟨_, _, set_new hb, stamped_modify hs _ _ (fun _ _ => rfl) (fun e' _ he' => hkey e' he'), map_aput E he hs.2.2 h2 h3 h4⟩, .set _ _ _ rfl⟩, .inr ⟨?_, rfl⟩⟩
      simp [execOp, ha _ _ hx, ha _ _ hy, ha _ _ hz, Instr.mapUpdate, run_underlying hu, MapKept.run_getObj_map hb, run_checkKey hd (E.key k), run_findKey hd h1, hj, h4, run_keyThatStays (E.key k), MapKept.run_setObj_map _ hb]
theorem map_adel {arr : Array MapEntry} (E : KeyEnc κ d enc) (he : arr.toList.map (fun e => (e.key, e.val)) = es.map fun p => (enc p.1, p.2)) (hnd : (arr.toList.map (·.key)).Nodup) {k : κ} {j : Nat} {e : MapEntry} (hj : arr.toList[j]? = some e) (hk : e.key = enc k) :
    (arr.eraseIdxIfInBounds j).toList.map (fun e => (e.key, e.val)) = (adel es k).map fun p => (enc p.1, p.2) := by
  have hlt : j < arr.size := by simpa using (List.getElem?_eq_some_iff.1 hj).1
  unfold Array.eraseIdxIfInBounds
  rw [dif_pos hlt, Array.toList_eraseIdx]
  have key : ∀ (l : List MapEntry) (es : List (κ × Value)) (j : Nat), l.map (fun e => (e.key, e.val)) = es.map (fun p => (enc p.1, p.2)) → (l.map (·.key)).Nodup → l[j]? = some e →
      (l.eraseIdx j).map (fun e => (e.key, e.val)) = (adel es k).map fun p => (enc p.1, p.2) := by
    intro l
    induction l with
    | nil => intro es j _ _ h1; simp at h1
    | cons a l ih =>
      intro es j he hnd h1
      cases es with
      | nil => simp at he
      | cons p es =>
        simp only [List.map_cons, List.cons.injEq, Prod.mk.injEq, List.nodup_cons] at he hnd
        cases j with
        | zero =>
          simp only [List.getElem?_cons_zero, Option.some.injEq] at h1
          subst h1
          have e2 : p.1 = k := E.inj _ _ (by rw [← he.1.1, hk])
          have e3 : adel es k = es := List.filter_eq_self.2 fun q hq => by
            simp only [decide_eq_true_eq]
            intro e4
            have : (enc q.1, q.2) ∈ es.map (fun p => (enc p.1, p.2)) := List.mem_map.2 ⟨q, hq, rfl⟩
            rw [← he.2] at this
            obtain ⟨x, hx, hx2⟩ := List.mem_map.1 this
            simp only [Prod.mk.injEq] at hx2
            exact hnd.1 (List.mem_map.2 ⟨x, hx, by rw [hx2.1, e4, ← hk]⟩)
          simp only [List.eraseIdx_cons_zero, adel, List.filter_cons, e2, ne_eq, not_true_eq_false, decide_false, Bool.false_eq_true, if_false]
          simp only [adel, ne_eq] at e3
          rw [e3]; exact he.2
        | succ j =>
          simp only [List.getElem?_cons_succ] at h1
          have e2 : p.1 ≠ k := fun q => by
            have : a.key = e.key := by rw [he.1.1, q, hk]
            exact hnd.1 (List.mem_map.2 ⟨e, List.mem_of_getElem? h1, this.symm⟩)
          simp only [List.eraseIdx_cons_succ, List.map_cons, adel, List.filter_cons, ne_eq, e2, not_false_eq_true, decide_true, if_true, List.cons.injEq, Prod.mk.injEq]
          exact ⟨he.1, by simpa [adel] using ih es j he.2 hnd.2 h1⟩
  exact key arr.toList es j he hnd hj
theorem ok_delete {t kt et : TypeId} {x y : Operand} {ts : Array TypeId} {k : κ} {s : TypeId} (hts : ts = #[t, s]) (E : KeyEnc κ d enc) (hu : P.underlying t = some (.map kt et)) (hd : P.underlying kt = some d) (hx : f.ev x = some (.map (some m))) (hy : f.ev y = some (enc k)) (hm : Mp d enc h m es) :
    OkR P f ⟨dd, .call { callee := .builtin .delete, args := #[x, y], argTypes := ts }, ty, pos, af, g⟩ h (fun _ h' => Mp d enc h' m (adel es k) ∧ Ext (fun b => b = m) h h') :=
  fun ρ w ha hw => by
    subst hw
    subst hts
    obtain ⟨arr, clock, hb, hs, he⟩ := hm
    rcases find_alook E he k with ⟨h1, h2, h3⟩ | ⟨j, v0, e, h1, h2, h3, h4, h5, h6⟩
    · refine ⟨.tuple #[], { w with heap := w.heap.setIfInBounds m (.map arr clock) }, ⟨rfl, rfl, rfl, trivial⟩, ⟨⟨_, _, set_new hb, hs, ?_⟩, .set _ _ _ rfl⟩, .inl ?_⟩
      · have e3 : adel es k = es := List.filter_eq_self.2 fun q hq => by
          simp only [decide_eq_true_eq]
          intro e4
          have : (enc q.1, q.2) ∈ es.map (fun p => (enc p.1, p.2)) := List.mem_map.2 ⟨q, hq, rfl⟩
          rw [← he] at this
          obtain ⟨x, hx, hx2⟩ := List.mem_map.1 this
          simp only [Prod.mk.injEq] at hx2
          exact h3 x hx (by rw [hx2.1, e4])
        rw [e3, he]
      · simp [execOp, resolve, invoke, builtin, ha _ _ hx, ha _ _ hy, Builtin.delete_, run_underlying hu, MapKept.run_getObj_map hb, run_checkKey hd (E.key k), run_findKey hd h1, MapKept.run_setObj_map _ hb]
    · refine ⟨.tuple #[], { w with heap := w.heap.setIfInBounds m (.map (arr.eraseIdxIfInBounds j) clock) }, ⟨rfl, rfl, rfl, trivial⟩, ⟨⟨_, _, set_new hb, stamped_erase hs j, map_adel E he hs.2.2 h3 h4⟩, .set _ _ _ rfl⟩, .inl ?_⟩
      simp [execOp, resolve, invoke, builtin, ha _ _ hx, ha _ _ hy, Builtin.delete_, run_underlying hu, MapKept.run_getObj_map hb, run_checkKey hd (E.key k), run_findKey hd h1, MapKept.run_setObj_map _ hb]
end

section
variable {κ : Type} [DecidableEq κ]
end
end Go.RK

/-
  RULES AS THE PRINTED WALKS USE THEM: each turn of the heap gives a new heap of which facts are told. No program is named here.
-/
namespace Go.RK
open Go

section
variable {P : Program} {n : Env} {Q : Post} {f : Fr} {h : Heap} {l0 rest : List Oper} {K : Fr → Prop}
theorem WC.drawE {id : Nat} {l : List Oper} (hm : P.follows .mixedOrders = true) (hB : Region.lexB .any l.toArray = true)
    (hq : WQ P n l l (fun h' => h' = h) (fun g => Q .normal g h) f) (hd : n.ro = Option.none ∨ noDef l = true := by first | exact .inl rfl | exact .inr rfl) : WC P n (.region id l.toArray true) Q f h :=
  .draw (fun h' => h' = h) hm hB rfl (hd := hd) (fun a w0 ha => wpQuiet_mono (fun _ ⟨g, hg, hk⟩ => ⟨g, hg, fun h' e => by subst e; exact hk⟩) _ _ (hq a w0 ha))
theorem WQ.stepE {o : Oper} {v : Value} {t : Nat} (hok : OkP P f o h v) (hg : goes f l0 o = true) (hd : o.dst = some t) (ht : Nat.blt t n.n = true) (hk : WQ P n l0 rest (fun h' => h' = h) K ((t, v) :: f)) : WQ P n l0 (o :: rest) (fun h' => h' = h) K f :=
  .step (fun h' e => by subst e; exact hok) hg hd ht hk
end

theorem nt {b : Bool} (h : (!b) = true) : b = false := by simpa using h
theorem nf {b : Bool} (h : (!b) = false) : b = true := by simpa using h
section
variable {P : Program} {f : Fr} {h : Heap} {d : Option Tmp} {ty : TypeId} {pos : String} {af : Array Edge} {g : Option (Nat × Bool)}
theorem OkR.mono {o : Oper} {R R' : Value → Heap → Prop} (ho : OkR P f o h R) (hr : ∀ v h', R v h' → R' v h') : OkR P f o h R' := fun ρ w ha hw => by
  obtain ⟨v, w', hs, hR, hrun⟩ := ho ρ w ha hw
  exact ⟨v, w', hs, hr _ _ hR, hrun⟩
/-- A new block: it lies behind all that were there. -/
def New (h : Heap) (o : Obj) (b : Nat) (h' : Heap) : Prop := h.size ≤ b ∧ h'[b]? = some o ∧ Ext No h h'
theorem new_push (h : Heap) (o : Obj) : New h o h.size (h.push o) := ⟨Nat.le_refl _, push_new h o, .push _ h o⟩
theorem okE_alloc {t : TypeId} {z : Value} (hz : ∀ w, (zeroValue t).run P w = .ok z w) :
    OkR P f ⟨d, .alloc t, ty, pos, af, g⟩ h (fun u h' => ∃ b, u = .pointer (some ⟨b, 0, Option.none⟩) ∧ New h (.cells z.cells t (0, 0)) b h') :=
  (ok_alloc hz).mono fun _ _ ⟨hv, hh⟩ => ⟨_, hv, hh ▸ new_push _ _⟩
theorem okE_box {t : TypeId} {x : Operand} {v : Value} (hx : f.ev x = some v) :
    OkR P f ⟨d, .box t x, ty, pos, af, g⟩ h (fun u h' => ∃ b, u = .pointer (some ⟨b, 0, Option.none⟩) ∧ New h (.cells v.cells t (0, 0)) b h') :=
  (ok_box hx).mono fun _ _ ⟨hv, hh⟩ => ⟨_, hv, hh ▸ new_push _ _⟩
theorem okE_makeMap {t : TypeId} :
    OkR P f ⟨d, .makeMap t Option.none, ty, pos, af, g⟩ h (fun u h' => ∃ b, u = .map (some b) ∧ New h (.map #[] 0) b h') :=
  ok_makeMap.mono fun _ _ ⟨hv, hh⟩ => ⟨_, hv, hh ▸ new_push _ _⟩
theorem okE_store {t : TypeId} {x y : Operand} {b o : Nat} {cs : List Value} {e : TypeId} {v : Value} (hz : ∀ w, (sizeOf t).run P w = .ok 1 w) (hx : f.ev x = some (.pointer (some ⟨b, o, Option.none⟩))) (hy : f.ev y = some v)
    (hb : h[b]? = some (.cells ⟨cs⟩ e (0, 0))) (ho : o < cs.length) (hv : v.oneCell' = true) (hv1 : v.cells = #[v]) :
    OkR P f ⟨d, .store t x y, ty, pos, af, g⟩ h (fun _ h' => h'[b]? = some (.cells ⟨cs.set o v⟩ e (0, 0)) ∧ Ext (fun k => k = b) h h') :=
  (ok_store hz hx hy hb ho hv hv1).mono fun _ _ ⟨_, hh⟩ => hh ▸ ⟨set_new hb, .set _ _ _ rfl⟩
theorem okE_storeN {t : TypeId} {x y : Operand} {b o k : Nat} {cs vs : List Value} {e : TypeId} (hz : ∀ w, (sizeOf t).run P w = .ok k w) (hx : f.ev x = some (.pointer (some ⟨b, o, Option.none⟩))) (hy : f.ev y = some (.agg ⟨vs⟩))
    (hk : vs.length = k) (hb : h[b]? = some (.cells ⟨cs⟩ e (0, 0))) (ho : o + vs.length ≤ cs.length) (hv : ∀ v ∈ vs, v.oneCell' = true) :
    OkR P f ⟨d, .store t x y, ty, pos, af, g⟩ h (fun _ h' => h'[b]? = some (.cells ⟨cs.take o ++ vs ++ cs.drop (o + vs.length)⟩ e (0, 0)) ∧ Ext (fun k => k = b) h h') :=
  (ok_storeN hz hx hy hk hb ho hv).mono fun _ _ ⟨_, hh⟩ => hh ▸ ⟨set_new hb, .set _ _ _ rfl⟩
/-- A struct stored whole into the block that holds just it. -/
theorem okE_storeW {t : TypeId} {x y : Operand} {b k : Nat} {cs vs : List Value} {e : TypeId} (hz : ∀ w, (sizeOf t).run P w = .ok k w) (hx : f.ev x = some (.pointer (some ⟨b, 0, Option.none⟩))) (hy : f.ev y = some (.agg ⟨vs⟩))
    (hk : vs.length = k) (hb : h[b]? = some (.cells ⟨cs⟩ e (0, 0))) (ho : cs.length = k) (hv : ∀ v ∈ vs, v.oneCell' = true) :
    OkR P f ⟨d, .store t x y, ty, pos, af, g⟩ h (fun _ h' => h'[b]? = some (.cells ⟨vs⟩ e (0, 0)) ∧ Ext (fun k => k = b) h h') :=
  (okE_storeN hz hx hy hk hb (by omega) hv).mono fun _ _ ⟨h1, h2⟩ => ⟨by rw [h1]; simp [hk, ho], h2⟩
theorem ok_buildF {t : TypeId} {ps : List (Nat × Operand)} {vs cs : List Value} (F : List Value → List Value) (hp : ps.map (fun p => f.ev p.2) = vs.map some) (_hcs : cs = F vs) (hb : P.built t ((ps.map (·.1)).zip vs) = some ⟨cs⟩) :
    OkP P f ⟨d, .build t ⟨ps⟩, ty, pos, af, g⟩ h (.agg ⟨cs⟩) := by
  refine ok_build (qs := (ps.map (·.1)).zip vs) ?_ hb
  clear hb _hcs
  induction ps generalizing vs with
  | nil => cases vs <;> simp_all
  | cons p ps ih =>
    cases vs with
    | nil => simp at hp
    | cons v vs =>
      simp only [List.map_cons, List.cons.injEq] at hp
      simp only [List.map_cons, List.zip_cons_cons, List.cons.injEq, Prod.mk.injEq, true_and]
      exact ⟨hp.1, ih hp.2⟩
/-- The cells of a slice literal. -/
def bsl (P : Program) (e : TypeId) (len : Nat) (parts : List (Nat × Value)) : Option (Array Value) :=
  match P.info? e with
  | some ie => match ie.zero with
    | some z => if len * ie.size > 2 ^ 24 then Option.none else
      Instr.fill (fun i => some (i * ie.size, ie.size)) ((Array.range (len * ie.size)).map ((if len * ie.size = 0 then #[] else z.cells)[· % (if len * ie.size = 0 then #[] else z.cells).size]!)) parts
    | Option.none => Option.none
  | Option.none => Option.none
theorem okE_buildSlice {t e len : Nat} {ps : List (Nat × Operand)} {vs cs : List Value} (F : List Value → List Value) (hu : P.underlying t = some (.slice e)) (hp : ps.map (fun p => f.ev p.2) = vs.map some) (_hcs : cs = F vs) (hb : bsl P e len ((ps.map (·.1)).zip vs) = some ⟨cs⟩) :
    OkR P f ⟨d, .buildSlice t len ⟨ps⟩, ty, pos, af, g⟩ h (fun u h' => ∃ b, u = .slice (some ⟨b, 0, Option.none⟩) len len ∧ New h (.cells ⟨cs⟩ e (0, 0)) b h') := by
  intro ρ w ha hw
  subst hw
  have hps : ps.map (fun p => (p.1, ρ p.2)) = (ps.map (·.1)).zip vs := by
    clear hb _hcs
    induction ps generalizing vs with
    | nil => cases vs <;> simp_all
    | cons p ps ih =>
      cases vs with
      | nil => simp at hp
      | cons v vs =>
        simp only [List.map_cons, List.cons.injEq] at hp
        simp only [List.map_cons, List.zip_cons_cons, List.cons.injEq, Prod.mk.injEq, true_and]
        exact ⟨ha _ _ hp.1, ih hp.2⟩
  have e2 : (Array.map (fun x : Nat × Operand => (x.fst, ρ x.snd)) ⟨ps⟩).toList = (ps.map (·.1)).zip vs := by simp [hps]
  unfold bsl at hb
  cases hi : P.info? e with
  | none => rw [hi] at hb; cases hb
  | some ie =>
    rw [hi] at hb
    simp only at hb
    cases hz : ie.zero with
    | none => rw [hz] at hb; cases hb
    | some z =>
      rw [hz] at hb
      simp only at hb
      by_cases hs : len * ie.size > 2 ^ 24
      · rw [if_pos hs] at hb; cases hb
      · rw [if_neg hs] at hb
        refine ⟨_, w.alloc (.cells ⟨cs⟩ e (0, 0)), ⟨rfl, rfl, rfl, trivial⟩, ⟨w.heap.size, rfl, new_push _ _⟩, .inl ?_⟩
        have hsz : ∀ w, (sizeOf e).run P w = .ok ie.size w := fun w => by simp [sizeOf, typeInfo, hi]
        have hzv : ∀ w, (zeroValue e).run P w = .ok z w := fun w => by simp [zeroValue, typeInfo, hi, hz]
        by_cases h0 : len * ie.size = 0
        · simp only [if_pos h0] at hb
          simp only [execOp, Instr.buildSlice, run_underlying hu, hsz, if_neg hs, if_pos h0, Sem.run_bind, Sem.run_pure, Result.andThen_ok]
          rw [e2, hb]
          simp [newRow, newObj, Sem.run]
        · simp only [if_neg h0] at hb
          simp only [execOp, Instr.buildSlice, run_underlying hu, hsz, hzv, if_neg hs, if_neg h0, Sem.run_bind, Sem.run_pure, Result.andThen_ok]
          rw [e2, hb]
          simp [newRow, newObj, Sem.run]
theorem rd_blk {b len sz : Nat} {cs : List Value} {e : TypeId} {z : Nat × Nat} (hb : h[b]? = some (.cells ⟨cs⟩ e z)) (hl : cs.length = len * sz) : Rd h (.slice (some ⟨b, 0, Option.none⟩) len len) sz len cs :=
  ⟨_, _, rfl, Nat.le_refl _, hl, fun _ => ⟨b, 0, rfl, lt_of_some hb, At.of_block hb⟩⟩
theorem own_blk {b len sz : Nat} {cs : List Value} {e : TypeId} (hb : h[b]? = some (.cells ⟨cs⟩ e (0, 0))) (hl : cs.length = len * sz) (hm : len ≤ maxLen) : Own h (.slice (some ⟨b, 0, Option.none⟩) len len) e sz len cs :=
  ⟨hl, .inr ⟨b, len, ⟨cs⟩, rfl, hb, Nat.le_refl _, hm, by simpa using hl, by simp [← hl]⟩⟩
theorem CallsH.as {k : FuncId} {args : Array Value} {v v' : Value} (hc : CallsH P k args h (fun u h' => u = v ∧ h' = h)) (e : v = v') : CallsH P k args h (fun u h' => u = v' ∧ h' = h) := hc.mono fun _ _ p => ⟨p.1.trans e, p.2⟩
theorem cell_blk {b o : Nat} {cs : List Value} {t : TypeId} {z : Nat × Nat} {v : Value} (hb : h[b]? = some (.cells ⟨cs⟩ t z)) (hv : cs[o]? = some v) : cell h ⟨b, o, Option.none⟩ = some v := by
  rw [cell_of hb]; simpa using hv
theorem Ext.blk {S : Nat → Prop} {h' : Heap} (a : Ext S h h') {b : Nat} {o : Obj} (hb : h[b]? = some o) (hS : ¬ S b) : h'[b]? = some o := a.obj hb hS
end
end Go.RK

/-
  ARGUMENTS THAT CAME IN, READ AS PLAIN DATA; a law's contract, lifted into its row. No program is named here.
-/
namespace Go.RK
open Go Go.ChangeShapes Go.WideShapes Go.ChangeAt Go.RowKit Go.Deep

theorem length_flat {α : Type} {sz : Nat} {F : α → List Value} (hl : ∀ a, (F a).length = sz) (l : List α) : (l.flatMap F).length = l.length * sz := by
  induction l with
  | nil => simp
  | cons a l ih => simp [ih, hl, Nat.add_mul, Nat.add_comm]


/-- Whatever reads at type t has cells of the form F a, with Q a. -/
def Opens (P : Program) (w : World) (t : TypeId) {α : Type} (F : α → List Value) (Q : α → Prop) : Prop :=
  ∀ (H : Type) (enc : TypeId × Value → H) (base : Nat) (spare : Nat → Bool) (held : Bool) (fuel : Nat) (cs : List Value) (x : DataW H × List MemPlace), DataW.trod enc P w base spare held fuel t cs = some x → (∀ n ∈ x.1.weights P t, n ≤ reachBytes) → ∃ a, cs = F a ∧ Q a
section
variable {P : Program} {w : World} {t : TypeId}
theorem Opens.map {α β : Type} {F : α → List Value} {Q : α → Prop} (o : Opens P w t F Q) (g : α → β) {F' : β → List Value} {Q' : β → Prop} (hF : ∀ a, F a = F' (g a)) (hQ : ∀ a, Q a → Q' (g a)) : Opens P w t F' Q' := by
  intro H enc base spare held fuel cs x h hz
  obtain ⟨a, rfl, q⟩ := o H enc base spare held fuel cs x h hz
  exact ⟨g a, hF a, hQ a q⟩
theorem opens_int {k : IntKind} (ht : P.underlying t = some (.int k)) : Opens P w t (fun n : Int => [.int k n]) (fun n => (Lit.int k n).wf = true) := by
  intro H enc base spare held fuel cs x h _
  obtain ⟨n, h1, _, h2⟩ := DataW.trod_int ht h
  exact ⟨n, h1, h2⟩
theorem opens_bool (ht : P.underlying t = some .bool) : Opens P w t (fun b : Bool => [.bool b]) (fun _ => True) := by
  intro H enc base spare held fuel cs x h _
  obtain ⟨b, h1, _⟩ := DataW.trod_bool ht h
  exact ⟨b, h1, trivial⟩
theorem opens_string (ht : P.underlying t = some .string) : Opens P w t (fun l : List UInt8 => [St l]) (fun l => l.length ≤ reachBytes) := by
  intro H enc base spare held fuel cs x h hz
  obtain ⟨s, h1, rfl, h2⟩ := DataW.trod_string ht h
  exact ⟨s.data.toList, h1, hz _ (by simp [DataW.weights])⟩
/-- Fields, one behind the other from cell o on. -/
def OpensF (P : Program) (w : World) (o : Nat) (fs : List Field) {α : Type} (F : α → List Value) (Q : α → Prop) : Prop :=
  ∀ (H : Type) (enc : TypeId × Value → H) (base : Nat) (spare : Nat → Bool) (held : Bool) (n : Nat) (cs : List Value),
    (∀ f ∈ fs, ∃ x, DataW.trod enc P w base spare held n f.type ((cs.drop f.offset).take (P.cellsOf f.type)) = some x ∧ ∀ n ∈ x.1.weights P f.type, n ≤ reachBytes) → ∃ a, (cs.drop o).take (F a).length = F a ∧ (F a).length = (fs.map fun f => P.cellsOf f.type).sum ∧ Q a
theorem opensF_nil {o : Nat} : OpensF P w o [] (fun _ : Unit => []) (fun _ => True) := fun _ _ _ _ _ _ _ _ => ⟨(), by simp, by simp, trivial⟩
theorem opensF_cons {α β : Type} {o : Nat} {f : Field} {fs : List Field} {F : α → List Value} {Q : α → Prop} {G : β → List Value} {R : β → Prop} {sz : Nat} (ho : f.offset = o) (h1 : Opens P w f.type F Q) (hc : P.cellsOf f.type = sz) (hl : ∀ a, (F a).length = sz) (h2 : OpensF P w (o + sz) fs G R) :
    OpensF P w o (f :: fs) (fun p : α × β => F p.1 ++ G p.2) (fun p => Q p.1 ∧ R p.2) := by
  intro H enc base spare held n cs h
  obtain ⟨x, hx, hz⟩ := h f (by simp)
  obtain ⟨a, ha, qa⟩ := h1 H enc base spare held n _ _ hx hz
  obtain ⟨b, hb, hbl, qb⟩ := h2 H enc base spare held n cs fun g hg => h g (by simp [hg])
  refine ⟨(a, b), ?_, ?_, qa, qb⟩
  · rw [ho, hc] at ha
    simp only [List.length_append]
    rw [List.take_add, hl, ha, List.drop_drop, hb]
  · simp [hl, hc, hbl]
theorem opens_struct {α : Type} {fs : List Field} {F : α → List Value} {Q : α → Prop} (ht : P.underlying t = some (.struct ⟨fs⟩)) (hc : P.cellsOf t = (fs.map fun f => P.cellsOf f.type).sum) (hf : OpensF P w 0 fs F Q) : Opens P w t F Q := by
  intro H enc base spare held fuel cs x h hz
  obtain ⟨xs, n, _, rfl, hl, hxl, hi⟩ := DataW.trod_struct ht h
  obtain ⟨a, ha, hal, q⟩ := hf H enc base spare held n cs fun f hm => by
    obtain ⟨i, hi', e⟩ := List.mem_iff_getElem.1 hm
    have h1 := hi i f (by simp [← e, hi'])
    have h2 : i < xs.length := by rw [hxl]; simpa using hi'
    rw [List.getElem?_eq_getElem h2] at h1
    refine ⟨_, h1, fun m hm => hz m ?_⟩
    simp only [DataW.weights, ht]
    exact DataW.weights_mem_each (j := i) (by simp [List.getElem?_eq_getElem hi', e]) (by simp [List.getElem?_eq_getElem h2]) m hm
  refine ⟨a, ?_, q⟩
  rw [← ha, List.drop_zero, List.take_of_length_le (by omega)]
theorem weightsAll_mem {H : Type} {P : Program} {e : TypeId} : ∀ {l : List (DataW H)} {d : DataW H}, d ∈ l → ∀ n ∈ d.weights P e, n ∈ DataW.weightsAll P e l
  | c :: l, d, hd, n, hn => by
    simp only [DataW.weightsAll, List.mem_append]
    rcases List.mem_cons.1 hd with rfl | hd
    · exact .inl hn
    · exact .inr (weightsAll_mem hd n hn)
theorem cell_spot {h : Heap} {a : Addr} {v : Value} (hc : cell h a = some v) : a.spot = Option.none := by
  unfold cell at hc
  split at hc
  · split at hc
    · cases hc
    · rename_i h1; simpa using h1
  · cases hc
theorem opens_slice {α : Type} {e : TypeId} {F : α → List Value} {Q : α → Prop} {sz : Nat} (ht : P.underlying t = some (.slice e)) (hc : P.cellsOf e = sz) (hp : 0 < sz) (hl : ∀ a, (F a).length = sz) (h1 : Opens P w e F Q) :
    Opens P w t (fun p : Value × List α => [p.1]) (fun p => Rd w.heap p.1 sz p.2.length (p.2.flatMap F) ∧ p.2.length ≤ maxLen ∧ (∃ A c, p.1 = .slice A p.2.length c ∧ c ≤ maxLen) ∧ (∀ a ∈ p.2, Q a) ∧ p.2.length * P.bytesOf e ≤ reachBytes) := by
  intro H enc base spare held fuel cs x h hz
  rcases open_slice ht h with ⟨rfl, _⟩ | ⟨a, len, cap, m, n, D, Pl, rfl, hb, hle, hm, hme, rfl, hi⟩
  · exact ⟨(.slice Option.none 0 0, []), rfl, Rd.nil _ _, by simp [maxLen], ⟨_, _, rfl, by simp [maxLen]⟩, by simp, by simp⟩
  · rw [hc] at hi
    have hml : len ≤ m := by rw [hme]; split <;> omega
    have key : ∀ k, k ≤ len → ∃ l : List α, l.length = k ∧ (∀ a ∈ l, Q a) ∧ ∀ (j : Nat) (v : Value), (l.flatMap F)[j]? = some v → w.cell? (a.add j) = some v := by
      intro k
      induction k with
      | zero => intro _; exact ⟨[], rfl, by simp, by simp⟩
      | succ k ih =>
        intro hk
        obtain ⟨l, hll, hq, hj⟩ := ih (by omega)
        obtain ⟨cs', hcs, htr⟩ := hi k (by omega)
        obtain ⟨b, rfl, qb⟩ := h1 H enc base spare held n _ _ htr fun m hm => hz m (by
          simp only [DataW.weights, ht, List.mem_cons, List.mem_append]
          exact .inr (.inl (weightsAll_mem (List.mem_map.2 ⟨k, List.mem_range.2 (by omega), rfl⟩) m hm)))
        obtain ⟨_, hcl, hcell⟩ := World.cells?_some hcs
        have hfl : (l.flatMap F).length = k * sz := by rw [← hll]; exact length_flat hl l
        refine ⟨l ++ [b], by simp [hll], ?_, ?_⟩
        · intro c hcm
          rcases List.mem_append.1 hcm with hcm | hcm
          · exact hq c hcm
          · simp at hcm; subst hcm; exact qb
        · intro j v hv
          simp only [List.flatMap_append, List.flatMap_cons, List.flatMap_nil, List.append_nil] at hv
          by_cases hjl : j < (l.flatMap F).length
          · rw [List.getElem?_append_left hjl] at hv
            exact hj j v hv
          · rw [List.getElem?_append_right (by omega)] at hv
            have hlt := (List.getElem?_eq_some_iff.1 hv).1
            have h2 := hcell (j - (l.flatMap F).length) (by rw [← hl b]; exact hlt)
            rw [hv] at h2
            rw [← h2, Go.Deep.add_add]
            congr 2
            omega
    obtain ⟨l, hll, hq, hj⟩ := key len (Nat.le_refl _)
    refine ⟨(.slice (some a) len cap, l), rfl, ⟨some a, cap, by rw [hll], by show l.length ≤ cap; omega, ?_, fun hn => ?_⟩, by show l.length ≤ _; omega, ⟨_, _, by rw [hll], hm⟩, hq, by
      have := hz _ (by simp only [DataW.weights, ht]; exact List.mem_cons_self)
      refine Nat.le_trans (Nat.mul_le_mul_right _ ?_) this
      simp [hll]⟩
    · exact length_flat hl l
    · have h0 : 0 < (l.flatMap F).length := by
        cases l with
        | nil => simp at hn
        | cons a l => simp [hl]; omega
      have hc0 := hj 0 _ (List.getElem?_eq_getElem h0)
      rw [Addr.add_zero'] at hc0
      obtain ⟨b, o, spot⟩ := a
      have hs : spot = Option.none := cell_spot hc0
      subst hs
      refine ⟨b, o, rfl, cell_lt hc0, fun j v hv => ?_⟩
      have := hj j v hv
      rw [Addr.add_lit] at this
      exact this
end

theorem At.elem {α : Type} {h : Heap} {b o sz : Nat} {F : α → List Value} (hl : ∀ a, (F a).length = sz) {xs : List α} (ha : At h b o (xs.flatMap F)) {k : Nat} {x : α} (hk : xs[k]? = some x) : At h b (o + k * sz) (F x) := by
  intro j v hv
  have hlt := (List.getElem?_eq_some_iff.1 hv).1
  rw [hl] at hlt
  have key : ∀ (xs : List α) (k : Nat), xs[k]? = some x → (xs.flatMap F)[k * sz + j]? = some v := by
    intro xs
    induction xs with
    | nil => intro k hk; simp at hk
    | cons y ys ih =>
      intro k hk
      cases k with
      | zero =>
        simp only [List.getElem?_cons_zero, Option.some.injEq] at hk
        subst hk
        simp only [List.flatMap_cons, Nat.zero_mul, Nat.zero_add]
        rw [List.getElem?_append_left (by rw [hl]; exact hlt)]
        exact hv
      | succ k =>
        simp only [List.getElem?_cons_succ] at hk
        simp only [List.flatMap_cons]
        rw [List.getElem?_append_right (by rw [hl, Nat.add_mul]; omega), hl]
        have : (k + 1) * sz + j - sz = k * sz + j := by rw [Nat.add_mul]; omega
        rw [this]
        exact ih k hk
  have := ha (k * sz + j) v (key xs k hk)
  rwa [← Nat.add_assoc] at this
theorem law_calls {P : Program} {k : FuncId} {args : List Value} {w : World} (hc : CallsH P k ⟨args⟩ w.heap (fun u h' => u = .bool true ∧ Ext No w.heap h')) :
    Calls P k ⟨args⟩ w fun e w' => e = .returned (.bool true) ∧ Below w.heap.size w w' :=
  (hc w rfl).mono fun _ _ ⟨hs, v, he, hv, hx⟩ => ⟨by rw [he, hv], ⟨hs.os, hs.tape, hs.output, hx.size, fun b hb => hx.keep b hb id⟩⟩
end Go.RK

/-
  REGIONS THAT DRAW THEIR ORDER AND MAKE OR WRITE MEMORY: what only reads is taken first; what writes at last waits for all else. No program is named here.
-/
namespace Go.RK
open Go

section
variable {P : Program} {ops : Array Oper} {Q : Exit → Act → World → Prop} {md : Region.Mode} {C : Heap → Prop} {k : Nat}
/-- None of the operations from number k on has come up. -/
def Early (ops : Array Oper) (k : Nat) (L : Array Bool) : Prop := ∀ j, k ≤ j → j < ops.size → L.getD j true = false
/-- Whatever order is picked from here on; AS LONG AS NONE OF THE OPERATIONS FROM NUMBER k ON HAS COME UP, C holds of the heap. -/
def wpA (P : Program) (md : Region.Mode) (ops : Array Oper) (Q : Exit → Act → World → Prop) (C : Heap → Prop) (k : Nat) : Nat → Array Bool → Act → World → Prop
  | 0, listed, a, w => Region.ready md ops listed = [] ∧ Q .normal a w
  | fuel + 1, listed, a, w =>
    (Region.ready md ops listed = [] → Q .normal a w) ∧
    ∀ i ∈ Region.ready md ops listed, wpOp P ops Q i (fun a' w' => (Early ops k (listed.setIfInBounds i true) → C w'.heap) ∧ wpA P md ops Q C k fuel (listed.setIfInBounds i true) a' w') a w
theorem wpAny_of_A : ∀ (fuel : Nat) (listed : Array Bool) (a : Act) (w : World), wpA P md ops Q C k fuel listed a w → wpAny P md ops Q fuel listed a w
  | 0, _, _, _, h => h
  | fuel + 1, _, _, _, h => ⟨h.1, fun i hi => wpOp_mono (fun a' w' h' => wpAny_of_A fuel _ a' w' h'.2) (h.2 i hi)⟩

theorem not_ready_of_waits {i j : Nat} {listed : Array Bool} (hw : Region.waitsFor md ops j i = true) (hi : listed.getD i true = false) : j ∉ Region.ready md ops listed := by
  intro hj
  obtain ⟨oj, hoj, e, he, hb, hon⟩ := Region.waitsFor_spec hw
  obtain ⟨_, oj', hoj', hall⟩ := mem_ready.1 hj
  rw [hoj] at hoj'
  injection hoj' with hoj'
  subst hoj'
  have h1 := hall e he hb
  rw [hon] at h1
  rcases Nat.lt_or_ge i listed.size with h' | h'
  · simp [h'] at hi h1; rw [hi] at h1; cases h1
  · simp [Array.getElem?_eq_none h'] at h1
theorem Early.set {L : Array Bool} (h : Early ops k L) {i : Nat} (hi : i < k) : Early ops k (L.setIfInBounds i true) := fun j hj hs => by
  rw [getD_set_ne true (by omega)]; exact h j hj hs

theorem wpA_first {i : Nat} {oi : Oper} {v : Value} (hi : ops[i]? = some oi) (hsel : ∀ (j : Nat) (o : Oper) cs b, ops[j]? = some o → o.op ≠ .select cs b)
    (hQ : ∀ c a w, Q (.panic c) (a.put oi.dst v) w → Q (.panic c) a w) (hik : i < k) (hw : ∀ j, k ≤ j → j < ops.size → Region.waitsFor md ops j i = true) :
    ∀ (fuel : Nat) (listed : Array Bool) (a : Act) (w : World), Early ops k listed →
      (∀ j oj, ops[j]? = some oj → j ≠ i → listed.getD j true = false → (∀ e ∈ oj.after, Region.binds md e = true → e.on ≠ i) → oi.apart ops oj = true) →
      i ∈ Region.ready md ops listed → YieldsIf P ops (fun w => C w.heap) oi v a → C w.heap →
      wpA P md ops Q C k fuel (listed.setIfInBounds i true) (a.put oi.dst v) w → wpA P md ops Q C k (fuel + 1) listed a w := by
  intro fuel
  induction fuel with
  | zero =>
    intro listed a w _ _ hr hy hS H
    refine ⟨fun h => (by rw [h] at hr; cases hr), fun j hj => ?_⟩
    by_cases hji : j = i
    · subst hji; exact hy.wpOp hi hS ⟨fun _ => hS, H⟩
    · have := ready_mono hj hji
      rw [H.1] at this
      cases this
  | succ fuel ih =>
    intro listed a w hE hfree hr hy hS H
    refine ⟨fun h => (by rw [h] at hr; cases hr), fun j hj => ?_⟩
    by_cases hji : j = i
    · subst hji; exact hy.wpOp hi hS ⟨fun _ => hS, H⟩
    · have h1 := H.2 j (ready_mono hj hji)
      obtain ⟨hjun, oj, hoj, hall⟩ := mem_ready.1 hj
      have hiun := (mem_ready.1 hr).1
      have hjs : j < ops.size := (Array.getElem?_eq_some_iff.1 hoj).1
      have hjk : j < k := by
        rcases Nat.lt_or_ge j k with h' | h'
        · exact h'
        · exact absurd hj (not_ready_of_waits (hw j h' hjs) hiun)
      have hnot : ∀ e ∈ oj.after, Region.binds md e = true → e.on ≠ i := fun e he hb heq => by
        have h1 := hall e he hb
        rw [heq] at h1
        rcases Nat.lt_or_ge i listed.size with h' | h'
        · simp [h'] at hiun h1; rw [hiun] at h1; cases h1
        · simp [Array.getElem?_eq_none h'] at h1
      have h2 := wpOp_putIf hoj (hfree j oj hoj hji hjun hnot) (fun cs b => hsel i oi cs b hi) (fun cs b => hsel j oj cs b hoj) hQ hy h1
      have hfree' : ∀ k ok, ops[k]? = some ok → k ≠ i → (listed.setIfInBounds j true).getD k true = false →
          (∀ e ∈ ok.after, Region.binds md e = true → e.on ≠ i) → oi.apart ops ok = true := fun k ok hk hki hun hno => by
        refine hfree k ok hk hki ?_ hno
        by_cases hjk : j = k
        · subst hjk; exact hjun
        · rw [getD_set_ne true hjk] at hun; exact hun
      have hE' : Early ops k (listed.setIfInBounds j true) := hE.set hjk
      refine wpOp_mono (fun a' w' h3 => ?_) h2
      have hC : C w'.heap := h3.2.1 (by rw [Array.setIfInBounds_comm _ _ (Ne.symm hji)]; exact hE'.set hik)
      refine ⟨fun _ => hC, ih (listed.setIfInBounds j true) a' w' hE' hfree' (ready_mono hr (Ne.symm hji)) h3.1 hC ?_⟩
      rw [Array.setIfInBounds_comm _ _ hji]
      exact h3.2.2
end

theorem lt_blt {d n : Nat} (hd : d < n) : Nat.blt d n = true := by
  have h1 : d + 1 ≤ n := hd
  simpa [Nat.blt, Nat.ble_eq] using h1

/-! ### over frames known in part -/
def noPanic (Q : Exit → Act → World → Prop) : Exit → Act → World → Prop
  | .panic _, _, _ => False
  | e, a, w => Q e a w
theorem noPanic_imp {Q : Exit → Act → World → Prop} (e : Exit) (a : Act) (w : World) (h : noPanic Q e a w) : Q e a w := by cases e <;> first | exact h | exact h.elim

section
variable {P : Program} {n : Env} {Q : Post} {f : Fr} {h : Heap} {l : List Oper} {C : Heap → Prop} {k fuel : Nat} {L : Array Bool}
def WH (P : Program) (n : Env) (l : List Oper) (Q : Post) (C : Heap → Prop) (k fuel : Nat) (L : Array Bool) (f : Fr) (h : Heap) : Prop :=
  ∀ (w0 : World) (a : Act) (w : World), Same w0 w → Rep n a f → w.heap = h → wpA P .any l.toArray (noPanic (toAct n Q w0)) C k fuel L a w
theorem WC.drawH {id : Nat} {l : List Oper} (C : Heap → Prop) (k fuel : Nat) (hf : l.length = fuel) (hm : P.follows .mixedOrders = true)
    (hq : WH P n l Q C k fuel (Array.replicate fuel false) f h) (hd : n.ro = Option.none ∨ noDef l = true := by first | exact .inl rfl | exact .inr rfl) : WC P n (.region id l.toArray true) Q f h := by
  intro a w ha hw
  refine wpIn_mono (any_in (Q := noPanic (toAct n Q w)) (by simpa using hd) (fun ⟨_, _, hh⟩ => toAct.shut ⟨_, _, hh⟩) hm ?_) noPanic_imp
  have := wpAny_of_A _ _ _ _ (hq w a { w with drawn := w.drawn + 1 } ⟨rfl, rfl, rfl, trivial⟩ ha hw)
  subst hf
  exact this
/-- Number i only reads: it is taken first. -/
theorem WH.take {o : Oper} {v : Value} {t : Nat} (i : Nat) (hi : l[i]? = some o) (hs : Region.noSelect l.toArray = true) (hfr : Region.free .any l.toArray L i = true) (hr : (Region.ready .any l.toArray L).contains i = true)
    (hE : (List.range l.length).all (fun j => Nat.blt j k || (!L.getD j true && Region.waitsFor .any l.toArray j i)) = true) (hik : Nat.blt i k = true) (hC : C h)
    (hok : ∀ h', C h' → OkP P f o h' v) (hg : goes f l o = true) (hd : o.dst = some t) (ht : Nat.blt t n.n = true)
    (hk : WH P n l Q C k fuel (L.setIfInBounds i true) ((t, v) :: f) h) : WH P n l Q C k (fuel + 1) L f h := by
  intro w0 a w hsm ha hw
  have hEall : ∀ j, k ≤ j → j < l.toArray.size → L.getD j true = false ∧ Region.waitsFor .any l.toArray j i = true := by
    intro j hj hjs
    have := List.all_eq_true.1 hE j (by simpa using hjs)
    have hb : Nat.blt j k = false := by
      cases e : Nat.blt j k
      · rfl
      · have := blt_lt e; omega
    simpa [hb] using this
  refine wpA_first (by simpa using hi) (Region.noSelect_spec hs) (fun c a w q => q) (blt_lt hik) (fun j hj hjs => (hEall j hj hjs).2) fuel L a w (fun j hj hjs => (hEall j hj hjs).1)
    (Region.free_spec (by simpa using hi) hfr) (by simpa using hr) (.inl ⟨goes_wanted ha hg, fun w' hC' => hok _ hC' _ w' ha.agrees rfl⟩) (by rw [hw]; exact hC) ?_
  rw [hd]
  exact hk w0 _ w hsm (ha.put ht _) hw
theorem WH.pass {o : Oper} {t : Nat} (i : Nat) (hi : l[i]? = some o) (hs : Region.noSelect l.toArray = true) (hfr : Region.free .any l.toArray L i = true) (hr : (Region.ready .any l.toArray L).contains i = true)
    (hE : (List.range l.length).all (fun j => Nat.blt j k || (!L.getD j true && Region.waitsFor .any l.toArray j i)) = true) (hik : Nat.blt i k = true) (hC : C h)
    (hg : stops f l o = true) (hd : o.dst = some t) (ht : Nat.blt t n.n = true)
    (hk : WH P n l Q C k fuel (L.setIfInBounds i true) ((t, undef) :: f) h) : WH P n l Q C k (fuel + 1) L f h := by
  intro w0 a w hsm ha hw
  have hEall : ∀ j, k ≤ j → j < l.toArray.size → L.getD j true = false ∧ Region.waitsFor .any l.toArray j i = true := by
    intro j hj hjs
    have := List.all_eq_true.1 hE j (by simpa using hjs)
    have hb : Nat.blt j k = false := by
      cases e : Nat.blt j k
      · rfl
      · have := blt_lt e; omega
    simpa [hb] using this
  refine wpA_first (by simpa using hi) (Region.noSelect_spec hs) (fun c a w q => q) (blt_lt hik) (fun j hj hjs => (hEall j hj hjs).2) fuel L a w (fun j hj hjs => (hEall j hj hjs).1)
    (Region.free_spec (by simpa using hi) hfr) (by simpa using hr) (.inr ⟨stops_wanted ha hg, rfl⟩) (by rw [hw]; exact hC) ?_
  rw [hd]
  exact hk w0 _ w hsm (ha.put ht _) hw
theorem WH.part (t : Nat) {b : Bool} (hb : f.get t = some (.bool b)) (h1 : b = true → WH P n l Q C k fuel L ((t, .bool true) :: f) h) (h2 : b = false → WH P n l Q C k fuel L ((t, .bool false) :: f) h) : WH P n l Q C k fuel L f h := by
  cases b
  · exact fun w0 a w hs ha hw => h2 rfl w0 a w hs (ha.sub_set hb) hw
  · exact fun w0 a w hs ha hw => h1 rfl w0 a w hs (ha.sub_set hb) hw
/-- What comes up next, if it is number i. -/
def Comes1 (P : Program) (n : Env) (l : List Oper) (Q : Post) (C : Heap → Prop) (k fuel : Nat) (L : Array Bool) (f : Fr) (h : Heap) (i : Nat) : Prop :=
  ∀ (w0 : World) (a : Act) (w : World), Same w0 w → Rep n a f → w.heap = h →
    wpOp P l.toArray (noPanic (toAct n Q w0)) i (fun a' w' => (Early l.toArray k (L.setIfInBounds i true) → C w'.heap) ∧ wpA P .any l.toArray (noPanic (toAct n Q w0)) C k fuel (L.setIfInBounds i true) a' w') a w
theorem WH.one (i : Nat) (hr : Region.ready .any l.toArray L = [i]) (h1 : Comes1 P n l Q C k fuel L f h i) : WH P n l Q C k (fuel + 1) L f h :=
  fun w0 a w hs ha hw => ⟨fun e => (by rw [hr] at e; cases e), fun j hj => by rw [hr] at hj; simp at hj; subst hj; exact h1 w0 a w hs ha hw⟩
theorem WH.two (i j : Nat) (hr : Region.ready .any l.toArray L = [i, j]) (h1 : Comes1 P n l Q C k fuel L f h i) (h2 : Comes1 P n l Q C k fuel L f h j) : WH P n l Q C k (fuel + 1) L f h :=
  fun w0 a w hs ha hw => ⟨fun e => (by rw [hr] at e; cases e), fun m hj => by
    rw [hr] at hj
    simp at hj
    rcases hj with rfl | rfl
    · exact h1 w0 a w hs ha hw
    · exact h2 w0 a w hs ha hw⟩
theorem WH.done (hr : Region.ready .any l.toArray L = []) (hq : Q .normal f h) : WH P n l Q C k 0 L f h :=
  fun _ _ _ hs ha hw => ⟨hr, rfl, hs, _, ha, hw ▸ hq⟩
theorem Comes1.run {o : Oper} {R : Value → Heap → Prop} {i t : Nat} (hi : l[i]? = some o) (hok : OkR P f o h R) (hg : goes f l o = true) (hd : o.dst = some t) (ht : Nat.blt t n.n = true)
    (hk : ∀ v h', R v h' → (Nat.blt i k = true → C h') ∧ WH P n l Q C k fuel (L.setIfInBounds i true) ((t, v) :: f) h') (hlt : Nat.ble k i = true → Nat.blt i L.size = true) : Comes1 P n l Q C k fuel L f h i := by
  intro w0 a w hs ha hw
  unfold wpOp
  have hi' : l.toArray[i]? = some o := by simpa using hi
  simp only [hi', if_pos (goes_wanted ha hg)]
  refine .inl ?_
  obtain ⟨v, w', hs', hR, hrun⟩ := hok a.eval w ha.agrees hw
  unfold Oper.wp
  obtain ⟨hC, hW⟩ := hk v w'.heap hR
  have key : (Early l.toArray k (L.setIfInBounds i true) → C w'.heap) ∧ wpA P .any l.toArray (noPanic (toAct n Q w0)) C k fuel (L.setIfInBounds i true) (a.put o.dst v) w' := by
    refine ⟨fun hE => ?_, by rw [hd]; exact hW w0 _ w' (hs.trans hs') (ha.put ht _) rfl⟩
    rcases Nat.lt_or_ge i k with h' | h'
    · exact hC (lt_blt h')
    · have h1 := hE i h' (by simpa using (List.getElem?_eq_some_iff.1 hi).1)
      have h2 := blt_lt (hlt (by simpa [Nat.ble_eq] using h'))
      simp [h2] at h1
  rcases hrun with hrun | ⟨hrun, rfl⟩ <;> rw [hrun] <;> simp only [Oper.upon] <;> exact key
theorem Comes1.run0 {o : Oper} {R : Value → Heap → Prop} {i : Nat} (hi : l[i]? = some o) (hok : OkR P f o h R) (hg : goes f l o = true) (hd : o.dst = Option.none)
    (hk : ∀ v h', R v h' → (Nat.blt i k = true → C h') ∧ WH P n l Q C k fuel (L.setIfInBounds i true) f h') (hlt : Nat.ble k i = true → Nat.blt i L.size = true) : Comes1 P n l Q C k fuel L f h i := by
  intro w0 a w hs ha hw
  unfold wpOp
  have hi' : l.toArray[i]? = some o := by simpa using hi
  simp only [hi', if_pos (goes_wanted ha hg)]
  refine .inl ?_
  obtain ⟨v, w', hs', hR, hrun⟩ := hok a.eval w ha.agrees hw
  unfold Oper.wp
  obtain ⟨hC, hW⟩ := hk v w'.heap hR
  have key : (Early l.toArray k (L.setIfInBounds i true) → C w'.heap) ∧ wpA P .any l.toArray (noPanic (toAct n Q w0)) C k fuel (L.setIfInBounds i true) (a.put o.dst v) w' := by
    refine ⟨fun hE => ?_, by rw [hd]; exact hW w0 _ w' (hs.trans hs') ha rfl⟩
    rcases Nat.lt_or_ge i k with h' | h'
    · exact hC (lt_blt h')
    · have h1 := hE i h' (by simpa using (List.getElem?_eq_some_iff.1 hi).1)
      have h2 := blt_lt (hlt (by simpa [Nat.ble_eq] using h'))
      simp [h2] at h1
  rcases hrun with hrun | ⟨hrun, rfl⟩ <;> rw [hrun] <;> simp only [Oper.upon] <;> exact key
theorem Comes1.call {o : Oper} {i t : Nat} {fk : FuncId} {xs : List Operand} {vs : List Value} {ts : Array TypeId} {R : Value → Heap → Prop} (hi : l[i]? = some o) (ho : o.op = .call { callee := .value (.func fk), args := ⟨xs⟩, argTypes := ts })
    (hc : ∀ (args : Array Value) (w : World), (callFunc fk args).run P w = .ok (.enter fk args) w)
    (hx : xs.map f.ev = vs.map some) (hR : CallsH P fk ⟨vs⟩ h R) (hg : goes f l o = true) (hd : o.dst = some t) (ht : Nat.blt t n.n = true)
    (hk : ∀ v h', R v h' → (Nat.blt i k = true → C h') ∧ WH P n l Q C k fuel (L.setIfInBounds i true) ((t, v) :: f) h') (hlt : Nat.ble k i = true → Nat.blt i L.size = true) : Comes1 P n l Q C k fuel L f h i := by
  intro w0 a w hs ha hw
  unfold wpOp
  have hi' : l.toArray[i]? = some o := by simpa using hi
  simp only [hi', if_pos (goes_wanted ha hg)]
  refine .inl ?_
  have hargs : xs.map a.eval = vs := by
    clear ho hR
    induction xs generalizing vs with
    | nil => cases vs <;> simp_all
    | cons x xs ih =>
      cases vs with
      | nil => simp at hx
      | cons v vs =>
        simp only [List.map_cons, List.cons.injEq] at hx ⊢
        exact ⟨ha.agrees _ _ hx.1, ih hx.2⟩
  unfold Oper.wp
  have hrun : (execOp a.eval o).run P w = .ok (.enter fk ⟨vs⟩) w := by
    have e2 : Array.map a.eval ⟨xs⟩ = ⟨vs⟩ := by rw [← hargs]; simp
    simp [execOp, ho, resolve, Deferred.ofValue, invoke, Act.eval, e2, hc]
  rw [hrun]
  simp only [Oper.upon]
  refine (hR w hw).mono fun e w' ⟨hs', v, he, hv⟩ => ?_
  subst he
  obtain ⟨hC, hW⟩ := hk v w'.heap hv
  refine ⟨fun hE => ?_, by rw [hd]; exact hW w0 _ w' (hs.trans hs') (ha.put ht _) rfl⟩
  rcases Nat.lt_or_ge i k with h' | h'
  · exact hC (lt_blt h')
  · have h1 := hE i h' (by simpa using (List.getElem?_eq_some_iff.1 hi).1)
    have h2 := blt_lt (hlt (by simpa [Nat.ble_eq] using h'))
    simp [h2] at h1

/-! ### what only reads comes first, then a tail whose order is forced -/
def WS (P : Program) (n : Env) (l0 l : List Oper) (K : Fr → Prop) (f : Fr) (h : Heap) : Prop :=
  ∀ (a : Act) (w : World), Rep n a f → w.heap = h → wpStill P l0.toArray w (fun a' => ∃ g, Rep n a' g ∧ K g) l a
theorem wpStill_mono {ops : Array Oper} {w : World} {K K' : Act → Prop} (hK : ∀ a, K a → K' a) : ∀ (l : List Oper) (a : Act), wpStill P ops w K l a → wpStill P ops w K' l a
  | [], a, hq => hK a hq
  | o :: l, a, hq => by
    unfold wpStill at hq ⊢
    split
    · rename_i hw
      rw [if_pos hw] at hq
      unfold Oper.still at hq ⊢
      generalize (execOp a.eval o).run P w = r at hq ⊢
      cases r with
      | ok x w2 =>
        cases x <;> simp only [Oper.stillUpon] at hq ⊢ <;> first | exact hq | exact ⟨hq.1, wpStill_mono hK l _ hq.2⟩ | skip
        obtain ⟨h1, v, h2, h3⟩ := hq
        exact ⟨h1, v, h2, wpStill_mono hK l _ h3⟩
      | halt x w2 => exact hq
    · rename_i hw
      rw [if_neg hw] at hq
      exact wpStill_mono hK l _ hq
theorem any_still_tail {Q : Exit → Act → World → Prop} {a : Act} {w : World} {l : List Oper} (n : Nat) (hB : Region.lexTailB .any l.toArray n = true)
    (h : wpStill P l.toArray w (fun a' => wpList P l.toArray Q (l.drop n) a' w) (l.take n) a) : wpAny P .any l.toArray Q l.toArray.size (Array.replicate l.toArray.size false) a w := by
  simp only [Region.lexTailB, Bool.and_eq_true, decide_eq_true_eq] at hB
  obtain ⟨⟨⟨⟨hsel, hn⟩, hs⟩, hc⟩, hlex⟩ := hB
  have hn' : n < l.length := by simpa using hn
  have htl : (l.take n).length = n := by simp; omega
  have hdl : (l.drop n).length = l.toArray.size - n := by simp
  have inv0 : HeadInv .any l.toArray n (Array.replicate l.toArray.size false) :=
    ⟨by simp, fun j oj _ hl => (by rw [getD_replicate_false] at hl; cases hl), fun t _ ht => getD_in (by simpa using ht) (getD_replicate_false _ _)⟩
  have H := wpAnyL_lex (P := P) (md := .any) (g := l.toArray.size - n) hsel hs hc hn (l.take n) 0 _ a (fun j hj => by
    have hj' : j < n := by rw [htl] at hj; exact hj
    simp [hj']) (by simpa using htl) inv0 (by rw [htl]; exact hlex) h
  have := wpAny_of_head (P := P) (Q' := Q) (g := l.toArray.size - n) (fun listed a' hL => by
    have := wpAny_of_seq (P := P) (md := .any) (Q' := Q) (l.drop n) n listed a' w (fun j => by simp [List.getElem?_drop]) (by rw [hdl]; exact hL.1) hL.2
    rwa [hdl] at this) _ _ _ H
  rw [htl, show n + (l.toArray.size - n) = l.toArray.size by omega] at this
  exact this
theorem WC.drawT {id : Nat} {l : List Oper} (k : Nat) (hm : P.follows .mixedOrders = true) (hB : Region.lexTailB .any l.toArray k = true)
    (hq : WS P n l (l.take k) (fun g => WL P n l (l.drop k) Q g h) f h) (hd : n.ro = Option.none ∨ noDef l = true := by first | exact .inl rfl | exact .inr rfl) : WC P n (.region id l.toArray true) Q f h := by
  intro a w ha hw
  refine any_in (by simpa using hd) toAct.shut hm (any_still_tail k hB ?_)
  refine wpStill_mono ?_ _ _ (hq a { w with drawn := w.drawn + 1 } ha hw)
  rintro a' ⟨g, hg, hk⟩
  exact toAct_mono (w := w) (w' := { w with drawn := w.drawn + 1 }) ⟨rfl, rfl, rfl, trivial⟩ _ _ _ (hk a' { w with drawn := w.drawn + 1 } hg hw)
variable {K : Fr → Prop} {l0 rest : List Oper}
theorem WS.nil (hk : K f) : WS P n l0 [] K f h := fun _ _ ha _ => ⟨f, ha, hk⟩
theorem WS.step {o : Oper} {v : Value} {t : Nat} (hok : OkP P f o h v) (hg : goes f l0 o = true) (hd : o.dst = some t) (ht : Nat.blt t n.n = true) (hk : WS P n l0 rest K ((t, v) :: f) h) : WS P n l0 (o :: rest) K f h := by
  intro a w ha hw
  refine wpStill_step fun K' hK' => ?_
  rw [if_pos (goes_wanted ha hg)]
  unfold Oper.still
  rw [hok _ w ha.agrees hw, Oper.stillUpon_value, hd]
  exact hK' _ (hk _ w (ha.put ht _) hw)
theorem WS.pass {o : Oper} {t : Nat} (hg : stops f l0 o = true) (hd : o.dst = some t) (ht : Nat.blt t n.n = true) (hk : WS P n l0 rest K ((t, undef) :: f) h) : WS P n l0 (o :: rest) K f h := by
  intro a w ha hw
  refine wpStill_step fun K' hK' => ?_
  rw [if_neg (by rw [stops_wanted ha hg]; exact Bool.false_ne_true), hd]
  exact hK' _ (hk _ w (ha.put ht _) hw)
theorem WS.part {l : List Oper} (t : Nat) {b : Bool} (hb : f.get t = some (.bool b)) (h1 : b = true → WS P n l0 l K ((t, .bool true) :: f) h) (h2 : b = false → WS P n l0 l K ((t, .bool false) :: f) h) : WS P n l0 l K f h := by
  cases b
  · exact fun a w ha hw => h2 rfl a w (ha.sub_set hb) hw
  · exact fun a w ha hw => h1 rfl a w (ha.sub_set hb) hw
end
end Go.RK

/-
  MORE OPERATIONS: a slice cut with a bound on its capacity, clear, min and max. No program is named here.
-/
namespace Go.RK
open Go

section
variable {P : Program} {f : Fr} {h : Heap} {d : Option Tmp} {ty : TypeId} {pos : String} {af : Array Edge} {g : Option (Nat × Bool)}
theorem ok_slice_hm {t e : TypeId} {x hi mx : Operand} {A : Option Addr} {n c sz : Nat} {k m : Int} (ht : P.underlying t = some (.slice e)) (hz : ∀ w, (sizeOf e).run P w = .ok sz w) (hx : f.ev x = some (.slice A n c)) (hhi : f.ev hi = some (In k)) (hmx : f.ev mx = some (In m)) (h0 : 0 ≤ k ∧ k ≤ m ∧ m ≤ c) :
    OkP P f ⟨d, .slice t x Option.none (some hi) (some mx), ty, pos, af, g⟩ h (.slice A k.toNat m.toNat) :=
  fun ρ w ha _ => by
    have e' : (m.toNat : Int) = m := Int.toNat_of_nonneg (by omega)
    have e2 : (0 ≤ k ∧ k ≤ m) := ⟨h0.1, h0.2.1⟩
    have e3 : (0 ≤ m ∧ m ≤ (c : Int)) := ⟨by omega, h0.2.2⟩
    have e4 : (if m.toNat = 0 then A else A.map (·.add (0 * sz))) = A := by
      split
      · rfl
      · cases A <;> simp [Addr.add_zero']
    simp [execOp, ha _ _ hx, ha _ _ hhi, ha _ _ hmx, Instr.sliceAt, Instr.slice, run_underlying ht, Instr.sliceBounds, Instr.sliceBound, asIntOf, e2, e3, e', hz] at e4 ⊢
    exact e4
theorem ok_slice_lN {t e : TypeId} {x lo : Operand} {A : Option Addr} {n c sz l : Nat} (ht : P.underlying t = some (.slice e)) (hz : ∀ w, (sizeOf e).run P w = .ok sz w) (hx : f.ev x = some (.slice A n c)) (hlo : f.ev lo = some (In (l : Int))) (h0 : l ≤ n) :
    OkP P f ⟨d, .slice t x (some lo) Option.none Option.none, ty, pos, af, g⟩ h (.slice (if c = l then A else A.map (·.add (l * sz))) (n - l) (c - l)) := ok_slice_l ht hz hx hlo ⟨by omega, by omega⟩
theorem ok_slice_hmN {t e : TypeId} {x hi mx : Operand} {A : Option Addr} {n c sz k m : Nat} (ht : P.underlying t = some (.slice e)) (hz : ∀ w, (sizeOf e).run P w = .ok sz w) (hx : f.ev x = some (.slice A n c)) (hhi : f.ev hi = some (In (k : Int))) (hmx : f.ev mx = some (In (m : Int))) (h0 : k ≤ m ∧ m ≤ c) :
    OkP P f ⟨d, .slice t x Option.none (some hi) (some mx), ty, pos, af, g⟩ h (.slice A k m) := ok_slice_hm ht hz hx hhi hmx ⟨by omega, by omega, by omega⟩
theorem ok_min2 {x y : Operand} {k : IntKind} {a b : Int} {ts : Array TypeId} (hx : f.ev x = some (.int k a)) (hy : f.ev y = some (.int k b)) :
    OkP P f ⟨d, .call { callee := .builtin .min, args := #[x, y], argTypes := ts }, ty, pos, af, g⟩ h (.int k (if b < a then b else a)) :=
  fun ρ w ha _ => by simp [execOp, resolve, invoke, builtin, ha _ _ hx, ha _ _ hy, Builtin.min_, Builtin.min2]
theorem ok_max2 {x y : Operand} {k : IntKind} {a b : Int} {ts : Array TypeId} (hx : f.ev x = some (.int k a)) (hy : f.ev y = some (.int k b)) :
    OkP P f ⟨d, .call { callee := .builtin .max, args := #[x, y], argTypes := ts }, ty, pos, af, g⟩ h (.int k (if a < b then b else a)) :=
  fun ρ w ha _ => by simp [execOp, resolve, invoke, builtin, ha _ _ hx, ha _ _ hy, Builtin.max_, Builtin.max2]

theorem Rd.drop {A : Option Addr} {n c sz l : Nat} {xs : List Value} (r : Rd h (.slice A n c) sz n xs) (hl : l ≤ n) :
    Rd h (.slice (if c = l then A else A.map (·.add (l * sz))) (n - l) (c - l)) sz (n - l) (xs.drop (l * sz)) := by
  obtain ⟨A', c', e, r'⟩ := sliced_Rd r hl (Nat.le_refl n)
  simp only [Value.slice.injEq] at e
  obtain ⟨rfl, _, rfl⟩ := e
  rwa [List.take_of_length_le (by
    obtain ⟨_, _, _, _, hlen, _⟩ := r
    rw [List.length_drop, hlen, ← Nat.sub_mul]
    exact Nat.le_refl _)] at r'
theorem Rd.take {A : Option Addr} {n c sz k : Nat} {xs : List Value} (r : Rd h (.slice A n c) sz n xs) (hk : k ≤ n) : Rd h (.slice A k c) sz k (xs.take (k * sz)) := by
  obtain ⟨A', c', e, hc, hlen, hp⟩ := r
  simp only [Value.slice.injEq] at e
  obtain ⟨rfl, _, rfl⟩ := e
  refine ⟨A, c, rfl, by omega, ?_, fun hn => ?_⟩
  · rw [List.length_take, hlen]; exact Nat.min_eq_left (Nat.mul_le_mul_right _ hk)
  · obtain ⟨b, o, e, hb, hat⟩ := hp (by omega)
    exact ⟨b, o, e, hb, hat.take _⟩
theorem Own.block {v : Value} {e : TypeId} {sz n : Nat} {xs : List Value} (r : Own h v e sz n xs) (hn : 0 < n) : ∃ b c cs, v = .slice (some ⟨b, 0, Option.none⟩) n c ∧ h[b]? = some (.cells ⟨cs⟩ e (0, 0)) ∧ n ≤ c ∧ c ≤ maxLen ∧ cs.length = c * sz ∧ cs.take (n * sz) = xs := by
  obtain ⟨hl, ⟨rfl, rfl⟩ | ⟨b, c, cur, rfl, hb, h1, h2, h3, h4⟩⟩ := r
  · omega
  · exact ⟨b, c, cur.toList, rfl, hb, h1, h2, by simpa using h3, h4⟩
theorem Own.of_block {b c sz n : Nat} {cs : List Value} {e : TypeId} {xs : List Value} (hb : h[b]? = some (.cells ⟨cs⟩ e (0, 0))) (hn : n ≤ c) (hm : c ≤ maxLen) (hl : cs.length = c * sz) (hx : cs.take (n * sz) = xs) : Own h (.slice (some ⟨b, 0, Option.none⟩) n c) e sz n xs := by
  refine ⟨?_, .inr ⟨b, c, ⟨cs⟩, rfl, hb, hn, hm, by simpa using hl, hx⟩⟩
  rw [← hx, List.length_take, hl]
  exact Nat.min_eq_left (Nat.mul_le_mul_right _ hn)
theorem fresh_of {h : Heap} {v v' : Value} (hl : v'.ownBlock = v.ownBlock ∨ v'.ownBlock = some h.size) {B : Nat} (hv : ∀ k, v.ownBlock = some k → B ≤ k) (hB : B ≤ h.size) : ∀ k, v'.ownBlock = some k → B ≤ k := by
  intro k hk
  rcases hl with e | e
  · exact hv k (e ▸ hk)
  · rw [e] at hk; injection hk with hk; omega
end
end Go.RK

/-
  MORE OPERATIONS: division, conversions, texts cut, rows made, closures called, unsafe.String. No program is named here.
-/
namespace Go.RK
open Go

/-- A byte. -/
@[reducible] def By (b : UInt8) : Value := .int .u8 b.toNat
abbrev bys (l : List UInt8) : List Value := l.map By
theorem one_bys (l : List UInt8) : ∀ v ∈ bys l, v.oneCell' = true := by
  intro v hv
  obtain ⟨x, _, rfl⟩ := List.mem_map.1 hv
  rfl

section
variable {P : Program} {f : Fr} {h : Heap} {d : Option Tmp} {ty : TypeId} {pos : String} {af : Array Edge} {g : Option (Nat × Bool)}
section ints
variable {t t2 : TypeId} {x y : Operand} {k : IntKind} {a b : Int}
theorem ok_quo (hx : f.ev x = some (.int k a)) (hy : f.ev y = some (.int k b)) (hb : b ≠ 0) : OkP P f ⟨d, .binOp .quo t x y t2, ty, pos, af, g⟩ h (.int k (k.wrap (a.tdiv b))) :=
  fun ρ w ha _ => by simp [execOp, ha _ _ hx, ha _ _ hy, eqGuard, binOp, Op.intDiv, hb]
theorem ok_rem (hx : f.ev x = some (.int k a)) (hy : f.ev y = some (.int k b)) (hb : b ≠ 0) : OkP P f ⟨d, .binOp .rem t x y t2, ty, pos, af, g⟩ h (.int k (a.tmod b)) :=
  fun ρ w ha _ => by simp [execOp, ha _ _ hx, ha _ _ hy, eqGuard, binOp, Op.intDiv, hb]
theorem ok_quoI (hx : f.ev x = some (In a)) (hy : f.ev y = some (In b)) (hb : b ≠ 0) (h0 : -9223372036854775808 ≤ a.tdiv b ∧ a.tdiv b ≤ 9223372036854775807) : OkP P f ⟨d, .binOp .quo t x y t2, ty, pos, af, g⟩ h (In (a.tdiv b)) := by
  have := ok_quo (P := P) (d := d) (ty := ty) (pos := pos) (af := af) (g := g) (h := h) (t := t) (t2 := t2) hx hy hb
  rwa [wrap_i64 _ h0.1 h0.2] at this
theorem tdiv_in {a b : Int} (h : -9223372036854775808 ≤ a ∧ a ≤ 9223372036854775807) (hb : 1 < b) : -9223372036854775808 ≤ a.tdiv b ∧ a.tdiv b ≤ 9223372036854775807 := by
  have h1 : (a.tdiv b).natAbs ≤ a.natAbs := by rw [Int.natAbs_tdiv]; exact Nat.div_le_self _ _
  by_cases h0 : a < 0
  · have : a.tdiv b ≤ 0 := (by rw [← Int.neg_neg a, Int.neg_tdiv]; have : 0 ≤ (-a).tdiv b := Int.tdiv_nonneg (by omega) (by omega); omega)
    omega
  · have : 0 ≤ a.tdiv b := Int.tdiv_nonneg (by omega) (by omega)
    omega
theorem ok_neg (hx : f.ev x = some (.int k a)) : OkP P f ⟨d, .unOp .neg t x, ty, pos, af, g⟩ h (.int k (k.wrap (0 - a))) :=
  fun ρ w ha _ => by simp [execOp, ha _ _ hx, Op.unary, Op.intArith]
theorem ok_negI (hx : f.ev x = some (In a)) (h0 : -9223372036854775808 ≤ -a ∧ -a ≤ 9223372036854775807) : OkP P f ⟨d, .unOp .neg t x, ty, pos, af, g⟩ h (In (-a)) := by
  have := ok_neg (P := P) (d := d) (ty := ty) (pos := pos) (af := af) (g := g) (h := h) (t := t) hx
  rwa [wrap_i64 _ (by omega) (by omega), Int.zero_sub] at this
theorem ok_conv {src dst : TypeId} {u : TypeDesc} {k2 : IntKind} (hs : P.underlying src = some u) (hd : P.underlying dst = some (.int k2)) (hx : f.ev x = some (.int k a)) :
    OkP P f ⟨d, .convert src dst x, ty, pos, af, g⟩ h (.int k2 (k2.wrap a)) :=
  fun ρ w ha _ => by simp [execOp, ha _ _ hx, convert, run_underlying hs, run_underlying hd, Conv.intToInt]
theorem ok_convI {src dst : TypeId} {u : TypeDesc} (hs : P.underlying src = some u) (hd : P.underlying dst = some (.int .i64)) (hx : f.ev x = some (.int k a)) (h0 : -9223372036854775808 ≤ a ∧ a ≤ 9223372036854775807) :
    OkP P f ⟨d, .convert src dst x, ty, pos, af, g⟩ h (In a) := by
  have := ok_conv (P := P) (d := d) (ty := ty) (pos := pos) (af := af) (g := g) (h := h) hs hd hx
  rwa [wrap_i64 _ h0.1 h0.2] at this
theorem ok_convU8 {src dst : TypeId} {u : TypeDesc} (hs : P.underlying src = some u) (hd : P.underlying dst = some (.int .u8)) (hx : f.ev x = some (.int k a)) (h0 : 0 ≤ a ∧ a < 256) :
    OkP P f ⟨d, .convert src dst x, ty, pos, af, g⟩ h (.int .u8 a) := by
  have := ok_conv (P := P) (d := d) (ty := ty) (pos := pos) (af := af) (g := g) (h := h) hs hd hx
  rwa [IntKind.wrap_u8, Int.emod_eq_of_lt h0.1 h0.2] at this
end ints

theorem ok_slice_sl {t : TypeId} {x lo : Operand} {a : List UInt8} {k : IntKind} {i : Int} (hu : P.underlying t = some .string) (hx : f.ev x = some (St a)) (hlo : f.ev lo = some (.int k i)) (h0 : 0 ≤ i ∧ i ≤ a.length) :
    OkP P f ⟨d, .slice t x (some lo) Option.none Option.none, ty, pos, af, g⟩ h (St (a.drop i.toNat)) :=
  fun ρ w ha _ => by
    have hs : (ByteArray.mk ⟨a⟩).size = a.length := rfl
    have e : (ByteArray.mk ⟨a⟩).extract i.toNat a.length = ByteArray.mk ⟨(a.drop i.toNat).take (a.length - i.toNat)⟩ := ByteArray.extract_mk a _ _
    have e2 : (a.drop i.toNat).take (a.length - i.toNat) = a.drop i.toNat := List.take_of_length_le (by simp)
    rw [e2] at e
    have h1 : 0 ≤ i ∧ i ≤ (a.length : Int) := h0
    simp [execOp, ha _ _ hx, ha _ _ hlo, Instr.sliceAt, run_underlying hu, Instr.slice, Instr.sliceBounds, Instr.sliceBound, asIntOf, hs, h1, e]
theorem ok_slice_sh {t : TypeId} {x hi : Operand} {a : List UInt8} {k : IntKind} {j : Int} (hu : P.underlying t = some .string) (hx : f.ev x = some (St a)) (hhi : f.ev hi = some (.int k j)) (h0 : 0 ≤ j ∧ j ≤ a.length) :
    OkP P f ⟨d, .slice t x Option.none (some hi) Option.none, ty, pos, af, g⟩ h (St (a.take j.toNat)) :=
  fun ρ w ha _ => by
    have hs : (ByteArray.mk ⟨a⟩).size = a.length := rfl
    have e : (ByteArray.mk ⟨a⟩).extract 0 j.toNat = ByteArray.mk ⟨(a.drop 0).take (j.toNat - 0)⟩ := ByteArray.extract_mk a _ _
    have h1 : 0 ≤ j ∧ j ≤ (a.length : Int) := h0
    simp only [List.drop_zero, Nat.sub_zero] at e
    simp [execOp, ha _ _ hx, ha _ _ hhi, Instr.sliceAt, run_underlying hu, Instr.slice, Instr.sliceBounds, Instr.sliceBound, asIntOf, hs, h1, e]
/-- []byte of a text: a new row, which may be read. -/
theorem okE_convSB {src dst e : TypeId} {x : Operand} {a : List UInt8} {u : TypeDesc} (hs : P.underlying src = some u) (hd : P.underlying dst = some (.slice e)) (he : P.underlying e = some (.int .u8)) (hx : f.ev x = some (St a)) :
    OkR P f ⟨d, .convert src dst x, ty, pos, af, g⟩ h (fun v h' => ∃ b c, v = .slice (some ⟨b, 0, Option.none⟩) a.length c ∧ h.size ≤ b ∧ Rd h' v 1 a.length (bys a) ∧ Ext No h h') :=
  fun ρ w ha hw => by
    subst hw
    have hr := Lib.run_convert_string_bytes (P := P) w src dst e ⟨⟨a⟩⟩ hs hd he
    have hsz := Lib.bytesWorld_size w e ⟨⟨a⟩⟩
    have hcap : a.length ≤ grownCap w (ByteArray.mk ⟨a⟩).size 0 e := by
      have : (ByteArray.mk ⟨a⟩).size = a.length := rfl
      rw [this]
      exact grownCap_ge w _ _ e
    refine ⟨_, Lib.bytesWorld w e ⟨⟨a⟩⟩, ?_, ⟨w.heap.size, _, rfl, Nat.le_refl _, ⟨_, _, rfl, hcap, by simp, fun _ => ⟨_, 0, rfl, by omega, fun j v hj => ?_⟩⟩, ⟨by omega, fun b hb _ => Lib.bytesWorld_at_old w e _ b hb⟩⟩, .inl ?_⟩
    · unfold Lib.bytesWorld World.freeze
      split <;> exact ⟨rfl, rfl, rfl, trivial⟩
    · have hj' : j < a.length := by simpa using (List.getElem?_eq_some_iff.1 hj).1
      have := Lib.bytesWorld_cell w e ⟨⟨a⟩⟩ j hj'
      rw [Nat.zero_add]
      refine Eq.trans this ?_
      rw [← hj]
      simp [List.getD, hj']
    · simp [execOp, ha _ _ hx, hr]
      rfl
theorem foldl_push (l : List UInt8) (s : List UInt8) : (l.map fun b => (b.toNat : Int)).foldl (fun r n => r.push (UInt8.ofNat n.toNat)) (ByteArray.mk ⟨s⟩) = ByteArray.mk ⟨s ++ l⟩ := by
  induction l generalizing s with
  | nil => simp
  | cons b l ih =>
    have e : (ByteArray.mk ⟨s⟩).push (UInt8.ofNat (b.toNat : Int).toNat) = ByteArray.mk ⟨s ++ [b]⟩ := by
      apply ByteArray.ext
      simp [ByteArray.push]
    rw [List.map_cons, List.foldl_cons, e, ih]
    simp
/-- A text out of bytes. -/
theorem ok_convBS {src dst e : TypeId} {x : Operand} {A : Option Addr} {n c : Nat} {l : List UInt8} (hs : P.underlying src = some (.slice e)) (he : P.underlying e = some (.int .u8)) (hd : P.underlying dst = some .string) (hx : f.ev x = some (.slice A n c)) (hr : Rd h (.slice A n c) 1 n (bys l)) :
    OkP P f ⟨d, .convert src dst x, ty, pos, af, g⟩ h (St l) :=
  fun ρ w ha hw => by
    subst hw
    have hl : l.length = n := by obtain ⟨_, _, _, _, hl, _⟩ := hr; simpa using hl
    subst hl
    cases A with
    | none =>
      have h0 : l = [] := by
        cases l with
        | nil => rfl
        | cons a l => obtain ⟨b, o, e, _⟩ := Rd.at_ hr (by simp); cases e
      subst h0
      simp only [execOp, ha _ _ hx, Sem.run_bind]
      rw [run_convert_bytes_string w src dst e _ _ _ hs he hd]
      rfl
    | some p =>
      have hcells : (loadCells p l.length).run P w = .ok ((l.map fun b => (b.toNat : Int)).map (Value.int .u8)).toArray w := by
        have e : (l.map fun b => (b.toNat : Int)).map (Value.int .u8) = bys l := by simp
        rw [e]
        have : l.length = (bys l).length := by simp
        rw [this]
        refine run_loadCells_list w p _ fun j v hj => ?_
        obtain ⟨b, o, e, _, hat⟩ := Rd.at_ hr (by
          have := (List.getElem?_eq_some_iff.1 hj).1
          simp at this; omega)
        injection e with e
        subst e
        rw [Addr.add_lit]
        exact hat j v hj
      simp only [execOp, ha _ _ hx, Sem.run_bind]
      rw [run_convert_bytes_string w src dst e _ _ _ hs he hd, run_bytesToString w p _ _ _ hcells]
      have := foldl_push l []
      have e0 : (ByteArray.empty : ByteArray) = ByteArray.mk ⟨[]⟩ := rfl
      rw [e0, this]
      rfl

/-! ### rows made -/
theorem okE_makeSlice {t e : TypeId} {x y : Operand} {i : TypeInfo} {z : Value} {n : Nat} (bytes sz : Nat) (ht : P.underlying t = some (.slice e)) (hi : P.info? e = some i) (hz : i.zero = some z) (hby : i.bytes = bytes) (hsz : i.size = sz) (hx : f.ev x = some (In n)) (hy : f.ev y = some (In n)) (hb : bytes * n ≤ 281474976710656) (hn : n ≤ maxLen) :
    OkR P f ⟨d, .makeSlice t x y, ty, pos, af, g⟩ h (fun v h' => ∃ b zs, v = .slice (some ⟨b, 0, Option.none⟩) n n ∧ h.size ≤ b ∧ h'[b]? = some (.cells ⟨zs⟩ e (0, 0)) ∧ zs.length = n * sz ∧ zs = (madeCells z.cells (n * sz)).toList ∧ Ext No h h') :=
  fun ρ w ha hw => by
    subst hw
    subst hby
    subst hsz
    unfold maxLen at hn
    have hb' : (i.bytes : Int) * (n : Int) ≤ 281474976710656 := by
      have h : ((i.bytes * n : Nat) : Int) ≤ 281474976710656 := by omega
      rwa [Int.natCast_mul] at h
    have hr := run_make (P := P) w t e i z ht hi hz .i64 .i64 n n (by omega) (Int.le_refl _) hb' (by omega)
    simp only [Int.toNat_natCast] at hr
    refine ⟨_, w.alloc (.cells (madeCells z.cells (n * i.size)) e), ⟨rfl, rfl, rfl, trivial⟩, ⟨w.heap.size, (madeCells z.cells (n * i.size)).toList, rfl, Nat.le_refl _, push_new _ _, ?_, rfl, .push _ _ _⟩, .inl ?_⟩
    · rw [Array.length_toList, size_madeCells]
    · simp only [execOp, ha _ _ hx, ha _ _ hy, Sem.run_bind, hr]
      rfl

/-! ### unsafe.String -/
theorem ok_sliceData {x : Operand} {a : Addr} {n c : Nat} {ts : Array TypeId} (hx : f.ev x = some (.slice (some a) n c)) (hc : c ≠ 0) :
    OkP P f ⟨d, .call { callee := .builtin .unsafeSliceData, args := #[x], argTypes := ts }, ty, pos, af, g⟩ h (.pointer (some a)) :=
  fun ρ w ha _ => by
    have := Lib.run_unsafeSliceData_row (P := P) w ts ty a n c hc
    simp [execOp, resolve, invoke, builtin, ha _ _ hx, this]
theorem ok_sliceData0 {x : Operand} {n c : Nat} {ts : Array TypeId} (hx : f.ev x = some (.slice Option.none n c)) :
    OkP P f ⟨d, .call { callee := .builtin .unsafeSliceData, args := #[x], argTypes := ts }, ty, pos, af, g⟩ h (.pointer Option.none) :=
  fun ρ w ha _ => by
    have := Lib.run_unsafeSliceData_nil (P := P) w ts ty n c
    simp [execOp, resolve, invoke, builtin, ha _ _ hx, this]
theorem okE_unsafeString0 {x y : Operand} {pt it : TypeId} {p : Option Addr} {ts : Array TypeId} (hts : ts = #[pt, it]) (hx : f.ev x = some (.pointer p)) (hy : f.ev y = some (In 0)) :
    OkR P f ⟨d, .call { callee := .builtin .unsafeString, args := #[x, y], argTypes := ts }, ty, pos, af, g⟩ h (fun v h' => v = St [] ∧ h' = h) :=
  fun ρ w ha hw => by
    subst hw
    subst hts
    have := Lib.run_unsafeString_none (P := P) w pt it ty p
    refine ⟨_, w, .refl w, ⟨rfl, rfl⟩, .inl ?_⟩
    simp [execOp, resolve, invoke, builtin, ha _ _ hx, ha _ _ hy, this]
    rfl
theorem okE_unsafeString {x y : Operand} {pt it e : TypeId} {b n : Nat} {cs : List Value} {l : List UInt8} {ts : Array TypeId} (hts : ts = #[pt, it]) (hp : P.underlying pt = some (.pointer e)) (hc1 : P.cellsOf e = 1) (hx : f.ev x = some (.pointer (some ⟨b, 0, Option.none⟩))) (hy : f.ev y = some (In n)) (hn : l.length = n)
    (hb : h[b]? = some (.cells ⟨cs⟩ e (0, 0))) (hcs : cs.take n = bys l) (hm : n ≤ maxLen) :
    OkR P f ⟨d, .call { callee := .builtin .unsafeString, args := #[x, y], argTypes := ts }, ty, pos, af, g⟩ h (fun v h' => v = St l ∧ Ext (fun k => k = b) h h') :=
  fun ρ w ha hw => by
    subst hw
    subst hts
    subst hn
    unfold maxLen at hm
    by_cases h0 : l = []
    · subst h0
      have := Lib.run_unsafeString_none (P := P) w pt it ty (some ⟨b, 0, Option.none⟩)
      refine ⟨_, w, .refl w, ⟨rfl, .refl _ _⟩, .inl ?_⟩
      simp [execOp, resolve, invoke, builtin, ha _ _ hx, ha _ _ hy, this]
      rfl
    · have hlen : l.length ≤ cs.length := by
        have := congrArg List.length hcs
        simp at this; omega
      have hsh : w.shape? b = some (e, cs.length) := by simp [World.shape?, hb]
      have hr := Lib.run_unsafeString_row (P := P) w pt it ty e hp hc1 b cs.length hsh l h0 hlen (by omega) (fun j x hj => by
        rw [Addr.add_lit, cell_eq, Nat.zero_add, cell_of hb]
        have hlt := (List.getElem?_eq_some_iff.1 hj).1
        have : (cs.take l.length)[j]? = some (By x) := by rw [hcs]; simp [hj]
        rw [List.getElem?_take, if_pos hlt] at this
        simpa using this)
      refine ⟨_, w.freeze ⟨b, 0, Option.none⟩ l.length, ?_, ⟨rfl, ?_⟩, .inl ?_⟩
      · unfold World.freeze
        split <;> exact ⟨rfl, rfl, rfl, trivial⟩
      · unfold World.freeze
        split
        · exact .refl _ _
        · refine ⟨by simp, fun k _ hk => ?_⟩
          simp only [Array.getElem?_modify]
          rw [if_neg (fun e => hk e.symm)]
      · simp [execOp, resolve, invoke, builtin, ha _ _ hx, ha _ _ hy, hr]

/-! ### a function of the library that the model gives -/
theorem ok_extern {k : FuncId} {x : Operand} {v u : Value} {ts : Array TypeId} (hc : ∀ w : World, (callFunc k #[v]).run P w = .ok (.value u) w) (hx : f.ev x = some v) :
    OkP P f ⟨d, .call { callee := .value (.func k), args := #[x], argTypes := ts }, ty, pos, af, g⟩ h u :=
  fun ρ w ha _ => by
    have e : ρ (.func k) = .func (.func k) #[] #[] := ha _ _ rfl
    simp [execOp, resolve, Deferred.ofValue, invoke, e, ha _ _ hx, hc]
theorem ok_toUnsafe {src dst t e : TypeId} {j : TypeInfo} {x : Operand} {b o : Nat} {cs : List Value} {z : Nat × Nat} (hs : P.underlying src = some (.pointer t)) (hd : P.underlying dst = some .unsafePointer) (ht : P.info? t = some j) (hj : j.size ≠ 0)
    (hx : f.ev x = some (.pointer (some ⟨b, o, Option.none⟩))) (hb : h[b]? = some (.cells ⟨cs⟩ e z)) (ho : o < cs.length) :
    OkP P f ⟨d, .convert src dst x, ty, pos, af, g⟩ h (.pointer (some ⟨b, o, Option.none⟩)) :=
  fun ρ w ha hw => by
    subst hw
    have hsh : w.shape? b = some (e, cs.length) := by simp [World.shape?, hb]
    have := Lib.run_to_unsafe (P := P) w ⟨b, o, Option.none⟩ hs hd ht hj hsh ho
    simp [execOp, ha _ _ hx, this]
theorem ok_fromUnsafe {src dst u e : TypeId} {j : TypeInfo} {x : Operand} {b o : Nat} {cs : List Value} {z : Nat × Nat} (hs : P.underlying src = some .unsafePointer) (hd : P.underlying dst = some (.pointer u)) (hu : P.info? u = some j)
    (hx : f.ev x = some (.pointer (some ⟨b, o, Option.none⟩))) (hb : h[b]? = some (.cells ⟨cs⟩ e z)) (hl : liesAt P P.depth e (cs.length / P.cellsOf e) o u 1 = true) :
    OkP P f ⟨d, .convert src dst x, ty, pos, af, g⟩ h (.pointer (some ⟨b, o, Option.none⟩)) :=
  fun ρ w ha hw => by
    subst hw
    have hsh : w.shape? b = some (e, cs.length) := by simp [World.shape?, hb]
    have := Lib.run_from_unsafe (P := P) w ⟨b, o, Option.none⟩ hs hd hu hsh hl
    simp [execOp, ha _ _ hx, this]
theorem ok_neqPs {t e t2 : TypeId} {j : TypeInfo} {x y : Operand} {a : Addr} (hu : P.underlying t = some (.pointer e)) (he : P.info? e = some j) (hx : f.ev x = some (.pointer (some a))) (hy : f.ev y = some (.pointer (some a))) :
    OkP P f ⟨d, .binOp .neq t x y t2, ty, pos, af, g⟩ h (.bool false) :=
  fun ρ w ha _ => by simp [execOp, ha _ _ hx, ha _ _ hy, eqGuard_at_pointer, Lib.run_neq_ptr_same w a hu he]
end

/-! ### results that lie in memory -/
theorem ld_blk {P : Program} {h : Heap} {t : TypeId} {b k : Nat} {cs : List Value} {e : TypeId} {z : Nat × Nat} (ht : ∀ w, (isAgg t).run P w = .ok true w) (hz : ∀ w, (sizeOf t).run P w = .ok k w) (hb : h[b]? = some (.cells ⟨cs⟩ e z)) (hk : cs.length = k) :
    ∀ w : World, w.heap = h → (loadVar t ⟨b, 0, Option.none⟩).run P w = .ok (.agg ⟨cs⟩) w := fun w hw => by
  subst hw
  subst hk
  have h1 : (loadCells ⟨b, 0, Option.none⟩ cs.length).run P w = .ok cs.toArray w := run_loadCells_list w _ cs fun j v hj => by rw [Addr.add_lit]; exact At.of_block hb j v hj
  simp [loadVar, ht, hz, h1]
/-! ### rows of one's own, apart -/
theorem own_ne {h : Heap} {v : Value} {e T : TypeId} {sz n b : Nat} {xs cs : List Value} {z : Nat × Nat} (ho : Own h v e sz n xs) (hb : h[b]? = some (.cells ⟨cs⟩ T z)) (hT : T ≠ e) : v.ownBlock ≠ some b := by
  intro h1
  obtain ⟨_, ⟨rfl, _⟩ | ⟨g, cap, cur, rfl, hg, _⟩⟩ := ho
  · cases h1
  · simp only [Value.ownBlock, Option.some.injEq] at h1
    subst h1
    rw [hb] at hg
    simp only [Option.some.injEq, Obj.cells.injEq] at hg
    exact hT hg.2.1
theorem kin_of {h h3 : Heap} {v v' : Value} (hl : v'.ownBlock = v.ownBlock ∨ v'.ownBlock = some h3.size) (hs : h.size ≤ h3.size) : ∀ k, v'.ownBlock = some k → v.ownBlock = some k ∨ h.size ≤ k := by
  intro k hk
  rcases hl with e | e <;> rw [e] at hk
  · exact .inl hk
  · simp only [Option.some.injEq] at hk; exact .inr (by omega)

/-! ### closures -/
section
variable {P : Program} {n : Env} {f : Fr} {h : Heap} {l0 rest : List Oper} {Q : Post}
theorem WL.callT {o : Oper} {t s : Nat} {k : FuncId} {xs : List Operand} {fs vs us : List Value} {ts : Array TypeId} {R : Value → Heap → Prop} (ho : o.op = .call { callee := .value (.tmp s), args := ⟨xs⟩, argTypes := ts })
    (hf : f.get s = some (.func (.func k) ⟨fs⟩ ⟨us⟩))
    (hc : ∀ (args : Array Value) (w : World), (callFunc k args).run P w = .ok (.enter k args) w)
    (hx : xs.map f.ev = vs.map some) (hR : CallsH P k ⟨fs ++ vs ++ us⟩ h R) (hg : goes f l0 o = true) (hd : o.dst = some t) (ht : Nat.blt t n.n = true) (hk : ∀ v h', R v h' → WL P n l0 rest Q ((t, v) :: f) h') : WL P n l0 (o :: rest) Q f h := by
  intro a w ha hw
  refine wpList_step fun K hK => ?_
  rw [if_pos (goes_wanted ha hg)]
  have hargs : xs.map a.eval = vs := by
    clear ho hR
    induction xs generalizing vs with
    | nil => cases vs <;> simp_all
    | cons x xs ih =>
      cases vs with
      | nil => simp at hx
      | cons v vs =>
        simp only [List.map_cons, List.cons.injEq] at hx ⊢
        exact ⟨ha.agrees _ _ hx.1, ih hx.2⟩
  unfold Oper.wp
  have hf' : a.eval (.tmp s) = .func (.func k) ⟨fs⟩ ⟨us⟩ := ha.agrees (.tmp s) _ hf
  have hrun : (execOp a.eval o).run P w = .ok (.enter k ⟨fs ++ vs ++ us⟩) w := by
    have e2 : Array.map a.eval ⟨xs⟩ = ⟨vs⟩ := by rw [← hargs]; simp
    have e3 : (⟨fs⟩ : Array Value) ++ (⟨vs⟩ : Array Value) ++ (⟨us⟩ : Array Value) = ⟨fs ++ vs ++ us⟩ := by simp
    simp only [execOp, ho, resolve, hf', Deferred.ofValue, e2, Sem.run_bind, Sem.run_pure, Result.andThen_ok, invoke, e3]
    exact hc _ _
  rw [hrun]
  simp only [Oper.upon]
  refine (hR w hw).mono fun e w' ⟨hs, v, he, hv⟩ => ?_
  subst he
  rw [hd]
  exact hK _ _ (toAct_mono hs _ _ _ (hk v _ hv _ w' (ha.put ht _) rfl))
end
end Go.RK

/-
  STRUCTS OF ONE-CELL FIELDS: their compare; bytes among the arguments; lists of things that lie in rows. No program is named here.
-/
namespace Go.RK
open Go

inductive Sca where
  | i (k : IntKind) (n : Int)
  | s (l : List UInt8)
  | b (v : Bool)
deriving DecidableEq
inductive Kd where
  | i (k : IntKind)
  | s
  | b
def Sca.kd : Sca → Kd
  | .i k _ => .i k
  | .s _ => .s
  | .b _ => .b
def Sca.val : Sca → Value
  | .i k n => .int k n
  | .s l => St l
  | .b v => .bool v
def Kd.ok (P : Program) (t : TypeId) : Kd → Bool
  | .i k => match P.underlying t with | some (.int k') => k == k' | _ => false
  | .s => match P.underlying t with | some .string => true | _ => false
  | .b => match P.underlying t with | some .bool => true | _ => false
def flatsB (P : Program) : Nat → List Field → List Kd → Bool
  | _, [], [] => true
  | o, f :: fs, k :: ks => f.name != "_" && f.offset == o && P.plainKey f.type && k.ok P f.type && flatsB P (o + 1) fs ks
  | _, _, _ => false
def flatB (P : Program) (t : TypeId) (ks : List Kd) : Bool :=
  (match P.underlying t with | some (.struct fs) => flatsB P 0 fs.toList ks | _ => false) && !P.stoodInHeld t && !P.eqGuardType P.depth t

section
variable {P : Program}
theorem run_eq_sca (w : World) (d : Nat) {t : TypeId} {k : Kd} (hk : k.ok P t = true) {a b : Sca} (ha : a.kd = k) (hb : b.kd = k) : (Op.equalIn (d + 1) t a.val b.val).run P w = .ok (decide (a = b)) w := by
  subst ha
  cases a <;> cases b <;> simp only [Sca.kd] at hb <;> try (cases hb)
  · rename_i k n m
    simp only [Kd.ok, Sca.kd] at hk
    split at hk
    · rename_i hu
      show (Op.equalIn (d + 1) t (.int _ _) (.int _ _)).run P w = _
      rw [run_equalIn_int w d t _ _ _ _ hu]
      simp [beq_dec]
    · cases hk
  · rename_i l m
    simp only [Kd.ok, Sca.kd] at hk
    split at hk
    · rename_i hu
      show (Op.equalIn (d + 1) t (.string _) (.string _)).run P w = _
      rw [run_equalIn_string w d t _ _ hu]
      simp [beq_dec]
    · cases hk
  · rename_i l m
    simp only [Kd.ok, Sca.kd] at hk
    split at hk
    · rename_i hu
      show (Op.equalIn (d + 1) t (.bool _) (.bool _)).run P w = _
      rw [run_equalIn_bool' w d t _ _ hu]
      simp [beq_dec]
    · cases hk
theorem run_eqFields_flat (w : World) (d : Nat) (xs ys : Array Value) : ∀ (fs : List Field) (ks : List Kd) (o : Nat) (us vs : List Sca), flatsB P o fs ks = true → us.map Sca.kd = ks → vs.map Sca.kd = ks →
    (∀ (j : Nat) (a : Sca), us[j]? = some a → xs[o + j]? = some a.val) → (∀ (j : Nat) (a : Sca), vs[j]? = some a → ys[o + j]? = some a.val) →
    (Op.eqFields (d + 1) xs ys fs).run P w = .ok (decide (us = vs)) w
  | [], [], o, us, vs, _, ha, hb, _, _ => by
    obtain rfl : us = [] := by simpa using ha
    obtain rfl : vs = [] := by simpa using hb
    simp [Op.eqFields]
  | f :: fs, k :: ks, o, us, vs, hf, ha, hb, hx, hy => by
    simp only [flatsB, Bool.and_eq_true, bne_iff_ne, beq_iff_eq] at hf
    obtain ⟨⟨⟨⟨h1, h2⟩, h3⟩, h4⟩, h5⟩ := hf
    cases us with
    | nil => simp at ha
    | cons a us =>
      cases vs with
      | nil => simp at hb
      | cons b vs =>
        simp only [List.map_cons, List.cons.injEq] at ha hb
        have p1 := hx 0 a rfl
        have p2 := hy 0 b rfl
        rw [Nat.add_zero, ← h2] at p1 p2
        have r1 := run_part_plain (P := P) (w := w) h3 p1
        have r2 := run_part_plain (P := P) (w := w) h3 p2
        have r3 := run_eq_sca (P := P) w d h4 ha.1 hb.1
        have ih := run_eqFields_flat w d xs ys fs ks (o + 1) us vs h5 ha.2 hb.2 (fun j c hj => by
          have := hx (j + 1) c (by simpa using hj)
          rwa [show o + (j + 1) = o + 1 + j by omega] at this) (fun j c hj => by
          have := hy (j + 1) c (by simpa using hj)
          rwa [show o + (j + 1) = o + 1 + j by omega] at this)
        simp only [Op.eqFields, h1, ne_eq, not_false_eq_true, if_true, Sem.run_bind, r1, r2, r3, Result.andThen_ok]
        by_cases e : a = b
        · simp [e, ih]
        · simp [e]
  | [], _ :: _, _, _, _, hf, _, _, _, _ => by simp [flatsB] at hf
  | _ :: _, [], _, _, _, hf, _, _, _, _ => by simp [flatsB] at hf
theorem run_eq_flat (w : World) {t : TypeId} {ks : List Kd} (hF : flatB P t ks = true) {us vs : List Sca} (ha : us.map Sca.kd = ks) (hb : vs.map Sca.kd = ks) :
    (Op.equalIn 10000 t (.agg ⟨us.map Sca.val⟩) (.agg ⟨vs.map Sca.val⟩)).run P w = .ok (decide (us = vs)) w := by
  simp only [flatB, Bool.and_eq_true, Bool.not_eq_true'] at hF
  obtain ⟨⟨h1, h2⟩, h3⟩ := hF
  split at h1
  · rename_i fs hu
    have hfs : P.fieldsOf t = fs := by simp [Program.fieldsOf, hu]
    have := run_equalIn_struct (P := P) w 9999 t ⟨us.map Sca.val⟩ ⟨vs.map Sca.val⟩ (by rw [hfs]; exact hu) h2
    rw [show (10000 : Nat) = 9999 + 1 from rfl, this, hfs]
    exact run_eqFields_flat w 9998 _ _ fs.toList ks 0 us vs h1 ha hb (fun j a hj => by simp [hj]) (fun j a hj => by simp [hj])
  · cases h1
variable {f : Fr} {h : Heap} {d : Option Tmp} {ty : TypeId} {pos : String} {af : Array Edge} {g : Option (Nat × Bool)}
theorem ok_neqF {t t2 : TypeId} {x y : Operand} {us vs : List Sca} (ks : List Kd) (hF : flatB P t ks = true) (ha : us.map Sca.kd = ks) (hb : vs.map Sca.kd = ks) (hx : f.ev x = some (.agg ⟨us.map Sca.val⟩)) (hy : f.ev y = some (.agg ⟨vs.map Sca.val⟩)) :
    OkP P f ⟨d, .binOp .neq t x y t2, ty, pos, af, g⟩ h (.bool (!decide (us = vs))) := fun ρ w hag _ => by
  have hg : P.eqGuardType P.depth t = false := by
    simp only [flatB, Bool.and_eq_true, Bool.not_eq_true'] at hF
    exact hF.2
  have r1 := run_eqGuard_agg (P := P) w .neq t x y ⟨us.map Sca.val⟩ ⟨vs.map Sca.val⟩ hg
  have r2 := run_neq_struct (P := P) w t ⟨us.map Sca.val⟩ ⟨vs.map Sca.val⟩
  rw [run_eq_flat w hF ha hb] at r2
  simp only [execOp, hag _ _ hx, hag _ _ hy, Sem.run_bind, r1, r2, Result.andThen_ok, Sem.run_pure]

/-! ### what lies where -/
theorem Rd.ext' {h h' : Heap} {S : Nat → Prop} {v : Value} {sz n : Nat} {xs : List Value} (r : Rd h v sz n xs) (a : Ext S h h') (hS : ∀ b, 0 < n → v.ownBlock = some b → ¬ S b) : Rd h' v sz n xs := by
  obtain ⟨A, c, rfl, hc, hl, hp⟩ := r
  refine ⟨A, c, rfl, hc, hl, fun hn => ?_⟩
  obtain ⟨b, o, rfl, hb, hat⟩ := hp hn
  exact ⟨b, o, rfl, Nat.lt_of_lt_of_le hb a.size, hat.ext a (hS b hn rfl)⟩
theorem Rd.lt {h : Heap} {v : Value} {sz n b : Nat} {xs : List Value} (r : Rd h v sz n xs) (hn : 0 < n) (hb : v.ownBlock = some b) : b < h.size := by
  obtain ⟨A, c, rfl, hc, hl, hp⟩ := r
  obtain ⟨b', o, rfl, hb', _⟩ := hp hn
  simp only [Value.ownBlock, Option.some.injEq] at hb
  exact hb ▸ hb'
theorem Own.lt {h : Heap} {v : Value} {e : TypeId} {sz n k : Nat} {xs : List Value} (ho : Own h v e sz n xs) (hk : v.ownBlock = some k) : k < h.size := by
  obtain ⟨_, ⟨rfl, _⟩ | ⟨g, cap, cur, rfl, hg, _⟩⟩ := ho
  · cases hk
  · simp only [Value.ownBlock, Option.some.injEq] at hk
    exact hk ▸ lt_of_some hg

theorem Own.cap {h : Heap} {v : Value} {e : TypeId} {sz n : Nat} {xs : List Value} (ho : Own h v e sz n xs) : ∃ A c, v = .slice A n c ∧ c ≤ maxLen := by
  obtain ⟨_, ⟨rfl, rfl⟩ | ⟨g, cap, cur, rfl, hg, hn, hm, _⟩⟩ := ho
  · exact ⟨_, _, rfl, by decide⟩
  · exact ⟨_, _, rfl, hm⟩

theorem Own.cap' {h : Heap} {v : Value} {e : TypeId} {sz n : Nat} {xs : List Value} (ho : Own h v e sz n xs) : ∃ A c, v = .slice A n c ∧ c ≤ maxLen := ho.cap
theorem At.pre {h : Heap} {b o : Nat} {xs ys : List Value} (a : At h b o (xs ++ ys)) : At h b o xs := fun j v hj => a j v (by rw [List.getElem?_append_left (List.getElem?_eq_some_iff.1 hj).1]; exact hj)

/-! ### bytes among the arguments -/
variable {w : World} {t : TypeId}
theorem Opens.map' {α β : Type} {F : α → List Value} {Q : α → Prop} (o : Opens P w t F Q) (g : α → β) {F' : β → List Value} {Q' : β → Prop} (hF : ∀ a, Q a → F a = F' (g a) ∧ Q' (g a)) : Opens P w t F' Q' := by
  intro H enc base spare held fuel cs x h hz
  obtain ⟨a, rfl, q⟩ := o H enc base spare held fuel cs x h hz
  exact ⟨g a, (hF a q).1, (hF a q).2⟩
theorem opens_byte (ht : P.underlying t = some (.int .u8)) : Opens P w t (fun b : UInt8 => [By b]) (fun _ => True) :=
  (opens_int ht).map' (fun n => UInt8.ofNat n.toNat) fun n hn => by
    have h1 : 0 ≤ n ∧ n ≤ 255 := by simpa [Lit.wf, IntKind.signed, IntKind.bits, IntKind.max, IntKind.min] using hn
    refine ⟨?_, trivial⟩
    have : (UInt8.ofNat n.toNat).toNat = n.toNat := by simp; omega
    unfold By
    rw [this]
    simp; omega
theorem flat_one {α : Type} (F : α → Value) (l : List α) : l.flatMap (fun b => [F b]) = l.map F := by
  induction l with
  | nil => rfl
  | cons a l ih => simp [ih]
theorem opens_bytes {e : TypeId} (ht : P.underlying t = some (.slice e)) (hc : P.cellsOf e = 1) (hb : P.bytesOf e = 1) (he : P.underlying e = some (.int .u8)) :
    Opens P w t (fun p : Value × List UInt8 => [p.1]) (fun p => Rd w.heap p.1 1 p.2.length (bys p.2) ∧ p.2.length ≤ reachBytes) :=
  (opens_slice ht hc (by decide) (fun _ => rfl) (opens_byte he)).map id (fun _ => rfl) fun p q => ⟨by have := q.1; rw [flat_one] at this; exact this, by simpa [hb] using q.2.2.2.2⟩

end
end Go.RK

/-
  STEPS THAT ARE TAKEN BY THEMSELVES: lemmas whose first argument is found by a standing proof (a default argument): runs of plain operations, the ways out of a region, conditions, branches.
-/
namespace Go.RK
open Go

/-- Nothing is left to show. -/
structure TT : Prop where
/-- What is to be shown under a condition. -/
structure Hb (T p : Prop) : Prop where
  out : T → p
/-- What a standing proof leaves to be shown (no search is to fill it). -/
structure Zz (q : Prop) : Prop where
  out : q
/-- A number that a standing proof is handed. -/
structure PT (t : Nat) : Prop where
theorem goB (i : Nat) {p : Prop} (h : p) : Br i p := ⟨h⟩

/-! ### what is known of types -/
class FldC (P : Program) (s i : Nat) (o : outParam Nat) : Prop where
  ex : ∃ fs fl k, P.underlying s = some (.struct fs) ∧ fs[i]? = some fl ∧ fl.offset = o ∧ ∀ w, (sizeOf fl.type).run P w = .ok (k + 1) w
class SlcC (P : Program) (t : Nat) : Prop where
  ex : ∃ e, P.underlying t = some (.slice e)
class StrC (P : Program) (t : Nat) : Prop where
  ex : P.underlying t = some .string
class AggC (P : Program) (t : Nat) : Prop where
  ex : ∀ w, (isAgg t).run P w = .ok false w
/-- An operation that only computes or reads (no search looks into it). -/
structure OkS (P : Program) (f : Fr) (o : Oper) (h : Heap) (v : Value) : Prop where
  out : OkP P f o h v
section
variable {P : Program} {f : Fr} {h : Heap} {d : Option Tmp} {ty : TypeId} {pos : String} {af : Array Edge} {g : Option (Nat × Bool)} {x y c : Operand} {v : Value}
theorem s_fieldAddr {s i b o o' : Nat} [c : FldC P s i o'] (hx : f.ev x = some (.pointer (some ⟨b, o, Option.none⟩))) : OkS P f ⟨d, .fieldAddr s x i, ty, pos, af, g⟩ h (.pointer (some ⟨b, o + o', Option.none⟩)) := by
  obtain ⟨fs, fl, k, h1, h2, h3, h4⟩ := c.ex
  subst h3
  exact ⟨ok_fieldAddr hx h1 h2 h4⟩
theorem s_lenS {t : Nat} {a : List UInt8} [k : StrC P t] (hx : f.ev x = some (St a)) : OkS P f ⟨d, .call { callee := .builtin .len, args := #[x], argTypes := #[t] }, ty, pos, af, g⟩ h (In a.length) := ⟨ok_lenS rfl k.ex hx⟩
theorem s_lenL {t : Nat} {p : Option Addr} {l c : Nat} [k : SlcC P t] (hx : f.ev x = some (.slice p l c)) : OkS P f ⟨d, .call { callee := .builtin .len, args := #[x], argTypes := #[t] }, ty, pos, af, g⟩ h (In l) := by
  obtain ⟨e, he⟩ := k.ex
  exact ⟨ok_lenL rfl he hx⟩
section
variable {t t2 : TypeId} {k : IntKind} {a b : Int} {s u : List UInt8}
theorem s_addI (hx : f.ev x = some (In a)) (hy : f.ev y = some (In b)) (h0 : -9223372036854775808 ≤ a + b ∧ a + b ≤ 9223372036854775807) : OkS P f ⟨d, .binOp .add t x y t2, ty, pos, af, g⟩ h (In (a + b)) := ⟨ok_addI hx hy h0⟩
theorem s_add (hx : f.ev x = some (.int k a)) (hy : f.ev y = some (.int k b)) : OkS P f ⟨d, .binOp .add t x y t2, ty, pos, af, g⟩ h (.int k (k.wrap (a + b))) := ⟨ok_add hx hy⟩
theorem s_subI (hx : f.ev x = some (In a)) (hy : f.ev y = some (In b)) (h0 : -9223372036854775808 ≤ a - b ∧ a - b ≤ 9223372036854775807) : OkS P f ⟨d, .binOp .sub t x y t2, ty, pos, af, g⟩ h (In (a - b)) := ⟨ok_subI hx hy h0⟩
theorem s_sub (hx : f.ev x = some (.int k a)) (hy : f.ev y = some (.int k b)) : OkS P f ⟨d, .binOp .sub t x y t2, ty, pos, af, g⟩ h (.int k (k.wrap (a - b))) := ⟨ok_sub hx hy⟩
theorem s_eql_t (hx : f.ev x = some (.int k a)) (hy : f.ev y = some (.int k b)) (hp : a = b) : OkS P f ⟨d, .binOp .eql t x y t2, ty, pos, af, g⟩ h (.bool true) := ⟨OkP.bool_t hp (ok_eql hx hy)⟩
theorem s_eql_f (hx : f.ev x = some (.int k a)) (hy : f.ev y = some (.int k b)) (hp : ¬(a = b)) : OkS P f ⟨d, .binOp .eql t x y t2, ty, pos, af, g⟩ h (.bool false) := ⟨OkP.bool_f hp (ok_eql hx hy)⟩
theorem s_eql (hx : f.ev x = some (.int k a)) (hy : f.ev y = some (.int k b)) : OkS P f ⟨d, .binOp .eql t x y t2, ty, pos, af, g⟩ h (.bool (decide (a = b))) := ⟨ok_eql hx hy⟩
theorem s_lss_t (hx : f.ev x = some (.int k a)) (hy : f.ev y = some (.int k b)) (hp : a < b) : OkS P f ⟨d, .binOp .lss t x y t2, ty, pos, af, g⟩ h (.bool true) := ⟨OkP.bool_t hp (ok_lss hx hy)⟩
theorem s_lss_f (hx : f.ev x = some (.int k a)) (hy : f.ev y = some (.int k b)) (hp : ¬(a < b)) : OkS P f ⟨d, .binOp .lss t x y t2, ty, pos, af, g⟩ h (.bool false) := ⟨OkP.bool_f hp (ok_lss hx hy)⟩
theorem s_lss (hx : f.ev x = some (.int k a)) (hy : f.ev y = some (.int k b)) : OkS P f ⟨d, .binOp .lss t x y t2, ty, pos, af, g⟩ h (.bool (decide (a < b))) := ⟨ok_lss hx hy⟩
theorem s_gtr_t (hx : f.ev x = some (.int k a)) (hy : f.ev y = some (.int k b)) (hp : a > b) : OkS P f ⟨d, .binOp .gtr t x y t2, ty, pos, af, g⟩ h (.bool true) := ⟨OkP.bool_t hp (ok_gtr hx hy)⟩
theorem s_gtr_f (hx : f.ev x = some (.int k a)) (hy : f.ev y = some (.int k b)) (hp : ¬(a > b)) : OkS P f ⟨d, .binOp .gtr t x y t2, ty, pos, af, g⟩ h (.bool false) := ⟨OkP.bool_f hp (ok_gtr hx hy)⟩
theorem s_gtr (hx : f.ev x = some (.int k a)) (hy : f.ev y = some (.int k b)) : OkS P f ⟨d, .binOp .gtr t x y t2, ty, pos, af, g⟩ h (.bool (decide (a > b))) := ⟨ok_gtr hx hy⟩
theorem s_leq_t (hx : f.ev x = some (.int k a)) (hy : f.ev y = some (.int k b)) (hp : a ≤ b) : OkS P f ⟨d, .binOp .leq t x y t2, ty, pos, af, g⟩ h (.bool true) := ⟨OkP.bool_t hp (ok_leq hx hy)⟩
theorem s_leq_f (hx : f.ev x = some (.int k a)) (hy : f.ev y = some (.int k b)) (hp : ¬(a ≤ b)) : OkS P f ⟨d, .binOp .leq t x y t2, ty, pos, af, g⟩ h (.bool false) := ⟨OkP.bool_f hp (ok_leq hx hy)⟩
theorem s_leq (hx : f.ev x = some (.int k a)) (hy : f.ev y = some (.int k b)) : OkS P f ⟨d, .binOp .leq t x y t2, ty, pos, af, g⟩ h (.bool (decide (a ≤ b))) := ⟨ok_leq hx hy⟩
theorem s_geq_t (hx : f.ev x = some (.int k a)) (hy : f.ev y = some (.int k b)) (hp : a ≥ b) : OkS P f ⟨d, .binOp .geq t x y t2, ty, pos, af, g⟩ h (.bool true) := ⟨OkP.bool_t hp (ok_geq hx hy)⟩
theorem s_geq_f (hx : f.ev x = some (.int k a)) (hy : f.ev y = some (.int k b)) (hp : ¬(a ≥ b)) : OkS P f ⟨d, .binOp .geq t x y t2, ty, pos, af, g⟩ h (.bool false) := ⟨OkP.bool_f hp (ok_geq hx hy)⟩
theorem s_geq (hx : f.ev x = some (.int k a)) (hy : f.ev y = some (.int k b)) : OkS P f ⟨d, .binOp .geq t x y t2, ty, pos, af, g⟩ h (.bool (decide (a ≥ b))) := ⟨ok_geq hx hy⟩
theorem s_neq_t (hx : f.ev x = some (.int k a)) (hy : f.ev y = some (.int k b)) (hp : ¬(a = b)) : OkS P f ⟨d, .binOp .neq t x y t2, ty, pos, af, g⟩ h (.bool true) := ⟨OkP.nbool_t hp (ok_neq hx hy)⟩
theorem s_neq_f (hx : f.ev x = some (.int k a)) (hy : f.ev y = some (.int k b)) (hp : a = b) : OkS P f ⟨d, .binOp .neq t x y t2, ty, pos, af, g⟩ h (.bool false) := ⟨OkP.nbool_f hp (ok_neq hx hy)⟩
theorem s_neq (hx : f.ev x = some (.int k a)) (hy : f.ev y = some (.int k b)) : OkS P f ⟨d, .binOp .neq t x y t2, ty, pos, af, g⟩ h (.bool (!decide (a = b))) := ⟨ok_neq hx hy⟩
theorem s_eqlS_t (hx : f.ev x = some (St s)) (hy : f.ev y = some (St u)) (hp : s = u) : OkS P f ⟨d, .binOp .eql t x y t2, ty, pos, af, g⟩ h (.bool true) := ⟨OkP.bool_t hp (ok_eqlS hx hy)⟩
theorem s_eqlS_f (hx : f.ev x = some (St s)) (hy : f.ev y = some (St u)) (hp : ¬(s = u)) : OkS P f ⟨d, .binOp .eql t x y t2, ty, pos, af, g⟩ h (.bool false) := ⟨OkP.bool_f hp (ok_eqlS hx hy)⟩
theorem s_eqlS (hx : f.ev x = some (St s)) (hy : f.ev y = some (St u)) : OkS P f ⟨d, .binOp .eql t x y t2, ty, pos, af, g⟩ h (.bool (decide (s = u))) := ⟨ok_eqlS hx hy⟩
theorem s_neqS_t (hx : f.ev x = some (St s)) (hy : f.ev y = some (St u)) (hp : ¬(s = u)) : OkS P f ⟨d, .binOp .neq t x y t2, ty, pos, af, g⟩ h (.bool true) := ⟨OkP.nbool_t hp (ok_neqS hx hy)⟩
theorem s_neqS_f (hx : f.ev x = some (St s)) (hy : f.ev y = some (St u)) (hp : s = u) : OkS P f ⟨d, .binOp .neq t x y t2, ty, pos, af, g⟩ h (.bool false) := ⟨OkP.nbool_f hp (ok_neqS hx hy)⟩
theorem s_neqS (hx : f.ev x = some (St s)) (hy : f.ev y = some (St u)) : OkS P f ⟨d, .binOp .neq t x y t2, ty, pos, af, g⟩ h (.bool (!decide (s = u))) := ⟨ok_neqS hx hy⟩
end
end

/-- What a plain operation yields. -/
def stepV (f : Fr) : Op → Option Value
  | .move x => f.ev x
  | .assign x => f.ev x
  | .pick c x y => match f.ev c with
    | some (.bool true) => f.ev x
    | some (.bool false) => f.ev y
    | _ => Option.none
  | .extract x i => match f.ev x with
    | some (.tuple ⟨vs⟩) => vs[i]?
    | _ => Option.none
  | .unOp .not _ x => match f.ev x with
    | some (.bool b) => some (.bool (!b))
    | _ => Option.none
  | _ => Option.none
theorem stepV_ok {P : Program} {f : Fr} {o : Oper} {h : Heap} {v : Value} (e : stepV f o.op = some v) : OkP P f o h v := by
  obtain ⟨d, op, ty, pos, af, g⟩ := o
  dsimp only at e
  unfold stepV at e
  split at e
  · exact ok_move e
  · exact ok_assign e
  · split at e
    · exact ok_pick_t (by assumption) e
    · exact ok_pick_f (by assumption) e
    · cases e
  · split at e
    · exact ok_extract (by assumption) e
    · cases e
  · split at e
    · cases e; exact ok_not (by assumption)
    · cases e
  · cases e
def isCmp : BinOp → Bool
  | .eql => true
  | .neq => true
  | .lss => true
  | .leq => true
  | .gtr => true
  | .geq => true
  | _ => false
section
variable {P : Program} {n : Env} {Q : Post} {f : Fr} {h : Heap} {l0 l rest : List Oper}
theorem WC.sr {id : Nat} {l : List Oper} {y : Code} (hl : WL P n l l (thenP (WC P n y Q) Q) f h) (hd : n.ro = Option.none ∨ noDef l = true := by first | exact .inl rfl | exact .inr rfl) : WC P n (.seq (.region id l.toArray false) y) Q f h := .seq (.region hl hd)
/-- Operations that a run may pass by. -/
def plainOp : Op → Bool
  | .move _ => true
  | .assign _ => true
  | .pick _ _ _ => true
  | .extract _ _ => true
  | .fieldAddr _ _ _ => true
  | .unOp .not _ _ => true
  | .binOp b _ _ _ _ => isCmp b
  | .call c => match c.callee with
    | .builtin .len => true
    | _ => false
  | _ => false
theorem WL.passA {o : Oper} {t : Nat} (_ : plainOp o.op = true) (hg : stops f l0 o = true) (hd : o.dst = some t) (ht : Nat.blt t n.n = true) (hk : WL P n l0 rest Q ((t, undef) :: f) h) : WL P n l0 (o :: rest) Q f h := .pass hg hd ht hk
theorem WL.s {o : Oper} {v : Value} {t : Nat} (hok : OkS P f o h v) (hg : goes f l0 o = true) (hd : o.dst = some t) (ht : Nat.blt t n.n = true) (hk : WL P n l0 rest Q ((t, v) :: f) h) : WL P n l0 (o :: rest) Q f h := .step hok.out hg hd ht hk
theorem WL.auto {o : Oper} {v : Value} {t : Nat} (hok : stepV f o.op = some v) (hg : goes f l0 o = true) (hd : o.dst = some t) (ht : Nat.blt t n.n = true) (hk : WL P n l0 rest Q ((t, v) :: f) h) : WL P n l0 (o :: rest) Q f h := .step (stepV_ok hok) hg hd ht hk
section
variable {d : Option Tmp} {ty : TypeId} {pos : String} {af : Array Edge} {g : Option (Nat × Bool)} {x y : Operand} {t2 s : TypeId} {k : IntKind} {a b : Int} {op : BinOp} {t : Nat}
theorem WL.isO (b : BinOp) {s u : TypeId} (k : WL P n l0 (⟨d, .binOp b s x y u, ty, pos, af, g⟩ :: rest) Q f h) : WL P n l0 (⟨d, .binOp b s x y u, ty, pos, af, g⟩ :: rest) Q f h := k
theorem WL.isL {xs : Array Operand} {ts : Array TypeId} (k : WL P n l0 (⟨d, .call { callee := .builtin .len, args := xs, argTypes := ts }, ty, pos, af, g⟩ :: rest) Q f h) : WL P n l0 (⟨d, .call { callee := .builtin .len, args := xs, argTypes := ts }, ty, pos, af, g⟩ :: rest) Q f h := k
end
theorem WL.isU {d : Option Tmp} {op : Op} {ty : TypeId} {pos : String} {af : Array Edge} (k : WL P n l0 (⟨d, op, ty, pos, af, Option.none⟩ :: rest) Q f h) : WL P n l0 (⟨d, op, ty, pos, af, Option.none⟩ :: rest) Q f h := k
theorem WL.isG {d : Option Tmp} {op : Op} {ty : TypeId} {pos : String} {af : Array Edge} {g : Nat × Bool} (k : WL P n l0 (⟨d, op, ty, pos, af, some g⟩ :: rest) Q f h) : WL P n l0 (⟨d, op, ty, pos, af, some g⟩ :: rest) Q f h := k
theorem WL.isB {d : Option Tmp} {b : BinOp} {s u : TypeId} {x y : Operand} {ty : TypeId} {pos : String} {af : Array Edge} {g : Option (Nat × Bool)} (k : WL P n l0 (⟨d, .binOp b s x y u, ty, pos, af, g⟩ :: rest) Q f h) : WL P n l0 (⟨d, .binOp b s x y u, ty, pos, af, g⟩ :: rest) Q f h := k
theorem WL.isN (k : WL P n l0 [] Q f h) : WL P n l0 [] Q f h := k
/-- A run of plain operations, and out of the region if it ends there. -/
theorem Go {p q : Prop} (k : q) (hx : Zz q → p := by
    intro z
    repeat ((with_reducible refine WL.isU ?_); first
      | refine WL.auto rfl rfl rfl rfl ?_
      | refine WL.s (s_fieldAddr rfl) rfl rfl rfl ?_
      | ((with_reducible refine WL.isB ?_); first
        | ((with_reducible refine WL.isO .eql ?_); first
          | refine WL.s (s_eql_t rfl rfl (by omega)) rfl rfl rfl ?_
          | refine WL.s (s_eql_f rfl rfl (by omega)) rfl rfl rfl ?_
          | refine WL.s (s_eql rfl rfl) rfl rfl rfl ?_
          | refine WL.s (s_eqlS_t rfl rfl (by first | rfl | assumption | decide)) rfl rfl rfl ?_
          | refine WL.s (s_eqlS_f rfl rfl (by first | assumption | decide)) rfl rfl rfl ?_
          | refine WL.s (s_eqlS rfl rfl) rfl rfl rfl ?_)
        | ((with_reducible refine WL.isO .lss ?_); first
          | refine WL.s (s_lss_t rfl rfl (by omega)) rfl rfl rfl ?_
          | refine WL.s (s_lss_f rfl rfl (by omega)) rfl rfl rfl ?_
          | refine WL.s (s_lss rfl rfl) rfl rfl rfl ?_)
        | ((with_reducible refine WL.isO .neq ?_); first
          | refine WL.s (s_neq_t rfl rfl (by omega)) rfl rfl rfl ?_
          | refine WL.s (s_neq_f rfl rfl (by omega)) rfl rfl rfl ?_
          | refine WL.s (s_neq rfl rfl) rfl rfl rfl ?_
          | refine WL.s (s_neqS_f rfl rfl (by first | rfl | assumption | decide)) rfl rfl rfl ?_
          | refine WL.s (s_neqS_t rfl rfl (by first | assumption | decide)) rfl rfl rfl ?_
          | refine WL.s (s_neqS rfl rfl) rfl rfl rfl ?_)
        | ((with_reducible refine WL.isO .gtr ?_); first
          | refine WL.s (s_gtr_t rfl rfl (by omega)) rfl rfl rfl ?_
          | refine WL.s (s_gtr_f rfl rfl (by omega)) rfl rfl rfl ?_
          | refine WL.s (s_gtr rfl rfl) rfl rfl rfl ?_)
        | ((with_reducible refine WL.isO .leq ?_); first
          | refine WL.s (s_leq_t rfl rfl (by omega)) rfl rfl rfl ?_
          | refine WL.s (s_leq_f rfl rfl (by omega)) rfl rfl rfl ?_
          | refine WL.s (s_leq rfl rfl) rfl rfl rfl ?_)
        | ((with_reducible refine WL.isO .geq ?_); first
          | refine WL.s (s_geq_t rfl rfl (by omega)) rfl rfl rfl ?_
          | refine WL.s (s_geq_f rfl rfl (by omega)) rfl rfl rfl ?_
          | refine WL.s (s_geq rfl rfl) rfl rfl rfl ?_)
        | ((with_reducible refine WL.isO .add ?_); first
          | refine WL.s (s_addI rfl rfl (by omega)) rfl rfl rfl ?_
          | refine WL.s (s_add rfl rfl) rfl rfl rfl ?_)
        | ((with_reducible refine WL.isO .sub ?_); first
          | refine WL.s (s_subI rfl rfl (by omega)) rfl rfl rfl ?_
          | refine WL.s (s_sub rfl rfl) rfl rfl rfl ?_))
      | ((with_reducible refine WL.isL ?_); first
        | refine WL.s (s_lenL rfl) rfl rfl rfl ?_
        | refine WL.s (s_lenS rfl) rfl rfl rfl ?_))
    try ((with_reducible refine WL.isN ?_); refine WL.nil ?_; repeat (with_reducible first | refine thenP_n ?_ | refine blockP_n ?_))
    exact z.out) : p := hx ⟨k⟩
/-- The same for operations that wait for a bool. -/
theorem Gg {p q : Prop} (k : q) (hx : Zz q → p := by
    intro z
    repeat ((with_reducible refine WL.isG ?_); first
      | refine WL.passA rfl rfl rfl rfl ?_
      | refine WL.auto rfl rfl rfl rfl ?_
      | refine WL.s (s_fieldAddr rfl) rfl rfl rfl ?_
      | ((with_reducible refine WL.isB ?_); first
        | ((with_reducible refine WL.isO .eql ?_); first
          | refine WL.s (s_eql_t rfl rfl (by omega)) rfl rfl rfl ?_
          | refine WL.s (s_eql_f rfl rfl (by omega)) rfl rfl rfl ?_
          | refine WL.s (s_eql rfl rfl) rfl rfl rfl ?_
          | refine WL.s (s_eqlS_t rfl rfl (by first | rfl | assumption | decide)) rfl rfl rfl ?_
          | refine WL.s (s_eqlS_f rfl rfl (by first | assumption | decide)) rfl rfl rfl ?_
          | refine WL.s (s_eqlS rfl rfl) rfl rfl rfl ?_)
        | ((with_reducible refine WL.isO .lss ?_); first
          | refine WL.s (s_lss_t rfl rfl (by omega)) rfl rfl rfl ?_
          | refine WL.s (s_lss_f rfl rfl (by omega)) rfl rfl rfl ?_
          | refine WL.s (s_lss rfl rfl) rfl rfl rfl ?_)
        | ((with_reducible refine WL.isO .neq ?_); first
          | refine WL.s (s_neq_t rfl rfl (by omega)) rfl rfl rfl ?_
          | refine WL.s (s_neq_f rfl rfl (by omega)) rfl rfl rfl ?_
          | refine WL.s (s_neq rfl rfl) rfl rfl rfl ?_
          | refine WL.s (s_neqS_f rfl rfl (by first | rfl | assumption | decide)) rfl rfl rfl ?_
          | refine WL.s (s_neqS_t rfl rfl (by first | assumption | decide)) rfl rfl rfl ?_
          | refine WL.s (s_neqS rfl rfl) rfl rfl rfl ?_)
        | ((with_reducible refine WL.isO .gtr ?_); first
          | refine WL.s (s_gtr_t rfl rfl (by omega)) rfl rfl rfl ?_
          | refine WL.s (s_gtr_f rfl rfl (by omega)) rfl rfl rfl ?_
          | refine WL.s (s_gtr rfl rfl) rfl rfl rfl ?_)
        | ((with_reducible refine WL.isO .leq ?_); first
          | refine WL.s (s_leq_t rfl rfl (by omega)) rfl rfl rfl ?_
          | refine WL.s (s_leq_f rfl rfl (by omega)) rfl rfl rfl ?_
          | refine WL.s (s_leq rfl rfl) rfl rfl rfl ?_)
        | ((with_reducible refine WL.isO .geq ?_); first
          | refine WL.s (s_geq_t rfl rfl (by omega)) rfl rfl rfl ?_
          | refine WL.s (s_geq_f rfl rfl (by omega)) rfl rfl rfl ?_
          | refine WL.s (s_geq rfl rfl) rfl rfl rfl ?_)
        | ((with_reducible refine WL.isO .add ?_); first
          | refine WL.s (s_addI rfl rfl (by omega)) rfl rfl rfl ?_
          | refine WL.s (s_add rfl rfl) rfl rfl rfl ?_)
        | ((with_reducible refine WL.isO .sub ?_); first
          | refine WL.s (s_subI rfl rfl (by omega)) rfl rfl rfl ?_
          | refine WL.s (s_sub rfl rfl) rfl rfl rfl ?_))
      | ((with_reducible refine WL.isL ?_); first
        | refine WL.s (s_lenL rfl) rfl rfl rfl ?_
        | refine WL.s (s_lenS rfl) rfl rfl rfl ?_))
    exact z.out) : p := hx ⟨k⟩
/-- Out of a region at its end. -/
theorem Gn {p q : Prop} (k : q) (hx : Zz q → p := by
    intro z
    try ((with_reducible refine WL.isN ?_); refine WL.nil ?_)
    repeat (with_reducible first | refine thenP_n ?_ | refine blockP_n ?_)
    exact z.out) : p := hx ⟨k⟩
/-- A bool that operations wait for: known, or both ways. -/
theorem WL.k1 {t : Nat} (_ : PT t) (_hb : f.get t = some (.bool true)) (k1 : WL P n l0 l Q f h) (_ : TT) : WL P n l0 l Q f h := k1
theorem WL.k2 {t : Nat} (_ : PT t) (_hb : f.get t = some (.bool false)) (k1 : WL P n l0 l Q f h) (_ : TT) : WL P n l0 l Q f h := k1
theorem WL.partP {t : Nat} (_ : PT t) {b : Bool} (hb : f.get t = some (.bool b)) (h1 : b = true → WL P n l0 l Q ((t, .bool true) :: f) h) (h2 : b = false → WL P n l0 l Q ((t, .bool false) :: f) h) : WL P n l0 l Q f h := .part t hb h1 h2
theorem goP (t : Nat) {p q1 q2 : Prop} (k1 : q1) (k2 : q2) (hx : PT t → Zz q1 → Zz q2 → p := by
    intro tg z1 z2
    first
    | exact WL.k1 tg rfl z1.out z2.out
    | exact WL.k2 tg rfl z1.out z2.out
    | (refine WL.partP tg rfl (fun hb => ?_) (fun hb => ?_)
       all_goals (first | replace hb := of_decide_eq_true hb | replace hb := of_decide_eq_false hb | replace hb := of_decide_eq_false (nt hb) | replace hb := of_decide_eq_true (nf hb) | skip)
       · revert hb; exact Hb.out z1.out
       · revert hb; exact Hb.out z2.out)) : p := hx ⟨⟩ ⟨k1⟩ ⟨k2⟩
/-- A condition: known, or both ways. -/
theorem WC.cd1 {c : Operand} {x y : Code} {i j : Nat} (_ : PT i) (_ : PT j) (hc : f.ev c = some (.bool true)) (ht : Br i (WC P n x Q f h)) (_ : TT) : WC P n (.cond c x y) Q f h := .condB_t i hc ht
theorem WC.cd2 {c : Operand} {x y : Code} {i j : Nat} (_ : PT i) (_ : PT j) (hc : f.ev c = some (.bool false)) (ht : Br j (WC P n y Q f h)) (_ : TT) : WC P n (.cond c x y) Q f h := .condB_f j hc ht
theorem WC.cd3 {c : Operand} {x y : Code} {b : Bool} {i j : Nat} (_ : PT i) (_ : PT j) (hc : f.ev c = some (.bool b)) (ht : b = true → Br i (WC P n x Q f h)) (hf : b = false → Br j (WC P n y Q f h)) : WC P n (.cond c x y) Q f h := .condB i j hc ht hf
theorem goC (i j : Nat) {p q1 q2 : Prop} (k1 : q1) (k2 : q2) (hx : PT i → PT j → Zz q1 → Zz q2 → p := by
    intro ti tj z1 z2
    first
    | exact WC.cd1 ti tj rfl z1.out z2.out
    | exact WC.cd2 ti tj rfl z1.out z2.out
    | (refine WC.cd3 ti tj rfl (fun hb => ?_) (fun hb => ?_)
       all_goals (first | replace hb := of_decide_eq_true hb | replace hb := of_decide_eq_false hb | replace hb := of_decide_eq_false (nt hb) | replace hb := of_decide_eq_true (nf hb) | skip)
       · revert hb; exact Hb.out z1.out
       · revert hb; exact Hb.out z2.out)) : p := hx ⟨⟩ ⟨⟩ ⟨k1⟩ ⟨k2⟩
/-- A load of what stands at hand. -/
theorem WL.ld {d : Option Tmp} {ty : TypeId} {pos : String} {af : Array Edge} {g : Option (Nat × Bool)} {x : Operand} {ts t b o : Nat} {v : Value} [c : AggC P ts] (hx : f.ev x = some (.pointer (some ⟨b, o, Option.none⟩))) (hc : cell h ⟨b, o, Option.none⟩ = some v) (hg : goes f l0 ⟨d, .load ts x, ty, pos, af, g⟩ = true) (hd : d = some t) (ht : Nat.blt t n.n = true) (hk : WL P n l0 rest Q ((t, v) :: f) h) : WL P n l0 (⟨d, .load ts x, ty, pos, af, g⟩ :: rest) Q f h := .step (ok_load c.ex hx hc) hg hd ht hk
theorem Ld {p q : Prop} (k : q) (hx : Zz q → p := by
    intro z
    refine WL.ld rfl (by first | assumption | exact cell_blk (by assumption) rfl) rfl rfl rfl ?_
    exact z.out) : p := hx ⟨k⟩
/-- Out of a function. -/
theorem Gt {p q : Prop} (k : q) (hx : Zz q → p := by
    intro z
    refine WC.ret ?_
    repeat' (with_reducible first | refine thenP_r ?_ | refine blockP_r ?_)
    first | refine retP_1 _ ⟨rfl, trivial⟩ ?_ | refine retP_2 _ _ ⟨rfl, rfl, trivial⟩ ?_ | refine retP_3 _ _ _ ⟨rfl, rfl, rfl, trivial⟩ ?_ | refine retP_0 trivial ?_
    exact z.out) : p := hx ⟨k⟩
/-- Fewer slots. -/
structure GT (g : Fr) : Prop where
theorem WC.subT {c : Code} {g : Fr} (_ : GT g) (hs : SubL g f) (hc : WC P n c Q g h) : WC P n c Q f h := .sub g hs hc
theorem Gs {p q : Prop} (g : Fr) (k : q) (hx : GT g → Zz q → p := by
    intro tg z
    refine WC.subT tg ?_ z.out
    repeat' first | exact trivial | refine ⟨rfl, ?_⟩) : p := hx ⟨⟩ ⟨k⟩
end
section
variable {P : Program} {n : Env} {l : List Oper} {Q : Post} {C : Heap → Prop} {k fuel : Nat} {L : Array Bool} {f : Fr} {h : Heap}
theorem WH.tk {o : Oper} {v : Value} {t : Nat} (i : Nat) (hi : l[i]? = some o) (hok : ∀ h', C h' → OkP P f o h' v) (hg : goes f l o = true) (hd : o.dst = some t) (ht : Nat.blt t n.n = true)
    (hk : WH P n l Q C k fuel (L.setIfInBounds i true) ((t, v) :: f) h)
    (hs : Region.noSelect l.toArray = true := by kernel_rfl) (hfr : Region.free .any l.toArray L i = true := by kernel_rfl) (hr : (Region.ready .any l.toArray L).contains i = true := by kernel_rfl)
    (hE : (List.range l.length).all (fun j => Nat.blt j k || (!L.getD j true && Region.waitsFor .any l.toArray j i)) = true := by kernel_rfl) (hik : Nat.blt i k = true := by kernel_rfl) (hC : C h := by first | exact Ext.refl _ _ | assumption) :
    WH P n l Q C k (fuel + 1) L f h := .take i hi hs hfr hr hE hik hC hok hg hd ht hk
theorem WH.ps {o : Oper} {t : Nat} (i : Nat) (hi : l[i]? = some o) (hg : stops f l o = true) (hd : o.dst = some t) (ht : Nat.blt t n.n = true)
    (hk : WH P n l Q C k fuel (L.setIfInBounds i true) ((t, undef) :: f) h)
    (hs : Region.noSelect l.toArray = true := by kernel_rfl) (hfr : Region.free .any l.toArray L i = true := by kernel_rfl) (hr : (Region.ready .any l.toArray L).contains i = true := by kernel_rfl)
    (hE : (List.range l.length).all (fun j => Nat.blt j k || (!L.getD j true && Region.waitsFor .any l.toArray j i)) = true := by kernel_rfl) (hik : Nat.blt i k = true := by kernel_rfl) (hC : C h := by first | exact Ext.refl _ _ | assumption) :
    WH P n l Q C k (fuel + 1) L f h := .pass i hi hs hfr hr hE hik hC hg hd ht hk
end
end Go.RK

/-
  What all texts of a seat share.
-/
namespace Go.Proofs.YtbokngiajfdanaaGreatDoor
open Go Go.RK
theorem fol : Tryz.prog.follows .mixedOrders = true := by kernel_rfl
end Go.Proofs.YtbokngiajfdanaaGreatDoor


/-
  What is known of this program's types, for steps that are taken by themselves.
-/
namespace Go.Proofs.YtbokngiajfdanaaGreatDoor
open Go Go.RK
instance : SlcC Tryz.prog 22 := ⟨_, Tryz.underlying22⟩
instance : FldC Tryz.prog 32 0 0 := ⟨_, _, _, Tryz.underlying32, rfl, rfl, fun w => Tryz.sizeOf5 w⟩
instance : AggC Tryz.prog 5 := ⟨fun w => Tryz.isAgg5 w⟩
instance : SlcC Tryz.prog 33 := ⟨_, Tryz.underlying33⟩
instance : FldC Tryz.prog 42 0 0 := ⟨_, _, _, Tryz.underlying42, rfl, rfl, fun w => Tryz.sizeOf5 w⟩
instance : FldC Tryz.prog 42 1 1 := ⟨_, _, _, Tryz.underlying42, rfl, rfl, fun w => Tryz.sizeOf5 w⟩
instance : FldC Tryz.prog 42 2 2 := ⟨_, _, _, Tryz.underlying42, rfl, rfl, fun w => Tryz.sizeOf9 w⟩
instance : AggC Tryz.prog 9 := ⟨fun w => Tryz.isAgg9 w⟩
instance : FldC Tryz.prog 54 5 5 := ⟨_, _, _, Tryz.underlying54, rfl, rfl, fun w => Tryz.sizeOf4 w⟩
instance : FldC Tryz.prog 54 4 4 := ⟨_, _, _, Tryz.underlying54, rfl, rfl, fun w => Tryz.sizeOf4 w⟩
instance : AggC Tryz.prog 4 := ⟨fun w => Tryz.isAgg4 w⟩
instance : FldC Tryz.prog 54 0 0 := ⟨_, _, _, Tryz.underlying54, rfl, rfl, fun w => Tryz.sizeOf50 w⟩
instance : AggC Tryz.prog 50 := ⟨fun w => Tryz.isAgg50 w⟩
instance : FldC Tryz.prog 54 3 3 := ⟨_, _, _, Tryz.underlying54, rfl, rfl, fun w => Tryz.sizeOf5 w⟩
instance : SlcC Tryz.prog 35 := ⟨_, Tryz.underlying35⟩
instance : FldC Tryz.prog 42 3 3 := ⟨_, _, _, Tryz.underlying42, rfl, rfl, fun w => Tryz.sizeOf9 w⟩
instance : FldC Tryz.prog 42 4 4 := ⟨_, _, _, Tryz.underlying42, rfl, rfl, fun w => Tryz.sizeOf9 w⟩
instance : FldC Tryz.prog 42 8 8 := ⟨_, _, _, Tryz.underlying42, rfl, rfl, fun w => Tryz.sizeOf39 w⟩
instance : AggC Tryz.prog 39 := ⟨fun w => Tryz.isAgg39 w⟩
instance : FldC Tryz.prog 42 10 10 := ⟨_, _, _, Tryz.underlying42, rfl, rfl, fun w => Tryz.sizeOf40 w⟩
instance : AggC Tryz.prog 40 := ⟨fun w => Tryz.isAgg40 w⟩
instance : FldC Tryz.prog 42 9 9 := ⟨_, _, _, Tryz.underlying42, rfl, rfl, fun w => Tryz.sizeOf30 w⟩
instance : AggC Tryz.prog 30 := ⟨fun w => Tryz.isAgg30 w⟩
instance : FldC Tryz.prog 42 7 7 := ⟨_, _, _, Tryz.underlying42, rfl, rfl, fun w => Tryz.sizeOf29 w⟩
instance : AggC Tryz.prog 29 := ⟨fun w => Tryz.isAgg29 w⟩
instance : FldC Tryz.prog 42 5 5 := ⟨_, _, _, Tryz.underlying42, rfl, rfl, fun w => Tryz.sizeOf3 w⟩
instance : AggC Tryz.prog 3 := ⟨fun w => Tryz.isAgg3 w⟩
instance : FldC Tryz.prog 42 6 6 := ⟨_, _, _, Tryz.underlying42, rfl, rfl, fun w => Tryz.sizeOf3 w⟩
instance : FldC Tryz.prog 32 5 5 := ⟨_, _, _, Tryz.underlying32, rfl, rfl, fun w => Tryz.sizeOf29 w⟩
instance : SlcC Tryz.prog 29 := ⟨_, Tryz.underlying29⟩
instance : FldC Tryz.prog 32 6 6 := ⟨_, _, _, Tryz.underlying32, rfl, rfl, fun w => Tryz.sizeOf29 w⟩
instance : FldC Tryz.prog 32 7 7 := ⟨_, _, _, Tryz.underlying32, rfl, rfl, fun w => Tryz.sizeOf29 w⟩
instance : FldC Tryz.prog 32 8 8 := ⟨_, _, _, Tryz.underlying32, rfl, rfl, fun w => Tryz.sizeOf30 w⟩
instance : SlcC Tryz.prog 30 := ⟨_, Tryz.underlying30⟩
instance : FldC Tryz.prog 32 2 2 := ⟨_, _, _, Tryz.underlying32, rfl, rfl, fun w => Tryz.sizeOf9 w⟩
instance : StrC Tryz.prog 9 := ⟨Tryz.underlying9⟩
instance : FldC Tryz.prog 32 3 3 := ⟨_, _, _, Tryz.underlying32, rfl, rfl, fun w => Tryz.sizeOf9 w⟩
instance : FldC Tryz.prog 32 4 4 := ⟨_, _, _, Tryz.underlying32, rfl, rfl, fun w => Tryz.sizeOf9 w⟩
instance : FldC Tryz.prog 54 2 2 := ⟨_, _, _, Tryz.underlying54, rfl, rfl, fun w => Tryz.sizeOf27 w⟩
instance : AggC Tryz.prog 27 := ⟨fun w => Tryz.isAgg27 w⟩
instance : FldC Tryz.prog 54 1 1 := ⟨_, _, _, Tryz.underlying54, rfl, rfl, fun w => Tryz.sizeOf51 w⟩
instance : AggC Tryz.prog 51 := ⟨fun w => Tryz.isAgg51 w⟩
instance : AggC Tryz.prog 105 := ⟨fun w => Tryz.isAgg105 w⟩
instance : FldC Tryz.prog 69 0 0 := ⟨_, _, _, Tryz.underlying69, rfl, rfl, fun w => Tryz.sizeOf9 w⟩
instance : FldC Tryz.prog 69 1 1 := ⟨_, _, _, Tryz.underlying69, rfl, rfl, fun w => Tryz.sizeOf9 w⟩
instance : SlcC Tryz.prog 39 := ⟨_, Tryz.underlying39⟩
instance : FldC Tryz.prog 78 0 0 := ⟨_, _, _, Tryz.underlying78, rfl, rfl, fun w => Tryz.sizeOf9 w⟩
instance : FldC Tryz.prog 78 1 1 := ⟨_, _, _, Tryz.underlying78, rfl, rfl, fun w => Tryz.sizeOf3 w⟩
instance : FldC Tryz.prog 78 2 2 := ⟨_, _, _, Tryz.underlying78, rfl, rfl, fun w => Tryz.sizeOf3 w⟩
instance : FldC Tryz.prog 78 3 3 := ⟨_, _, _, Tryz.underlying78, rfl, rfl, fun w => Tryz.sizeOf3 w⟩
instance : FldC Tryz.prog 78 4 4 := ⟨_, _, _, Tryz.underlying78, rfl, rfl, fun w => Tryz.sizeOf3 w⟩
instance : FldC Tryz.prog 78 5 5 := ⟨_, _, _, Tryz.underlying78, rfl, rfl, fun w => Tryz.sizeOf3 w⟩
instance : FldC Tryz.prog 78 6 6 := ⟨_, _, _, Tryz.underlying78, rfl, rfl, fun w => Tryz.sizeOf3 w⟩
instance : SlcC Tryz.prog 40 := ⟨_, Tryz.underlying40⟩
instance : FldC Tryz.prog 82 0 0 := ⟨_, _, _, Tryz.underlying82, rfl, rfl, fun w => Tryz.sizeOf5 w⟩
instance : FldC Tryz.prog 82 1 1 := ⟨_, _, _, Tryz.underlying82, rfl, rfl, fun w => Tryz.sizeOf9 w⟩
instance : FldC Tryz.prog 87 0 0 := ⟨_, _, _, Tryz.underlying87, rfl, rfl, fun w => Tryz.sizeOf4 w⟩
instance : FldC Tryz.prog 87 1 1 := ⟨_, _, _, Tryz.underlying87, rfl, rfl, fun w => Tryz.sizeOf85 w⟩
instance : AggC Tryz.prog 85 := ⟨fun w => Tryz.isAgg85 w⟩
instance : SlcC Tryz.prog 85 := ⟨_, Tryz.underlying85⟩
instance : FldC Tryz.prog 98 0 0 := ⟨_, _, _, Tryz.underlying98, rfl, rfl, fun w => Tryz.sizeOf96 w⟩
instance : AggC Tryz.prog 96 := ⟨fun w => Tryz.isAgg96 w⟩
instance : FldC Tryz.prog 135 1 1 := ⟨_, _, _, Tryz.underlying135, rfl, rfl, fun w => Tryz.sizeOf29 w⟩
instance : FldC Tryz.prog 32 1 1 := ⟨_, _, _, Tryz.underlying32, rfl, rfl, fun w => Tryz.sizeOf5 w⟩
instance : FldC Tryz.prog 147 0 0 := ⟨_, _, _, Tryz.underlying147, rfl, rfl, fun w => Tryz.sizeOf135 w⟩
instance : FldC Tryz.prog 135 0 0 := ⟨_, _, _, Tryz.underlying135, rfl, rfl, fun w => Tryz.sizeOf9 w⟩
instance : FldC Tryz.prog 147 3 4 := ⟨_, _, _, Tryz.underlying147, rfl, rfl, fun w => Tryz.sizeOf4 w⟩
instance : FldC Tryz.prog 147 1 2 := ⟨_, _, _, Tryz.underlying147, rfl, rfl, fun w => Tryz.sizeOf30 w⟩
instance : FldC Tryz.prog 32 9 9 := ⟨_, _, _, Tryz.underlying32, rfl, rfl, fun w => Tryz.sizeOf3 w⟩
instance : FldC Tryz.prog 152 0 0 := ⟨_, _, _, Tryz.underlying152, rfl, rfl, fun w => Tryz.sizeOf3 w⟩
instance : SlcC Tryz.prog 175 := ⟨_, Tryz.underlying175⟩
instance : AggC Tryz.prog 65 := ⟨fun w => Tryz.isAgg65 w⟩
instance : AggC Tryz.prog 79 := ⟨fun w => Tryz.isAgg79 w⟩
instance : AggC Tryz.prog 83 := ⟨fun w => Tryz.isAgg83 w⟩
instance : AggC Tryz.prog 88 := ⟨fun w => Tryz.isAgg88 w⟩
instance : AggC Tryz.prog 90 := ⟨fun w => Tryz.isAgg90 w⟩
instance : FldC Tryz.prog 129 0 0 := ⟨_, _, _, Tryz.underlying129, rfl, rfl, fun w => Tryz.sizeOf5 w⟩
instance : FldC Tryz.prog 129 1 1 := ⟨_, _, _, Tryz.underlying129, rfl, rfl, fun w => Tryz.sizeOf85 w⟩
instance : FldC Tryz.prog 147 2 3 := ⟨_, _, _, Tryz.underlying147, rfl, rfl, fun w => Tryz.sizeOf145 w⟩
instance : FldC Tryz.prog 152 1 1 := ⟨_, _, _, Tryz.underlying152, rfl, rfl, fun w => Tryz.sizeOf3 w⟩
instance : SlcC Tryz.prog 145 := ⟨_, Tryz.underlying145⟩
instance : FldC Tryz.prog 147 4 5 := ⟨_, _, _, Tryz.underlying147, rfl, rfl, fun w => Tryz.sizeOf4 w⟩
instance : AggC Tryz.prog 145 := ⟨fun w => Tryz.isAgg145 w⟩
instance : FldC Tryz.prog 152 2 2 := ⟨_, _, _, Tryz.underlying152, rfl, rfl, fun w => Tryz.sizeOf9 w⟩
instance : FldC Tryz.prog 120 0 0 := ⟨_, _, _, Tryz.underlying120, rfl, rfl, fun w => Tryz.sizeOf3 w⟩
instance : FldC Tryz.prog 120 1 1 := ⟨_, _, _, Tryz.underlying120, rfl, rfl, fun w => Tryz.sizeOf3 w⟩
instance : FldC Tryz.prog 120 2 2 := ⟨_, _, _, Tryz.underlying120, rfl, rfl, fun w => Tryz.sizeOf3 w⟩
instance : FldC Tryz.prog 62 0 0 := ⟨_, _, _, Tryz.underlying62, rfl, rfl, fun w => Tryz.sizeOf55 w⟩
instance : AggC Tryz.prog 55 := ⟨fun w => Tryz.isAgg55 w⟩
instance : FldC Tryz.prog 62 1 1 := ⟨_, _, _, Tryz.underlying62, rfl, rfl, fun w => Tryz.sizeOf60 w⟩
instance : AggC Tryz.prog 228 := ⟨fun w => Tryz.isAgg228 w⟩
instance : SlcC Tryz.prog 192 := ⟨_, Tryz.underlying192⟩
instance : FldC Tryz.prog 247 1 1 := ⟨_, _, _, Tryz.underlying247, rfl, rfl, fun w => Tryz.sizeOf85 w⟩
instance : FldC Tryz.prog 60 2 0 := ⟨_, _, _, Tryz.underlying60, rfl, rfl, fun w => Tryz.sizeOf2 w⟩
instance : FldC Tryz.prog 247 0 0 := ⟨_, _, _, Tryz.underlying247, rfl, rfl, fun w => Tryz.sizeOf245 w⟩
instance : AggC Tryz.prog 245 := ⟨fun w => Tryz.isAgg245 w⟩
instance : FldC Tryz.prog 287 0 0 := ⟨_, _, _, Tryz.underlying287, rfl, rfl, fun w => Tryz.sizeOf5 w⟩
instance : FldC Tryz.prog 287 1 1 := ⟨_, _, _, Tryz.underlying287, rfl, rfl, fun w => Tryz.sizeOf5 w⟩
end Go.Proofs.YtbokngiajfdanaaGreatDoor


/-
  api.Cell, rows of them, and the document's compare of them.
-/
namespace Go.Proofs.YtbokngiajfdanaaGreatDoor
open Go Go.RK

/-- A cell: null, its bytes as they lie, its bytes. -/
structure Cel where
  null : Bool
  v : Value
  bytes : List UInt8
def Cel.cells (c : Cel) : List Value := [.bool c.null, c.v]
theorem Cel.len (c : Cel) : c.cells.length = 2 := rfl
/-- What a cell tells. -/
def Cel.pl (c : Cel) : Bool × List UInt8 := (c.null, c.bytes)
def Cel.ok (h : Heap) (c : Cel) : Prop := Rd h c.v 1 c.bytes.length (bys c.bytes) ∧ c.bytes.length ≤ reachBytes
def Cels (h : Heap) (v : Value) (l : List Cel) : Prop := Rd h v 2 l.length (l.flatMap Cel.cells) ∧ (l.length * 32 ≤ reachBytes ∧ ∃ A c, v = .slice A l.length c ∧ c ≤ maxLen) ∧ ∀ c ∈ l, c.ok h
theorem Cel.ok.ext0 {h h' : Heap} {c : Cel} (k : c.ok h) (a : Ext No h h') : c.ok h' := ⟨k.1.ext0 a, k.2⟩
theorem Cels.ext0 {h h' : Heap} {v : Value} {l : List Cel} (k : Cels h v l) (a : Ext No h h') : Cels h' v l := ⟨k.1.ext0 a, k.2.1, fun c hc => (k.2.2 c hc).ext0 a⟩
/-- The blocks that it lies in. -/
def CelsF (v : Value) (l : List Cel) (b : Nat) : Prop := (0 < l.length ∧ v.ownBlock = some b) ∨ ∃ c ∈ l, 0 < c.bytes.length ∧ c.v.ownBlock = some b
theorem Cels.lt {h : Heap} {v : Value} {l : List Cel} {b : Nat} (k : Cels h v l) (hb : CelsF v l b) : b < h.size := by
  rcases hb with ⟨h1, h2⟩ | ⟨c, hc, h1, h2⟩
  · exact k.1.lt h1 h2
  · exact (k.2.2 c hc).1.lt h1 h2
theorem Cels.ext {h h' : Heap} {S : Nat → Prop} {v : Value} {l : List Cel} (k : Cels h v l) (a : Ext S h h') (hS : ∀ b, CelsF v l b → ¬ S b) : Cels h' v l :=
  ⟨k.1.ext' a fun b h1 h2 => hS b (.inl ⟨h1, h2⟩), k.2.1, fun c hc => ⟨(k.2.2 c hc).1.ext' a fun b h1 h2 => hS b (.inr ⟨c, hc, h1, h2⟩), (k.2.2 c hc).2⟩⟩

/-- A row of a list: its slice, its cells. -/
structure Rw where
  v : Value
  l : List Cel
def Rw.pl (r : Rw) : List (Bool × List UInt8) := r.l.map Cel.pl
def Rws (h : Heap) (v : Value) (L : List Rw) : Prop := Rd h v 1 L.length (L.map Rw.v) ∧ (L.length * 24 ≤ reachBytes ∧ ∃ A c, v = .slice A L.length c ∧ c ≤ maxLen) ∧ ∀ r ∈ L, Cels h r.v r.l
def RwsF (v : Value) (L : List Rw) (b : Nat) : Prop := (0 < L.length ∧ v.ownBlock = some b) ∨ ∃ r ∈ L, CelsF r.v r.l b
theorem Rws.lt {h : Heap} {v : Value} {l : List Rw} {b : Nat} (k : Rws h v l) (hb : RwsF v l b) : b < h.size := by
  rcases hb with ⟨h1, h2⟩ | ⟨c, hc, h1⟩
  · exact k.1.lt h1 h2
  · exact (k.2.2 c hc).lt h1
theorem Rws.ext {h h' : Heap} {S : Nat → Prop} {v : Value} {l : List Rw} (k : Rws h v l) (a : Ext S h h') (hS : ∀ b, RwsF v l b → ¬ S b) : Rws h' v l :=
  ⟨k.1.ext' a fun b h1 h2 => hS b (.inl ⟨h1, h2⟩), k.2.1, fun c hc => (k.2.2 c hc).ext a fun b h1 => hS b (.inr ⟨c, hc, h1⟩)⟩
theorem Rws.ext0 {h h' : Heap} {v : Value} {l : List Rw} (k : Rws h v l) (a : Ext No h h') : Rws h' v l := k.ext a fun _ _ => nos
theorem opens_cell (w : World) : Opens Tryz.prog w 87 Cel.cells (fun c => c.ok w.heap) := by
  have h1 := opensF_cons (P := Tryz.prog) (w := w) (o := 1) (f := ⟨ "Bytes", 85, 1, false, "", "", 8⟩) rfl (opens_bytes Tryz.underlying85 (by kernel_rfl) (by kernel_rfl) Tryz.underlying5) (by kernel_rfl) (fun _ => rfl) opensF_nil
  have h2 := opensF_cons (P := Tryz.prog) (w := w) (o := 0) (f := ⟨ "Null", 4, 0, false, "", "", 0⟩) rfl (opens_bool Tryz.underlying4) (by kernel_rfl) (fun _ => rfl) h1
  exact (opens_struct Tryz.underlying87 (by kernel_rfl) h2).map (fun p => (⟨p.1, p.2.1.1, p.2.1.2⟩ : Cel)) (fun _ => rfl) (fun p q => q.2.1)
theorem opens_cells (w : World) : Opens Tryz.prog w 30 (fun p : Value × List Cel => [p.1]) (fun p => Cels w.heap p.1 p.2) :=
  (opens_slice Tryz.underlying30 (by kernel_rfl) (by decide) Cel.len (opens_cell w)).map id (fun _ => rfl) fun p q => ⟨q.1, ⟨by have := q.2.2.2.2; rwa [show Tryz.prog.bytesOf 87 = 32 by kernel_rfl] at this, q.2.2.1⟩, q.2.2.2.1⟩

theorem map_take {α β : Type} {F : α → β} {l m : List α} {k : Nat} {a b : α} (h : (l.take k).map F = (m.take k).map F) (ha : l[k]? = some a) (hb : m[k]? = some b) (e : F a = F b) : (l.take (k + 1)).map F = (m.take (k + 1)).map F := by
  rw [List.take_add_one, List.take_add_one, ha, hb, List.map_append, List.map_append, h]
  simp [e]
theorem map_ne {α β : Type} {F : α → β} {l m : List α} {k : Nat} {a b : α} (ha : l[k]? = some a) (hb : m[k]? = some b) (e : F a ≠ F b) : l.map F ≠ m.map F := fun h => e (by
  have := congrArg (·[k]?) h
  simpa [ha, hb] using this)

set_option maxHeartbeats 2000000 in
set_option maxRecDepth 100000 in
theorem cells_ref {h : Heap} {v u : Value} (l m : List Cel) (hl : Cels h v l) (hm : Cels h u m) :
    CallsH Tryz.prog 200 ⟨[v, u]⟩ h fun u h' => u = .bool (decide (l.map Cel.pl = m.map Cel.pl)) ∧ h' = h := by
  obtain ⟨hr, ⟨hlm, A, c, rfl, _⟩, ho⟩ := hl
  obtain ⟨hs, ⟨hmm, B, d, rfl, _⟩, hp⟩ := hm
  unfold reachBytes at hlm hmm
  refine calls [(0, _), (1, _)] Tryz.func200 rfl Tryz.ntmps200 rfl ⟨rfl, rfl, trivial⟩ ?_
  all_goals (refine WC.sr ?_; refine Go ?_; refine WC.seq ?_; refine WC.sr ?_; refine Go ?_; refine Gs [(0, _), (1, _), (10, _)] ?_; refine goC 1 2 (Hb.mk fun hb => ?_) (Hb.mk fun hb => ?_))
  all_goals (first | (fail_if_success refine goB 1 ?_) | (
  refine goB 1 ?_
  all_goals (refine WC.sr ?_; refine Go ?_; refine Gt ?_; first | exact ⟨by rw [decide_eq_false (fun e => by have := congrArg List.length e; simp at this; omega)], rfl⟩ | exact ⟨by rw [decide_eq_false (map_ne hc1 hc2 (by simp_all [Cel.pl]))], rfl⟩ | exact ⟨by rw [decide_eq_true (by rw [List.take_of_length_le (by omega), List.take_of_length_le (by omega)] at hn; exact hn)], rfl⟩)
  skip))
  all_goals (refine goB 2 ?_; refine WC.skip ?_; refine Gn ?_; refine WC.seq ?_; refine WC.sr ?_; refine Go ?_; refine WC.block ?_)
  -- loop 0: slots that turn [5], that stay [0, 1]
  all_goals (refine WC.loopG (X := Nat) (fun x => ([(5, In (x : Int))] : Fr)) [(0, _), (1, _)] (fun k h' => h' = h ∧ k ≤ l.length ∧ (l.take k).map Cel.pl = (m.take k).map Cel.pl) (fun k => l.length - k) (0) ⟨rfl, rfl, rfl, trivial⟩ (by exact ⟨rfl, Nat.zero_le _, by simp⟩) ?_; rintro k _ ⟨rfl, hk, hn⟩; refine WC.sub [(5, _), (0, _), (1, _)] ⟨rfl, rfl, rfl, trivial⟩ ?_; refine WC.seq ?_; refine WC.sr ?_; refine Go ?_; refine goC 3 4 (Hb.mk fun hb => ?_) (Hb.mk fun hb => ?_))
  all_goals (first | (fail_if_success refine goB 3 ?_) | (
  refine goB 3 ?_
  all_goals (refine WC.skip ?_)
  skip))
  all_goals (first | (fail_if_success refine goB 4 ?_) | (
  refine goB 4 ?_
  all_goals (refine WC.exit ?_; repeat' (with_reducible first | refine thenP_x ?_ | refine blockP_miss rfl ?_ | refine blockP_hit ?_ | refine blockP_n ?_ | refine thenP_n ?_))
  all_goals (refine Br.out (i := 1000) ?_)
  skip))
  all_goals (refine Gn ?_; first | (refine Br.keep ?_) | (refine Gs [(0, _), (1, _), (5, _)] ?_))
  all_goals (first | (refine Br.keep ?_) | (refine WC.seq ?_))
  all_goals (first | (refine Br.keep ?_) | (refine WC.block ?_))
  all_goals (first | (refine Br.keep ?_) | (refine WC.seq ?_))
  all_goals (first
               | (refine Br.keep ?_)
               | (obtain ⟨b, o, hA, hbL, hat⟩ := Rd.at_ hr (by omega)
                  obtain ⟨b2, o2, hB, hb2, hat2⟩ := Rd.at_ hs (by omega)
                  obtain ⟨⟨n1, v1, s1⟩, hc1⟩ : ∃ y, l[k]? = some y := ⟨_, List.getElem?_eq_getElem (by omega)⟩
                  obtain ⟨⟨n2, v2, s2⟩, hc2⟩ : ∃ y, m[k]? = some y := ⟨_, List.getElem?_eq_getElem (by omega)⟩
                  have ok1 := (ho _ (List.mem_of_getElem? hc1)).1
                  have ok2 := (hp _ (List.mem_of_getElem? hc2)).1
                  simp only at ok1 ok2
                  have at1 := At.elem Cel.len hat hc1
                  have at2 := At.elem Cel.len hat2 hc2
                  obtain ⟨A1, k1, rfl, _⟩ := id ok1
                  obtain ⟨A2, k2, rfl, _⟩ := id ok2))
  all_goals (first | (refine Br.keep ?_) | (refine WC.drawE fol (by kernel_rfl) ?_))
  all_goals (first | (refine Br.keep ?_) | (refine WQ.stepE (ok_move rfl) rfl rfl rfl ?_))
  all_goals (first | (refine Br.keep ?_) | (refine WQ.stepE (ok_move rfl) rfl rfl rfl ?_))
  all_goals (first | (refine Br.keep ?_) | (refine WQ.stepE (ok_idxAddrA Tryz.underlying30 (fun w => Tryz.sizeOf87 w) rfl rfl rfl (by omega) (by first | rfl | assumption)) rfl rfl rfl ?_))
  all_goals (first | (refine Br.keep ?_) | (refine WQ.stepE (ok_fieldAddr rfl Tryz.underlying87 rfl (fun w => Tryz.sizeOf4 w)) rfl rfl rfl ?_))
  all_goals (first | (refine Br.keep ?_) | (refine WQ.stepE (ok_load (fun w => Tryz.isAgg4 w) rfl (by first | exact at1.get 0 rfl rfl | assumption | exact cell_blk (by assumption) rfl)) rfl rfl rfl ?_))
  all_goals (first | (refine Br.keep ?_) | (refine WQ.stepE (ok_move rfl) rfl rfl rfl ?_))
  all_goals (first | (refine Br.keep ?_) | (refine WQ.stepE (ok_move rfl) rfl rfl rfl ?_))
  all_goals (first | (refine Br.keep ?_) | (refine WQ.stepE (ok_idxAddrA Tryz.underlying30 (fun w => Tryz.sizeOf87 w) rfl rfl rfl (by omega) (by first | rfl | assumption)) rfl rfl rfl ?_))
  all_goals (first | (refine Br.keep ?_) | (refine WQ.stepE (ok_fieldAddr rfl Tryz.underlying87 rfl (fun w => Tryz.sizeOf4 w)) rfl rfl rfl ?_))
  all_goals (first | (refine Br.keep ?_) | (refine WQ.stepE (ok_load (fun w => Tryz.isAgg4 w) rfl (by first | exact at2.get 0 rfl rfl | assumption | exact cell_blk (by assumption) rfl)) rfl rfl rfl ?_))
  all_goals (first | (refine Br.keep ?_) | (refine WQ.stepE (ok_neqB Tryz.underlying4 rfl rfl) rfl rfl rfl ?_))
  all_goals (first | (refine Br.keep ?_) | (refine WQ.stepE (ok_move rfl) rfl rfl rfl ?_))
  all_goals (first | (refine Br.keep ?_) | (try ((fail_if_success (refine WQ.part 28 (b := true) rfl (fun _ => ?_) (fun _ => ?_))); (fail_if_success (refine WQ.part 28 (b := false) rfl (fun _ => ?_) (fun _ => ?_))); (refine WQ.part 28 rfl (fun hb => ?_) (fun hb => ?_) <;> (first | replace hb := of_decide_eq_true hb | replace hb := of_decide_eq_false hb | replace hb := of_decide_eq_false (nt hb) | replace hb := of_decide_eq_true (nf hb) | skip)))))
  all_goals (first | (refine Br.keep ?_) | (first | (refine WQ.pass rfl rfl rfl ?_) | (refine WQ.stepE (ok_move rfl) rfl rfl rfl ?_)))
  all_goals (first | (refine Br.keep ?_) | (first | (refine WQ.pass rfl rfl rfl ?_) | (refine WQ.stepE (ok_move rfl) rfl rfl rfl ?_)))
  all_goals (first | (refine Br.keep ?_) | (first | (refine WQ.pass rfl rfl rfl ?_) | (refine WQ.stepE (ok_idxAddrA Tryz.underlying30 (fun w => Tryz.sizeOf87 w) rfl rfl rfl (by omega) (by first | rfl | assumption)) rfl rfl rfl ?_)))
  all_goals (first | (refine Br.keep ?_) | (first | (refine WQ.pass rfl rfl rfl ?_) | (refine WQ.stepE (ok_fieldAddr rfl Tryz.underlying87 rfl (fun w => Tryz.sizeOf85 w)) rfl rfl rfl ?_)))
  all_goals (first | (refine Br.keep ?_) | (first | (refine WQ.pass rfl rfl rfl ?_) | (refine WQ.stepE (ok_load (fun w => Tryz.isAgg85 w) rfl (by first | exact at1.get 1 rfl rfl | assumption | exact cell_blk (by assumption) rfl)) rfl rfl rfl ?_)))
  all_goals (first | (refine Br.keep ?_) | (first | (refine WQ.pass rfl rfl rfl ?_) | (refine WQ.stepE (ok_convBS Tryz.underlying85 Tryz.underlying5 Tryz.underlying9 rfl (by assumption)) rfl rfl rfl ?_)))
  all_goals (first | (refine Br.keep ?_) | (first | (refine WQ.pass rfl rfl rfl ?_) | (refine WQ.stepE (ok_move rfl) rfl rfl rfl ?_)))
  all_goals (first | (refine Br.keep ?_) | (first | (refine WQ.pass rfl rfl rfl ?_) | (refine WQ.stepE (ok_move rfl) rfl rfl rfl ?_)))
  all_goals (first | (refine Br.keep ?_) | (first | (refine WQ.pass rfl rfl rfl ?_) | (refine WQ.stepE (ok_idxAddrA Tryz.underlying30 (fun w => Tryz.sizeOf87 w) rfl rfl rfl (by omega) (by first | rfl | assumption)) rfl rfl rfl ?_)))
  all_goals (first | (refine Br.keep ?_) | (first | (refine WQ.pass rfl rfl rfl ?_) | (refine WQ.stepE (ok_fieldAddr rfl Tryz.underlying87 rfl (fun w => Tryz.sizeOf85 w)) rfl rfl rfl ?_)))
  all_goals (first | (refine Br.keep ?_) | (first | (refine WQ.pass rfl rfl rfl ?_) | (refine WQ.stepE (ok_load (fun w => Tryz.isAgg85 w) rfl (by first | exact at2.get 1 rfl rfl | assumption | exact cell_blk (by assumption) rfl)) rfl rfl rfl ?_)))
  all_goals (first | (refine Br.keep ?_) | (first | (refine WQ.pass rfl rfl rfl ?_) | (refine WQ.stepE (ok_convBS Tryz.underlying85 Tryz.underlying5 Tryz.underlying9 rfl (by assumption)) rfl rfl rfl ?_)))
  all_goals (first | (refine Br.keep ?_) | (first | (refine WQ.pass rfl rfl rfl ?_) | (refine WQ.stepE (ok_neqS rfl rfl) rfl rfl rfl ?_)))
  all_goals (first | (refine Br.keep ?_) | (first | (refine WQ.stepE (ok_pick_t rfl rfl) rfl rfl rfl ?_) | (refine WQ.stepE (ok_pick_f rfl rfl) rfl rfl rfl ?_)))
  all_goals (first | (refine Br.keep ?_) | (refine WQ.nil ?_))
  all_goals (refine Gn ?_; first | (refine Br.keep ?_) | (refine Gs [(0, _), (1, _), (5, _), (42, _)] ?_))
  all_goals (first | (refine Br.keep ?_) | (first | (refine goC 5 6 ?_ TT.mk) | (refine goC 5 6 (Hb.mk fun hb => ?_) (Hb.mk fun hb => ?_))))
  all_goals (first | (fail_if_success refine goB 5 ?_) | (
  refine goB 5 ?_
  all_goals (refine WC.sr ?_; refine Go ?_; refine Gs [(4, _)] ?_; refine Gt ?_; first | exact ⟨by rw [decide_eq_false (fun e => by have := congrArg List.length e; simp at this; omega)], rfl⟩ | exact ⟨by rw [decide_eq_false (map_ne hc1 hc2 (by simp_all [Cel.pl]))], rfl⟩ | exact ⟨by rw [decide_eq_true (by rw [List.take_of_length_le (by omega), List.take_of_length_le (by omega)] at hn; exact hn)], rfl⟩)
  skip))
  all_goals (first | (fail_if_success refine goB 6 ?_) | (
  refine goB 6 ?_
  all_goals (refine WC.skip ?_)
  skip))
  all_goals (refine Gn ?_; first | (refine Br.keep ?_) | (refine WC.region ?_))
  all_goals (refine Go ?_; first | (refine Br.keep ?_) | (exact ⟨k + 1, ⟨rfl, rfl, rfl, trivial⟩, (by exact ⟨rfl, by omega, map_take hn hc1 hc2 (by simp_all [Cel.pl])⟩), (by omega)⟩))
  all_goals (try (refine Br.mk (i := 1000) ?_))
  all_goals (refine Gn ?_; refine Gs [] ?_; refine WC.sr ?_; refine Go ?_; refine Gt ?_; first | exact ⟨by rw [decide_eq_false (fun e => by have := congrArg List.length e; simp at this; omega)], rfl⟩ | exact ⟨by rw [decide_eq_false (map_ne hc1 hc2 (by simp_all [Cel.pl]))], rfl⟩ | exact ⟨by rw [decide_eq_true (by rw [List.take_of_length_le (by omega), List.take_of_length_le (by omega)] at hn; exact hn)], rfl⟩)
end Go.Proofs.YtbokngiajfdanaaGreatDoor


/-
  package slices at slices of numbers: Index, Equal, Clone, Delete.
-/
namespace Go.Proofs.YtbokngiajfdanaaGreatDoor
open Go Go.RK


abbrev ints (l : List Int) : List Value := l.map In
/-- Where a number stands; below 0: nowhere. -/
def idxOf : List Int → Int → Int
  | [], _ => -1
  | a :: l, x => if a = x then 0 else if idxOf l x < 0 then -1 else idxOf l x + 1
theorem idxOf_cases (l : List Int) (x : Int) : (idxOf l x = -1 ∧ x ∉ l) ∨ ∃ k : Nat, idxOf l x = k ∧ l[k]? = some x ∧ x ∉ l.take k := by
  induction l with
  | nil => exact .inl ⟨rfl, by simp⟩
  | cons a l ih =>
    unfold idxOf
    by_cases h : a = x
    · exact .inr ⟨0, by simp [h], by simp [h], by simp⟩
    · rw [if_neg h]
      rcases ih with ⟨h1, h2⟩ | ⟨k, h1, h2, h3⟩
      · exact .inl ⟨by rw [h1]; rfl, by simp [h2, Ne.symm h]⟩
      · exact .inr ⟨k + 1, by rw [h1, if_neg (by omega)]; omega, by simpa using h2, by simp [h3, Ne.symm h]⟩
theorem idxOf_at {l : List Int} {x : Int} {k : Nat} (h1 : l[k]? = some x) (h2 : x ∉ l.take k) : idxOf l x = k := by
  rcases idxOf_cases l x with ⟨_, h⟩ | ⟨j, h, h3, h4⟩
  · exact absurd (List.mem_of_getElem? h1) h
  · rw [h]
    rcases Nat.lt_trichotomy j k with e | e | e
    · exact absurd (List.mem_of_getElem? (show (l.take k)[j]? = some x by rw [List.getElem?_take, if_pos e]; exact h3)) h2
    · rw [e]
    · exact absurd (List.mem_of_getElem? (show (l.take j)[k]? = some x by rw [List.getElem?_take, if_pos e]; exact h1)) h4
theorem idxOf_no {l : List Int} {x : Int} (h : x ∉ l) : idxOf l x = -1 := by
  rcases idxOf_cases l x with ⟨e, _⟩ | ⟨j, _, h3, _⟩
  · exact e
  · exact absurd (List.mem_of_getElem? h3) h
theorem take_snoc_not {l : List Int} {x y : Int} {k : Nat} (h : x ∉ l.take k) (hk : l[k]? = some y) (hne : ¬ x = y) : x ∉ l.take (k + 1) := by
  rw [List.take_add_one, hk]
  simp [h, hne]
theorem get_int {l : List Int} {k : Nat} {y : Int} (hk : l[k]? = some y) : (ints l)[k]? = some (In y) := by simp [hk]

set_option maxHeartbeats 2000000 in
set_option maxRecDepth 100000 in
theorem index_int {h : Heap} {A : Option Addr} {c : Nat} (l : List Int) (x : Int) (hr : Rd h (.slice A l.length c) 1 l.length (ints l)) (hm : l.length ≤ maxLen) :
    CallsH Tryz.prog 211 ⟨[.slice A l.length c, In x]⟩ h fun u h' => u = In (idxOf l x) ∧ h' = h := by
  unfold maxLen at hm
  refine calls [(0, _), (1, _)] Tryz.func211 rfl Tryz.ntmps211 rfl ⟨rfl, rfl, trivial⟩ ?_
  all_goals (refine WC.sr ?_; refine Go ?_; refine WC.seq ?_; refine WC.sr ?_; refine Go ?_; refine WC.block ?_)
  -- loop 0: slots that turn [8], that stay [0, 1, 7]
  all_goals (refine WC.loopG (X := Nat) (fun x => ([(8, In (x : Int))] : Fr)) [(0, _), (1, _), (7, _)] (fun k h' => h' = h ∧ k ≤ l.length ∧ x ∉ l.take k) (fun k => l.length - k) (0) ⟨rfl, rfl, rfl, rfl, trivial⟩ (by exact ⟨rfl, Nat.zero_le _, by simp⟩) ?_; rintro k _ ⟨rfl, hk, hn⟩; refine WC.sub [(8, _), (0, _), (1, _), (7, _)] ⟨rfl, rfl, rfl, rfl, trivial⟩ ?_; refine WC.sr ?_; refine Go ?_; refine WC.seq ?_; refine goC 1 2 (Hb.mk fun hb => ?_) (Hb.mk fun hb => ?_))
  all_goals (first | (fail_if_success refine goB 1 ?_) | (
  refine goB 1 ?_
  all_goals (refine WC.skip ?_)
  skip))
  all_goals (first | (fail_if_success refine goB 2 ?_) | (
  refine goB 2 ?_
  all_goals (refine WC.exit ?_; repeat' (with_reducible first | refine thenP_x ?_ | refine blockP_miss rfl ?_ | refine blockP_hit ?_ | refine blockP_n ?_ | refine thenP_n ?_))
  all_goals (refine Br.out (i := 1000) ?_)
  skip))
  all_goals (refine Gn ?_; first | (refine Br.keep ?_) | (refine WC.seq ?_))
  all_goals (first | (refine Br.keep ?_) | (refine WC.block ?_))
  all_goals (first | (refine Br.keep ?_) | (refine WC.sr ?_))
  all_goals (refine Go ?_; first | (refine Br.keep ?_) | (refine WC.sr ?_))
  all_goals (refine Go ?_)
  all_goals (first
               | (refine Br.keep ?_)
               | (obtain ⟨b, o, hA, hbL, hat⟩ := Rd.at_ hr (by omega)
                  obtain ⟨y, hy⟩ : ∃ y, l[k]? = some y := ⟨_, List.getElem?_eq_getElem (by omega)⟩
                  have hc := hat.get (p := o + k * 1) k (get_int hy) (by omega)))
  all_goals (first | (refine Br.keep ?_) | (refine WL.step (ok_idxAddrA Tryz.underlying29 (fun w => Tryz.sizeOf3 w) rfl rfl rfl (by omega) (by first | rfl | assumption)) rfl rfl rfl ?_))
  all_goals (first | (refine Br.keep ?_) | (refine Ld ?_))
  all_goals (refine Go ?_; first | (refine Br.keep ?_) | (refine Gs [(0, _), (1, _), (5, _), (7, _), (8, _), (16, _)] ?_))
  all_goals (first | (refine Br.keep ?_) | (refine goC 3 4 (Hb.mk fun hb => ?_) (Hb.mk fun hb => ?_)))
  all_goals (first | (fail_if_success refine goB 3 ?_) | (
  refine goB 3 ?_
  all_goals (refine WC.sr ?_; refine Go ?_; refine Gs [(4, _)] ?_; refine Gt ?_; first | exact ⟨by rw [idxOf_no (by rw [List.take_of_length_le (by omega)] at hn; exact hn)], rfl⟩ | exact ⟨by rw [idxOf_at (k := k) (by rw [hy, hb]) hn], rfl⟩)
  skip))
  all_goals (first | (fail_if_success refine goB 4 ?_) | (
  refine goB 4 ?_
  all_goals (refine WC.skip ?_)
  skip))
  all_goals (refine Gn ?_; first | (refine Br.keep ?_) | (refine WC.region ?_))
  all_goals (refine Go ?_; first | (refine Br.keep ?_) | (exact ⟨k + 1, ⟨rfl, rfl, rfl, rfl, trivial⟩, (by exact ⟨rfl, by omega, take_snoc_not hn hy (by assumption)⟩), (by omega)⟩))
  all_goals (try (refine Br.mk (i := 1000) ?_))
  all_goals (refine Gn ?_; refine Gs [] ?_; refine WC.sr ?_; refine Go ?_; refine Gt ?_; first | exact ⟨by rw [idxOf_no (by rw [List.take_of_length_le (by omega)] at hn; exact hn)], rfl⟩ | exact ⟨by rw [idxOf_at (k := k) (by rw [hy, hb]) hn], rfl⟩)

set_option maxHeartbeats 2000000 in
set_option maxRecDepth 100000 in
theorem equal_int {h : Heap} {A B : Option Addr} {c d : Nat} (l m : List Int) (hr : Rd h (.slice A l.length c) 1 l.length (ints l)) (hs : Rd h (.slice B m.length d) 1 m.length (ints m)) (hm : l.length ≤ maxLen) :
    CallsH Tryz.prog 70 ⟨[.slice A l.length c, .slice B m.length d]⟩ h fun u h' => u = .bool (decide (l = m)) ∧ h' = h := by
  unfold maxLen at hm
  refine calls [(0, _), (1, _)] Tryz.func70 rfl Tryz.ntmps70 rfl ⟨rfl, rfl, trivial⟩ ?_
  all_goals (refine WC.sr ?_; refine Go ?_; refine WC.seq ?_; refine WC.sr ?_; refine Go ?_; refine Gs [(0, _), (1, _), (10, _)] ?_; refine goC 1 2 (Hb.mk fun hb => ?_) (Hb.mk fun hb => ?_))
  all_goals (first | (fail_if_success refine goB 1 ?_) | (
  refine goB 1 ?_
  all_goals (refine WC.sr ?_; refine Go ?_; refine Gt ?_; first | exact ⟨by rw [decide_eq_false (fun e => by subst e; omega)], rfl⟩ | exact ⟨by rw [decide_eq_false (fun e => by subst e; rw [hy] at hz; injection hz with hz; omega)], rfl⟩ | exact ⟨by rw [decide_eq_true (by rw [List.take_of_length_le (by omega), List.take_of_length_le (by omega)] at hn; exact hn)], rfl⟩)
  skip))
  all_goals (refine goB 2 ?_; refine WC.skip ?_; refine Gn ?_; refine WC.seq ?_; refine WC.sr ?_; refine Go ?_; refine WC.block ?_)
  -- loop 0: slots that turn [13], that stay [0, 1, 12]
  all_goals (refine WC.loopG (X := Nat) (fun x => ([(13, In (x : Int))] : Fr)) [(0, _), (1, _), (12, _)] (fun k h' => h' = h ∧ k ≤ l.length ∧ l.take k = m.take k) (fun k => l.length - k) (0) ⟨rfl, rfl, rfl, rfl, trivial⟩ (by exact ⟨rfl, Nat.zero_le _, by simp⟩) ?_; rintro k _ ⟨rfl, hk, hn⟩; refine WC.sub [(13, _), (0, _), (1, _), (12, _)] ⟨rfl, rfl, rfl, rfl, trivial⟩ ?_; refine WC.sr ?_; refine Go ?_; refine WC.seq ?_; refine goC 3 4 (Hb.mk fun hb => ?_) (Hb.mk fun hb => ?_))
  all_goals (first | (fail_if_success refine goB 3 ?_) | (
  refine goB 3 ?_
  all_goals (refine WC.skip ?_)
  skip))
  all_goals (first | (fail_if_success refine goB 4 ?_) | (
  refine goB 4 ?_
  all_goals (refine WC.exit ?_; repeat' (with_reducible first | refine thenP_x ?_ | refine blockP_miss rfl ?_ | refine blockP_hit ?_ | refine blockP_n ?_ | refine thenP_n ?_))
  all_goals (refine Br.out (i := 1000) ?_)
  skip))
  all_goals (refine Gn ?_; first | (refine Br.keep ?_) | (refine WC.seq ?_))
  all_goals (first | (refine Br.keep ?_) | (refine WC.block ?_))
  all_goals (first | (refine Br.keep ?_) | (refine WC.sr ?_))
  all_goals (refine Go ?_; first | (refine Br.keep ?_) | (refine WC.seq ?_))
  all_goals (first
               | (refine Br.keep ?_)
               | (obtain ⟨b, o, hA, hbL, hat⟩ := Rd.at_ hr (by omega)
                  obtain ⟨b2, o2, hB, hb2, hat2⟩ := Rd.at_ hs (by omega)
                  obtain ⟨y, hy⟩ : ∃ y, l[k]? = some y := ⟨_, List.getElem?_eq_getElem (by omega)⟩
                  obtain ⟨z, hz⟩ : ∃ z, m[k]? = some z := ⟨_, List.getElem?_eq_getElem (by omega)⟩
                  have hc := hat.get (p := o + k * 1) k (get_int hy) (by omega)
                  have hc2 := hat2.get (p := o2 + k * 1) k (get_int hz) (by omega)))
  all_goals (first | (refine Br.keep ?_) | (refine WC.drawE fol (by kernel_rfl) ?_))
  all_goals (first | (refine Br.keep ?_) | (refine WQ.stepE (ok_move rfl) rfl rfl rfl ?_))
  all_goals (first | (refine Br.keep ?_) | (refine WQ.stepE (ok_move rfl) rfl rfl rfl ?_))
  all_goals (first | (refine Br.keep ?_) | (refine WQ.stepE (ok_idxAddrA Tryz.underlying29 (fun w => Tryz.sizeOf3 w) rfl rfl rfl (by omega) (by first | rfl | assumption)) rfl rfl rfl ?_))
  all_goals (first | (refine Br.keep ?_) | (refine WQ.stepE (ok_load (fun w => Tryz.isAgg3 w) rfl (by first | assumption | exact cell_blk (by assumption) rfl)) rfl rfl rfl ?_))
  all_goals (first | (refine Br.keep ?_) | (refine WQ.stepE (ok_move rfl) rfl rfl rfl ?_))
  all_goals (first | (refine Br.keep ?_) | (refine WQ.stepE (ok_move rfl) rfl rfl rfl ?_))
  all_goals (first | (refine Br.keep ?_) | (refine WQ.stepE (ok_idxAddrA Tryz.underlying29 (fun w => Tryz.sizeOf3 w) rfl rfl rfl (by omega) (by first | rfl | assumption)) rfl rfl rfl ?_))
  all_goals (first | (refine Br.keep ?_) | (refine WQ.stepE (ok_load (fun w => Tryz.isAgg3 w) rfl (by first | assumption | exact cell_blk (by assumption) rfl)) rfl rfl rfl ?_))
  all_goals (first | (refine Br.keep ?_) | (refine WQ.stepE (ok_neq rfl rfl) rfl rfl rfl ?_))
  all_goals (first | (refine Br.keep ?_) | (refine WQ.nil ?_))
  all_goals (refine Gn ?_; first | (refine Br.keep ?_) | (refine Gs [(0, _), (1, _), (12, _), (13, _), (24, _)] ?_))
  all_goals (first | (refine Br.keep ?_) | (refine goC 5 6 (Hb.mk fun hb => ?_) (Hb.mk fun hb => ?_)))
  all_goals (first | (fail_if_success refine goB 5 ?_) | (
  refine goB 5 ?_
  all_goals (refine WC.sr ?_; refine Go ?_; refine Gs [(4, _)] ?_; refine Gt ?_; first | exact ⟨by rw [decide_eq_false (fun e => by subst e; omega)], rfl⟩ | exact ⟨by rw [decide_eq_false (fun e => by subst e; rw [hy] at hz; injection hz with hz; omega)], rfl⟩ | exact ⟨by rw [decide_eq_true (by rw [List.take_of_length_le (by omega), List.take_of_length_le (by omega)] at hn; exact hn)], rfl⟩)
  skip))
  all_goals (first | (fail_if_success refine goB 6 ?_) | (
  refine goB 6 ?_
  all_goals (refine WC.skip ?_)
  skip))
  all_goals (refine Gn ?_; first | (refine Br.keep ?_) | (refine WC.region ?_))
  all_goals (refine Go ?_; first | (refine Br.keep ?_) | (exact ⟨k + 1, ⟨rfl, rfl, rfl, rfl, trivial⟩, (by exact ⟨rfl, by omega, by rw [List.take_add_one, List.take_add_one, hn, hy, hz, show y = z by omega]⟩), (by omega)⟩))
  all_goals (try (refine Br.mk (i := 1000) ?_))
  all_goals (refine Gn ?_; refine Gs [] ?_; refine WC.sr ?_; refine Go ?_; refine Gt ?_; first | exact ⟨by rw [decide_eq_false (fun e => by subst e; omega)], rfl⟩ | exact ⟨by rw [decide_eq_false (fun e => by subst e; rw [hy] at hz; injection hz with hz; omega)], rfl⟩ | exact ⟨by rw [decide_eq_true (by rw [List.take_of_length_le (by omega), List.take_of_length_le (by omega)] at hn; exact hn)], rfl⟩)

set_option maxHeartbeats 2000000 in
set_option maxRecDepth 100000 in
theorem clone_ints {h : Heap} {A : Option Addr} {c : Nat} (l : List Int) (hr : Rd h (.slice A l.length c) 1 l.length (ints l)) (hm : l.length * 8 ≤ reachBytes) :
    CallsH Tryz.prog 81 ⟨[.slice A l.length c]⟩ h fun u h' => Own h' u 3 1 l.length (ints l) ∧ Ext No h h' ∧ (∀ k, u.ownBlock = some k → h.size ≤ k) := by
  unfold reachBytes at hm
  cases A with
  | none =>
    have h0 : l = [] := by
      cases l with
      | nil => rfl
      | cons a l => obtain ⟨b, o, e, _⟩ := Rd.at_ hr (by simp); cases e
    subst h0
    refine calls [(0, _)] Tryz.func81 rfl Tryz.ntmps81 rfl ⟨rfl, trivial⟩ ?_
    all_goals (refine WC.sr ?_; refine Go ?_; refine WC.seq ?_; refine WC.sr ?_; refine Go ?_; refine WL.step (ok_eqlSn Tryz.underlying29 rfl rfl) rfl rfl rfl ?_; refine Gn ?_; refine goC 1 2 ?_ TT.mk; refine goB 1 ?_; refine WC.sr ?_; refine Go ?_; refine Gt ?_; exact ⟨Own.nil _ _ _, .refl _ _, by simp [Value.ownBlock]⟩)
  | some a =>
    refine calls [(0, _)] Tryz.func81 rfl Tryz.ntmps81 rfl ⟨rfl, trivial⟩ ?_
    all_goals (refine WC.sr ?_; refine Go ?_; refine WC.seq ?_; refine WC.sr ?_; refine Go ?_; refine WL.step (ok_eqlSn Tryz.underlying29 rfl rfl) rfl rfl rfl ?_; refine Gn ?_; refine goC 1 2 ?_ TT.mk; refine goB 2 ?_; refine WC.skip ?_; refine Gn ?_; refine WC.sr ?_; refine WL.stepR (okE_buildSlice (vs := []) (cs := []) (fun _ => []) Tryz.underlying29 rfl rfl (by kernel_rfl)) rfl rfl rfl ?_; rintro _ h1 ⟨b1, rfl, hg1, hb1, hx1⟩; refine Go ?_; have hr1 := hr.ext0 hx1; refine WL.stepR (ok_append (sz := 1) (bytes := 8) rfl Tryz.underlying29 (show Tryz.prog.info? 3 = some Tryz.t3 by kernel_rfl) rfl rfl rfl rfl (by decide) rfl rfl (own_blk hb1 rfl (by simp [maxLen])) hr1 (by simp [Value.oneCell']) (by simp only [maxLen]; omega) (by omega)) rfl rfl rfl ?_; rintro v2 h2 ⟨ho2, hx2, hl2⟩; refine Go ?_; refine Gs [(2, _)] ?_; refine Gt ?_; exact ⟨by simpa using ho2, hx1.trans' hx2 (fun k hk e => by simp [Value.ownBlock] at e; omega), fresh_of hl2 (fun k hk => by simp [Value.ownBlock] at hk; omega) hx1.size⟩)

end Go.Proofs.YtbokngiajfdanaaGreatDoor


/-
  api.Back, and the document's compare of two of them.
-/
namespace Go.Proofs.YtbokngiajfdanaaGreatDoor
open Go Go.RK

structure ColD where
  nm : List UInt8
  t : Int
  a : Int
  o : Int
  s : Int
  m : Int
  f : Int
deriving DecidableEq
def ColD.sca (c : ColD) : List Sca := [.s c.nm, .i .i64 c.t, .i .i64 c.a, .i .i64 c.o, .i .i64 c.s, .i .i64 c.m, .i .i64 c.f]
def ColD.cells (c : ColD) : List Value := [St c.nm, In c.t, In c.a, In c.o, In c.s, In c.m, In c.f]
theorem ColD.len (c : ColD) : c.cells.length = 7 := rfl
theorem ColD.inj (c d : ColD) : c.sca = d.sca ↔ c = d := by cases c; cases d; simp [ColD.sca]
structure FieldD where
  k : Int
  t : List UInt8
deriving DecidableEq
def FieldD.sca (c : FieldD) : List Sca := [.i .u8 c.k, .s c.t]
def FieldD.cells (c : FieldD) : List Value := [.int .u8 c.k, St c.t]
theorem FieldD.len (c : FieldD) : c.cells.length = 2 := rfl
theorem FieldD.inj (c d : FieldD) : c.sca = d.sca ↔ c = d := by cases c; cases d; simp [FieldD.sca]
structure Bk where
  kind : Int
  status : Int
  tag : List UInt8
  name : List UInt8
  value : List UInt8
  n : Int
  m : Int
  vo : Value
  oids : List Int
  vc : Value
  cols : List ColD
  vr : Value
  row : List Cel
  vf : Value
  fields : List FieldD
def Bk.cells (b : Bk) : List Value := [.int .u8 b.kind, .int .u8 b.status, St b.tag, St b.name, St b.value, In b.n, In b.m, b.vo, b.vc, b.vr, b.vf]
structure Bk.ok (h : Heap) (b : Bk) : Prop where
  oids : Rd h b.vo 1 b.oids.length (ints b.oids) ∧ b.oids.length ≤ maxLen
  cols : Rd h b.vc 7 b.cols.length (b.cols.flatMap ColD.cells) ∧ b.cols.length ≤ maxLen
  row : Cels h b.vr b.row
  fields : Rd h b.vf 2 b.fields.length (b.fields.flatMap FieldD.cells) ∧ b.fields.length ≤ maxLen
theorem Bk.ok.ext0 {h h' : Heap} {b : Bk} (k : b.ok h) (a : Ext No h h') : b.ok h' := ⟨⟨k.1.1.ext0 a, k.1.2⟩, ⟨k.2.1.ext0 a, k.2.2⟩, k.3.ext0 a, ⟨k.4.1.ext0 a, k.4.2⟩⟩
def Bk.pl (b : Bk) := (b.kind, b.status, b.tag, b.name, b.value, b.n, b.m, b.oids, b.cols, b.row.map Cel.pl, b.fields)

set_option maxHeartbeats 2000000 in
set_option maxRecDepth 100000 in
theorem ints_ref {h : Heap} {v u : Value} (l m : List Int) (hr : Rd h v 1 l.length (ints l)) (hs : Rd h u 1 m.length (ints m)) (hl : l.length ≤ maxLen) (hm : m.length ≤ maxLen) :
    CallsH Tryz.prog 199 ⟨[v, u]⟩ h fun u h' => u = .bool (decide (l = m)) ∧ h' = h := by
  unfold maxLen at hl hm
  obtain ⟨A, c, rfl, _⟩ := id hr
  obtain ⟨B, d, rfl, _⟩ := id hs
  refine calls [(0, _), (1, _)] Tryz.func199 rfl Tryz.ntmps199 rfl ⟨rfl, rfl, trivial⟩ ?_
  all_goals (refine WC.sr ?_; refine Go ?_; refine WC.seq ?_; refine WC.sr ?_; refine Go ?_; refine Gs [(0, _), (1, _), (10, _)] ?_; refine goC 1 2 (Hb.mk fun hb => ?_) (Hb.mk fun hb => ?_))
  all_goals (first | (fail_if_success refine goB 1 ?_) | (
  refine goB 1 ?_
  all_goals (refine WC.sr ?_; refine Go ?_; refine Gt ?_; first | exact ⟨by rw [decide_eq_false (fun e => by subst e; omega)], rfl⟩ | exact ⟨by rw [decide_eq_false (fun e => by subst e; rw [hy] at hz; injection hz with hz; omega)], rfl⟩ | exact ⟨by rw [decide_eq_true (by rw [List.take_of_length_le (by omega), List.take_of_length_le (by omega)] at hn; exact hn)], rfl⟩)
  skip))
  all_goals (refine goB 2 ?_; refine WC.skip ?_; refine Gn ?_; refine WC.seq ?_; refine WC.sr ?_; refine Go ?_; refine WC.block ?_)
  -- loop 0: slots that turn [5], that stay [0, 1]
  all_goals (refine WC.loopG (X := Nat) (fun x => ([(5, In (x : Int))] : Fr)) [(0, _), (1, _)] (fun k h' => h' = h ∧ k ≤ l.length ∧ l.take k = m.take k) (fun k => l.length - k) (0) ⟨rfl, rfl, rfl, trivial⟩ (by exact ⟨rfl, Nat.zero_le _, by simp⟩) ?_; rintro k _ ⟨rfl, hk, hn⟩; refine WC.sub [(5, _), (0, _), (1, _)] ⟨rfl, rfl, rfl, trivial⟩ ?_; refine WC.seq ?_; refine WC.sr ?_; refine Go ?_; refine goC 3 4 (Hb.mk fun hb => ?_) (Hb.mk fun hb => ?_))
  all_goals (first | (fail_if_success refine goB 3 ?_) | (
  refine goB 3 ?_
  all_goals (refine WC.skip ?_)
  skip))
  all_goals (first | (fail_if_success refine goB 4 ?_) | (
  refine goB 4 ?_
  all_goals (refine WC.exit ?_; repeat' (with_reducible first | refine thenP_x ?_ | refine blockP_miss rfl ?_ | refine blockP_hit ?_ | refine blockP_n ?_ | refine thenP_n ?_))
  all_goals (refine Br.out (i := 1000) ?_)
  skip))
  all_goals (refine Gn ?_; first | (refine Br.keep ?_) | (refine Gs [(0, _), (1, _), (5, _)] ?_))
  all_goals (first | (refine Br.keep ?_) | (refine WC.seq ?_))
  all_goals (first | (refine Br.keep ?_) | (refine WC.block ?_))
  all_goals (first | (refine Br.keep ?_) | (refine WC.seq ?_))
  all_goals (first
               | (refine Br.keep ?_)
               | (obtain ⟨b, o, hA, hbL, hat⟩ := Rd.at_ hr (by omega)
                  obtain ⟨b2, o2, hB, hb2, hat2⟩ := Rd.at_ hs (by omega)
                  obtain ⟨y, hy⟩ : ∃ y, l[k]? = some y := ⟨_, List.getElem?_eq_getElem (by omega)⟩
                  obtain ⟨z, hz⟩ : ∃ z, m[k]? = some z := ⟨_, List.getElem?_eq_getElem (by omega)⟩
                  have hc := hat.get (p := o + k * 1) k (get_int hy) (by omega)
                  have hc2 := hat2.get (p := o2 + k * 1) k (get_int hz) (by omega)))
  all_goals (first | (refine Br.keep ?_) | (refine WC.drawE fol (by kernel_rfl) ?_))
  all_goals (first | (refine Br.keep ?_) | (refine WQ.stepE (ok_move rfl) rfl rfl rfl ?_))
  all_goals (first | (refine Br.keep ?_) | (refine WQ.stepE (ok_move rfl) rfl rfl rfl ?_))
  all_goals (first | (refine Br.keep ?_) | (refine WQ.stepE (ok_idxAddrA Tryz.underlying29 (fun w => Tryz.sizeOf3 w) rfl rfl rfl (by omega) (by first | rfl | assumption)) rfl rfl rfl ?_))
  all_goals (first | (refine Br.keep ?_) | (refine WQ.stepE (ok_load (fun w => Tryz.isAgg3 w) rfl (by first | assumption | exact cell_blk (by assumption) rfl)) rfl rfl rfl ?_))
  all_goals (first | (refine Br.keep ?_) | (refine WQ.stepE (ok_move rfl) rfl rfl rfl ?_))
  all_goals (first | (refine Br.keep ?_) | (refine WQ.stepE (ok_move rfl) rfl rfl rfl ?_))
  all_goals (first | (refine Br.keep ?_) | (refine WQ.stepE (ok_idxAddrA Tryz.underlying29 (fun w => Tryz.sizeOf3 w) rfl rfl rfl (by omega) (by first | rfl | assumption)) rfl rfl rfl ?_))
  all_goals (first | (refine Br.keep ?_) | (refine WQ.stepE (ok_load (fun w => Tryz.isAgg3 w) rfl (by first | assumption | exact cell_blk (by assumption) rfl)) rfl rfl rfl ?_))
  all_goals (first | (refine Br.keep ?_) | (refine WQ.stepE (ok_neq rfl rfl) rfl rfl rfl ?_))
  all_goals (first | (refine Br.keep ?_) | (refine WQ.nil ?_))
  all_goals (refine Gn ?_; first | (refine Br.keep ?_) | (refine Gs [(0, _), (1, _), (5, _), (25, _)] ?_))
  all_goals (first | (refine Br.keep ?_) | (refine goC 5 6 (Hb.mk fun hb => ?_) (Hb.mk fun hb => ?_)))
  all_goals (first | (fail_if_success refine goB 5 ?_) | (
  refine goB 5 ?_
  all_goals (refine WC.sr ?_; refine Go ?_; refine Gs [(4, _)] ?_; refine Gt ?_; first | exact ⟨by rw [decide_eq_false (fun e => by subst e; omega)], rfl⟩ | exact ⟨by rw [decide_eq_false (fun e => by subst e; rw [hy] at hz; injection hz with hz; omega)], rfl⟩ | exact ⟨by rw [decide_eq_true (by rw [List.take_of_length_le (by omega), List.take_of_length_le (by omega)] at hn; exact hn)], rfl⟩)
  skip))
  all_goals (first | (fail_if_success refine goB 6 ?_) | (
  refine goB 6 ?_
  all_goals (refine WC.skip ?_)
  skip))
  all_goals (refine Gn ?_; first | (refine Br.keep ?_) | (refine WC.region ?_))
  all_goals (refine Go ?_; first | (refine Br.keep ?_) | (exact ⟨k + 1, ⟨rfl, rfl, rfl, trivial⟩, (by exact ⟨rfl, by omega, by rw [List.take_add_one, List.take_add_one, hn, hy, hz, show y = z by omega]⟩), (by omega)⟩))
  all_goals (try (refine Br.mk (i := 1000) ?_))
  all_goals (refine Gn ?_; refine Gs [] ?_; refine WC.sr ?_; refine Go ?_; refine Gt ?_; first | exact ⟨by rw [decide_eq_false (fun e => by subst e; omega)], rfl⟩ | exact ⟨by rw [decide_eq_false (fun e => by subst e; rw [hy] at hz; injection hz with hz; omega)], rfl⟩ | exact ⟨by rw [decide_eq_true (by rw [List.take_of_length_le (by omega), List.take_of_length_le (by omega)] at hn; exact hn)], rfl⟩)

end Go.Proofs.YtbokngiajfdanaaGreatDoor


/-
  MESSAGES (layer 6), alone: Front.w without the entries, and what RwF tells of them.
-/
namespace Go.Proofs.YtbokngiajfdanaaGreatDoor
open Go Go.RK

structure Fm where
  kind : Int
  what : Int
  name : List UInt8
  portal : List UInt8
  text : List UInt8
  vo : Value
  oids : List Int
  vf : Value
  formats : List Int
  vs : Value
  results : List Int
  vp : Value
  params : List Cel
  max : Int
def Fm.cells (b : Fm) : List Value := [.int .u8 b.kind, .int .u8 b.what, St b.name, St b.portal, St b.text, b.vo, b.vf, b.vs, b.vp, In b.max]
theorem Fm.len (b : Fm) : b.cells.length = 10 := rfl
structure Fm.ok (h : Heap) (b : Fm) : Prop where
  oids : Rd h b.vo 1 b.oids.length (ints b.oids) ∧ b.oids.length ≤ maxLen
  formats : Rd h b.vf 1 b.formats.length (ints b.formats) ∧ b.formats.length ≤ maxLen
  results : Rd h b.vs 1 b.results.length (ints b.results) ∧ b.results.length ≤ maxLen
  params : Cels h b.vp b.params
theorem Fm.ok.ext0 {h h' : Heap} {b : Fm} (k : b.ok h) (a : Ext No h h') : b.ok h' := ⟨⟨k.1.1.ext0 a, k.1.2⟩, ⟨k.2.1.ext0 a, k.2.2⟩, ⟨k.3.1.ext0 a, k.3.2⟩, k.4.ext0 a⟩
theorem Fm.ok.one {h : Heap} {e : Fm} (k : e.ok h) : ∀ v ∈ e.cells, v.oneCell' = true := by
  obtain ⟨A1, c1, e1, _⟩ := k.1.1
  obtain ⟨A2, c2, e2, _⟩ := k.2.1
  obtain ⟨A3, c3, e3, _⟩ := k.3.1
  obtain ⟨_, ⟨_, A4, c4, e4, _⟩, _⟩ := k.4
  simp [Fm.cells, Value.oneCell', e1, e2, e3, e4]
def Fm.pl (b : Fm) := (b.kind, b.what, b.name, b.portal, b.text, b.oids, b.formats, b.results, b.params.map Cel.pl, b.max)
def Fms (h : Heap) (v : Value) (L : List Fm) : Prop := Rd h v 10 L.length (L.flatMap Fm.cells) ∧ L.length ≤ maxLen ∧ ∀ e ∈ L, e.ok h
theorem Fms.ext0 {h h' : Heap} {v : Value} {L : List Fm} (k : Fms h v L) (a : Ext No h h') : Fms h' v L := ⟨k.1.ext0 a, k.2.1, fun r hr => (k.2.2 r hr).ext0 a⟩

theorem wf_u8f {n : Int} (h : (Lit.int .u8 n).wf = true) : 0 ≤ n ∧ n ≤ 255 := by simpa [Lit.wf, IntKind.min, IntKind.max, IntKind.signed, IntKind.bits] using h
theorem wf_i64f {n : Int} (h : (Lit.int .i64 n).wf = true) : -9223372036854775808 ≤ n ∧ n ≤ 9223372036854775807 := by simpa [Lit.wf, IntKind.min, IntKind.max, IntKind.signed, IntKind.bits] using h
theorem opens_fm (w : World) : Opens Tryz.prog w 32 Fm.cells (fun b => b.ok w.heap ∧ (0 ≤ b.kind ∧ b.kind ≤ 255) ∧ -9223372036854775808 ≤ b.max ∧ b.max ≤ 9223372036854775807) := by
  have hi : ∀ {v : Value} {l : List Int}, Rd w.heap v 1 l.length (l.flatMap fun n : Int => [In n]) → Rd w.heap v 1 l.length (ints l) := fun h => by rwa [flat_one] at h
  have h10 := opensF_cons (P := Tryz.prog) (w := w) (o := 9) (f := ⟨ "Max", 3, 9, false, "", "", 152⟩) rfl (opens_int Tryz.underlying3) (by kernel_rfl) (fun _ => rfl) opensF_nil
  have h9 := opensF_cons (P := Tryz.prog) (w := w) (o := 8) (f := ⟨ "Params", 30, 8, false, "", "", 128⟩) rfl (opens_cells w) (by kernel_rfl) (fun _ => rfl) h10
  have h8 := opensF_cons (P := Tryz.prog) (w := w) (o := 7) (f := ⟨ "Results", 29, 7, false, "", "", 104⟩) rfl (opens_slice (sz := 1) (F := fun n : Int => [In n]) Tryz.underlying29 (by kernel_rfl) (by decide) (fun _ => rfl) (opens_int Tryz.underlying3)) (by kernel_rfl) (fun _ => rfl) h9
  have h7 := opensF_cons (P := Tryz.prog) (w := w) (o := 6) (f := ⟨ "Formats", 29, 6, false, "", "", 80⟩) rfl (opens_slice (sz := 1) (F := fun n : Int => [In n]) Tryz.underlying29 (by kernel_rfl) (by decide) (fun _ => rfl) (opens_int Tryz.underlying3)) (by kernel_rfl) (fun _ => rfl) h8
  have h6 := opensF_cons (P := Tryz.prog) (w := w) (o := 5) (f := ⟨ "OIDs", 29, 5, false, "", "", 56⟩) rfl (opens_slice (sz := 1) (F := fun n : Int => [In n]) Tryz.underlying29 (by kernel_rfl) (by decide) (fun _ => rfl) (opens_int Tryz.underlying3)) (by kernel_rfl) (fun _ => rfl) h7
  have h5 := opensF_cons (P := Tryz.prog) (w := w) (o := 4) (f := ⟨ "Text", 9, 4, false, "", "", 40⟩) rfl (opens_string Tryz.underlying9) (by kernel_rfl) (fun _ => rfl) h6
  have h4 := opensF_cons (P := Tryz.prog) (w := w) (o := 3) (f := ⟨ "Portal", 9, 3, false, "", "", 24⟩) rfl (opens_string Tryz.underlying9) (by kernel_rfl) (fun _ => rfl) h5
  have h3 := opensF_cons (P := Tryz.prog) (w := w) (o := 2) (f := ⟨ "Name", 9, 2, false, "", "", 8⟩) rfl (opens_string Tryz.underlying9) (by kernel_rfl) (fun _ => rfl) h4
  have h2 := opensF_cons (P := Tryz.prog) (w := w) (o := 1) (f := ⟨ "What", 5, 1, false, "", "", 1⟩) rfl (opens_int Tryz.underlying5) (by kernel_rfl) (fun _ => rfl) h3
  have h1 := opensF_cons (P := Tryz.prog) (w := w) (o := 0) (f := ⟨ "Kind", 5, 0, false, "", "", 0⟩) rfl (opens_int Tryz.underlying5) (by kernel_rfl) (fun _ => rfl) h2
  have h0 := opens_struct Tryz.underlying32 (by kernel_rfl) h1
  refine h0.map (fun p => (⟨p.1, p.2.1, p.2.2.1, p.2.2.2.1, p.2.2.2.2.1, p.2.2.2.2.2.1.1, p.2.2.2.2.2.1.2, p.2.2.2.2.2.2.1.1, p.2.2.2.2.2.2.1.2, p.2.2.2.2.2.2.2.1.1, p.2.2.2.2.2.2.2.1.2, p.2.2.2.2.2.2.2.2.1.1, p.2.2.2.2.2.2.2.2.1.2, p.2.2.2.2.2.2.2.2.2.1⟩ : Fm)) (fun _ => rfl) (fun p q => ?_)
  obtain ⟨q1, q2, q3, q4, q5, q6, q7, q8, q9, q10, _⟩ := q
  exact ⟨⟨⟨hi q6.1, q6.2.1⟩, ⟨hi q7.1, q7.2.1⟩, ⟨hi q8.1, q8.2.1⟩, q9⟩, wf_u8f q1, wf_i64f q10⟩
end Go.Proofs.YtbokngiajfdanaaGreatDoor


