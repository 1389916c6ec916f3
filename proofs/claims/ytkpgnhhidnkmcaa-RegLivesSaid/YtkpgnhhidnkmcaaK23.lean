/-
  RANGES OVER FUNCTIONS: the call of yield, the iterator's contract, the statement, and the function that holds it. No program is named here.
-/
import Derived.Test.YtkpgnhhidnkmcaaK12
import Derived.RangeFuncRecord
import Derived.RangeFuncLeaves
namespace Go.RK
open Go

/-! ### the iterator's side: a call of yield -/
def YieldH (P : Program) (l : Nat) (args : List Value) (h : Heap) (R : Value → Heap → Prop) : Prop :=
  ∀ w : World, w.heap = h → ∃ fn tmps assign body, (Instr.yield l ⟨args⟩).run P w = .ok (.round l fn tmps assign body) w ∧
    RoundIn (wd Option.none) 0 P l fn tmps assign body w fun e w' => Same w w' ∧ ∃ v, e = .returned v ∧ R v w'.heap
theorem YieldH.mono {P : Program} {l : Nat} {args : List Value} {h : Heap} {R R' : Value → Heap → Prop} (hy : YieldH P l args h R) (hr : ∀ v h', R v h' → R' v h') : YieldH P l args h R' := fun w hw => by
  obtain ⟨fn, tmps, assign, body, h1, h2⟩ := hy w hw
  exact ⟨fn, tmps, assign, body, h1, h2.mono fun e w' ⟨hs, v, he, hv⟩ => ⟨hs, v, he, hr _ _ hv⟩⟩
/-- What is left of a plain region in which yield is called. -/
def WY (P : Program) (n : Env) (l0 l : List Oper) (Q : Post) (f : Fr) (h : Heap) : Prop := ∀ a w, Rep n a f → w.heap = h → wpListIn (wd n.ro) 0 P l0.toArray (toAct n Q w) l a w
section
variable {P : Program} {n : Env} {Q : Post} {f : Fr} {h : Heap} {l0 rest : List Oper}
theorem WC.regionY {id : Nat} {l : List Oper} (hl : WY P n l l Q f h) : WC P n (.region id l.toArray false) Q f h :=
  fun a w ha hw => wpIn_region_lit (hl a w ha hw)
theorem WY.nil {l0 : List Oper} (hq : Q .normal f h) : WY P n l0 [] Q f h := fun _ w ha hw => wpListIn_nil ⟨rfl, .refl w, f, ha, hw ▸ hq⟩
theorem uponIn_imp {F : Fence} {o : Oper} {a : Act} {K K' : Act → World → Prop} {Q Q' : Exit → Act → World → Prop} (hK : ∀ a w, K a w → K' a w) (hQ : ∀ e a w, Q e a w → Q' e a w) {r : Result Next} (h : o.uponIn F 0 P a K Q r) : o.uponIn F 0 P a K' Q' r := by
  cases r with
  | ok x w2 =>
    cases x <;> simp only [Oper.uponIn] at h ⊢ <;> first | exact hK _ _ h | exact h | skip
    · refine ⟨h.1, h.2.mono fun e w3 he => ?_⟩
      cases e with
      | returned v => exact hK _ _ he
      | panicked c => exact hQ _ _ _ he
      | outgrown => obtain ⟨a0, w0, q⟩ := he; exact ⟨a0, w0, hQ _ _ _ q⟩
    · refine ⟨h.1, h.2.mono fun e w3 he => ?_⟩
      cases e with
      | returned v => exact hK _ _ he
      | panicked c => exact hQ _ _ _ he
      | outgrown => obtain ⟨a0, w0, q⟩ := he; exact ⟨a0, w0, hQ _ _ _ q⟩
    · exact ⟨h.1, h.2.mono fun v w3 he => hK _ _ he⟩
  | halt x w2 => cases x <;> simp only [Oper.uponIn] at h ⊢ <;> first | exact hQ _ _ _ h | exact h
theorem listIn_imp {F : Fence} {ops : Array Oper} {Q Q' : Exit → Act → World → Prop} (hQ : ∀ e a w, Q e a w → Q' e a w) : ∀ (l : List Oper) (a : Act) (w : World), wpListIn F 0 P ops Q l a w → wpListIn F 0 P ops Q' l a w
  | [], a, w, h => hQ _ _ _ h
  | o :: l, a, w, h => by
    unfold wpListIn at h ⊢
    split
    · rename_i hw
      rw [if_pos hw] at h
      exact ⟨h.1, uponIn_imp (fun a w k => listIn_imp hQ l a w k) hQ h.2⟩
    · rename_i hw
      rw [if_neg hw] at h
      exact ⟨h.1, listIn_imp hQ l _ _ h.2⟩
theorem WY.run {o : Oper} {R : Value → Heap → Prop} (hok : OkR P f o h R) (hg : goes f l0 o = true)
    (hk : ∀ v h' a w, R v h' → Rep n a f → w.heap = h' → wpListIn (wd n.ro) 0 P l0.toArray (toAct n Q w) rest (a.put o.dst v) w) (hro : n.ro = Option.none := by rfl) : WY P n l0 (o :: rest) Q f h := by
  intro a w ha hw
  unfold wpListIn
  rw [if_pos (goes_wanted ha hg)]
  refine ⟨fun _ _ => trivial, ?_⟩
  show o.uponIn (wd n.ro) 0 P a _ _ ((o.semAt n.ro a.eval).run P w)
  rw [semAt_of (.inl hro)]
  obtain ⟨v, w', hs, hR, hrun⟩ := hok a.eval w ha.agrees hw
  have hk' := listIn_imp (fun _ _ _ q => toAct.trans hs q) _ _ _ (hk v w'.heap a w' hR ha rfl)
  rcases hrun with hrun | ⟨hrun, rfl⟩ <;> rw [hrun] <;> exact hk'
theorem WY.step {o : Oper} {v : Value} {t : Nat} (hok : OkP P f o h v) (hg : goes f l0 o = true) (hd : o.dst = some t) (ht : Nat.blt t n.n = true) (hk : WY P n l0 rest Q ((t, v) :: f) h) (hro : n.ro = Option.none := by rfl) : WY P n l0 (o :: rest) Q f h :=
  .run hok.r hg (by rintro v h' a w ⟨rfl, rfl⟩ ha hw; rw [hd]; exact hk _ w (ha.put ht _) hw) hro
theorem WY.stepR {o : Oper} {R : Value → Heap → Prop} {t : Nat} (hok : OkR P f o h R) (hg : goes f l0 o = true) (hd : o.dst = some t) (ht : Nat.blt t n.n = true) (hk : ∀ v h', R v h' → WY P n l0 rest Q ((t, v) :: f) h') (hro : n.ro = Option.none := by rfl) : WY P n l0 (o :: rest) Q f h :=
  .run hok hg (by rintro v h' a w hR ha hw; rw [hd]; exact hk v h' hR _ w (ha.put ht _) hw) hro
theorem WY.stepR0 {o : Oper} {R : Value → Heap → Prop} (hok : OkR P f o h R) (hg : goes f l0 o = true) (hd : o.dst = Option.none) (hk : ∀ v h', R v h' → WY P n l0 rest Q f h') (hro : n.ro = Option.none := by rfl) : WY P n l0 (o :: rest) Q f h :=
  .run hok hg (by rintro v h' a w hR ha hw; rw [hd]; exact hk v h' hR _ w ha hw) hro
theorem WY.pass {o : Oper} {t : Nat} (hg : stops f l0 o = true) (hd : o.dst = some t) (ht : Nat.blt t n.n = true) (hk : WY P n l0 rest Q ((t, undef) :: f) h) : WY P n l0 (o :: rest) Q f h := by
  intro a w ha hw
  unfold wpListIn
  rw [if_neg (by rw [stops_wanted ha hg]; exact Bool.false_ne_true), hd]
  exact ⟨fun _ _ => trivial, hk _ w (ha.put ht _) hw⟩
theorem WY.pass0 {o : Oper} (hg : stops f l0 o = true) (hd : o.dst = Option.none) (hk : WY P n l0 rest Q f h) : WY P n l0 (o :: rest) Q f h := by
  intro a w ha hw
  unfold wpListIn
  rw [if_neg (by rw [stops_wanted ha hg]; exact Bool.false_ne_true), hd]
  exact ⟨fun _ _ => trivial, hk _ w ha hw⟩
theorem WY.part {l : List Oper} (t : Nat) {b : Bool} (hb : f.get t = some (.bool b)) (h1 : b = true → WY P n l0 l Q ((t, .bool true) :: f) h) (h2 : b = false → WY P n l0 l Q ((t, .bool false) :: f) h) : WY P n l0 l Q f h := by
  cases b
  · exact fun a w ha hw => h2 rfl a w (ha.sub_set hb) hw
  · exact fun a w ha hw => h1 rfl a w (ha.sub_set hb) hw
theorem evals {xs : List Operand} {vs : List Value} {a : Act} (ha : Rep n a f) (hx : xs.map f.ev = vs.map some) : Array.map a.eval ⟨xs⟩ = ⟨vs⟩ := by
  have : xs.map a.eval = vs := by
    induction xs generalizing vs with
    | nil => cases vs <;> simp_all
    | cons x xs ih =>
      cases vs with
      | nil => simp at hx
      | cons v vs =>
        simp only [List.map_cons, List.cons.injEq] at hx ⊢
        exact ⟨ha.agrees _ _ hx.1, ih hx.2⟩
  rw [← this]; simp
theorem WY.call {o : Oper} {t : Nat} {k : FuncId} {xs : List Operand} {vs : List Value} {ts : Array TypeId} {R : Value → Heap → Prop} (ho : o.op = .call { callee := .value (.func k), args := ⟨xs⟩, argTypes := ts })
    (hc : ∀ (args : Array Value) (w : World), (callFunc k args).run P w = .ok (.enter k args) w)
    (hx : xs.map f.ev = vs.map some) (hR : CallsH P k ⟨vs⟩ h R) (hg : goes f l0 o = true) (hd : o.dst = some t) (ht : Nat.blt t n.n = true) (hk : ∀ v h', R v h' → WY P n l0 rest Q ((t, v) :: f) h') (hro : n.ro = Option.none := by rfl) : WY P n l0 (o :: rest) Q f h := by
  intro a w ha hw
  unfold wpListIn
  rw [if_pos (goes_wanted ha hg)]
  refine ⟨fun _ _ => trivial, ?_⟩
  show o.uponIn (wd n.ro) 0 P a _ _ ((o.semAt n.ro a.eval).run P w)
  rw [semAt_of (.inl hro)]
  have hrun : (execOp a.eval o).run P w = .ok (.enter k ⟨vs⟩) w := by
    simp [execOp, ho, resolve, Deferred.ofValue, invoke, Act.eval, evals ha hx, hc]
  rw [hrun]
  refine ⟨fun e => (by cases e), (calls_wide (hR w hw)).mono fun e w' ⟨hs, v, he, hv⟩ => ?_⟩
  subst he
  rw [hd]
  exact listIn_imp (fun _ _ _ q => toAct.trans hs q) _ _ _ (hk v _ hv _ w' (ha.put ht _) rfl)
/-- A call of yield. -/
theorem WY.yield {o : Oper} {t s l : Nat} {xs : List Operand} {vs : List Value} {ts : Array TypeId} {R : Value → Heap → Prop} (ho : o.op = .call { callee := .value (.tmp s), args := ⟨xs⟩, argTypes := ts })
    (hf : f.get s = some (.func (.yield l) #[] #[]))
    (hx : xs.map f.ev = vs.map some) (hR : YieldH P l vs h R) (hg : goes f l0 o = true) (hd : o.dst = some t) (ht : Nat.blt t n.n = true) (hk : ∀ v h', R v h' → WY P n l0 rest Q ((t, v) :: f) h') (hro : n.ro = Option.none := by rfl) : WY P n l0 (o :: rest) Q f h := by
  intro a w ha hw
  unfold wpListIn
  rw [if_pos (goes_wanted ha hg)]
  refine ⟨fun _ _ => trivial, ?_⟩
  show o.uponIn (wd n.ro) 0 P a _ _ ((o.semAt n.ro a.eval).run P w)
  rw [semAt_of (.inl hro)]
  have hf' : a.eval (.tmp s) = .func (.yield l) #[] #[] := ha.agrees (.tmp s) _ hf
  obtain ⟨fn, tmps, assign, body, hy, hround⟩ := hR w hw
  have hrun : (execOp a.eval o).run P w = .ok (.round l fn tmps assign body) w := by
    simp [execOp, ho, resolve, hf', Deferred.ofValue, evals ha hx, invoke, hy]
  rw [hrun]
  refine ⟨fun e => (by cases e), ?_⟩
  rw [hro]
  refine hround.mono fun e w' ⟨hs, v, he, hv⟩ => ?_
  subst he
  rw [hd]
  have := listIn_imp (fun _ _ _ q => toAct.trans hs q) _ _ _ (hk v _ hv _ w' (ha.put ht _) rfl)
  rw [hro] at this
  exact this
end

/-- THE CONTRACT OF AN ITERATOR: function k at the captured values lb hands on the elements of L, one behind the other, as long as it is told to go on. The loop's body keeps J (of how many have come, and a state x of its own); it turns what it owns, and nothing of what the iterator reads (rd). -/
def SeqH (P : Program) (k : FuncId) (lb : List Value) {α : Type} (enc : α → List Value) (L : List α) (rd : Nat → Prop) (h : Heap) : Prop :=
  ∀ (X : Type) (J : Nat → X → Heap → Prop) (Jx : X → Heap → Prop) (own : X → Nat → Prop) (l : Nat) (x0 : X), J 0 x0 h → l < h.size → ¬ rd l →
    (∀ k x h', J k x h' → ∀ b, own x b → b < h'.size ∧ ¬ rd b) →
    (∀ k x h1 h2 (S : Nat → Prop), J k x h1 → Ext S h1 h2 → (∀ b, S b → b < h1.size → h.size ≤ b ∧ ¬ own x b) → J k x h2) →
    (∀ k x h1 a, J k x h1 → L[k]? = some a → YieldH P l (enc a) h1 fun v h2 => ∃ x', Ext (fun b => own x b ∨ b = l) h1 h2 ∧ (∀ b, own x' b → own x b ∨ h1.size ≤ b) ∧ ((v = .bool true ∧ J (k + 1) x' h2) ∨ (v = .bool false ∧ Jx x' h2))) →
    CallsH P k ⟨.func (.yield l) #[] #[] :: lb⟩ h fun _ h' => ∃ x, J L.length x h' ∨ Jx x h'

/-! ### the function that holds such a loop -/
def dmark (D : Nat) : Deferred := { target := .collected D, args := #[] }
def open_ (h : Heap) (D : Nat) : Prop := h[D]? = some (.deferred (some []))
def toD (m : Nat) (Q : List Nat → Post) (w0 : World) : Exit → Act → World → Prop := fun e a w => calm e = true ∧ Same w0 w ∧ ∃ Ds f, Rep ⟨m, Ds.map dmark, Option.none⟩ a f ∧ Q Ds e f w.heap
def WD (P : Program) (m : Nat) (Ds : List Nat) (c : Code) (Q : List Nat → Post) (f : Fr) (h : Heap) : Prop := ∀ a w, Rep ⟨m, Ds.map dmark, Option.none⟩ a f → w.heap = h → c.wpIn (wd Option.none) 0 P (toD m Q w) a w
@[reducible] def thenD (K : List Nat → Fr → Heap → Prop) (Q : List Nat → Post) : List Nat → Post := fun Ds => thenP (K Ds) (Q Ds)
@[reducible] def blockD (id : Nat) (Q : List Nat → Post) : List Nat → Post := fun Ds => blockP id (Q Ds)
theorem toD.trans {m : Nat} {Q : List Nat → Post} {w0 w1 : World} (hs : Same w0 w1) {e : Exit} {a : Act} {w : World} (h : toD m Q w1 e a w) : toD m Q w0 e a w := ⟨h.1, hs.trans h.2.1, h.2.2⟩
section
variable {P : Program} {m : Nat} {Ds : List Nat} {Q : List Nat → Post} {f : Fr} {h : Heap}
theorem WD.of {c : Code} (hc : WC P ⟨m, Ds.map dmark, Option.none⟩ c (Q Ds) f h) : WD P m Ds c Q f h := fun a w ha hw =>
  wpIn_mono (hc a w ha hw) fun _ _ _ ⟨hl, hs, g, hg, q⟩ => ⟨hl, hs, Ds, g, hg, q⟩
theorem WD.sub {c : Code} (g : Fr) (hs : SubL g f) (hc : WD P m Ds c Q g h) : WD P m Ds c Q f h := fun a w ha hw => hc a w (ha.sub hs) hw
theorem WD.seq {x y : Code} (hx : WD P m Ds x (thenD (fun Ds' => WD P m Ds' y Q) Q) f h) : WD P m Ds (.seq x y) Q f h := by
  intro a w ha hw
  refine wpIn_seq (wpIn_mono (hx a w ha hw) ?_)
  rintro e a' w' ⟨hl, hs, Ds', g, hg, q⟩
  cases e
  case normal => exact wpIn_mono (q a' w' hg rfl) fun _ _ _ hq => hq.trans hs
  all_goals exact ⟨hl, hs, Ds', g, hg, q⟩
theorem WD.block {id : Nat} {c : Code} (hc : WD P m Ds c (blockD id Q) f h) : WD P m Ds (.block id c) Q f h := by
  intro a w ha hw
  refine wpIn_block (wpIn_mono (hc a w ha hw) ?_)
  rintro e a' w' ⟨hl, hs, Ds', g, hg, q⟩
  cases e with
  | exit i =>
    simp only [Exit.inBlock, blockP] at q ⊢
    by_cases hi : i = id
    · rw [if_pos hi] at q ⊢; exact ⟨rfl, hs, Ds', g, hg, q⟩
    · rw [if_neg hi] at q ⊢; exact ⟨rfl, hs, Ds', g, hg, q⟩
  | normal => exact ⟨hl, hs, Ds', g, hg, q⟩
  | goto l => exact ⟨hl, hs, Ds', g, hg, q⟩
  | ret => exact ⟨hl, hs, Ds', g, hg, q⟩
  | panic ch => cases hl
  | outgrown => cases hl
/-- A range over a function that no walk has to leave. -/
def zipF : List Nat → List Value → Fr → Fr
  | p :: ps, v :: vs, f => zipF ps vs ((p, v) :: f)
  | _, _, f => f
def noP : Post := fun _ _ _ => False
/-- What a round leaves, by the way in which it is left. -/
def rndP {X : Type} (J : X → Heap → Prop) (Jx : Exit → X → Heap → Prop) (own : X → Nat → Prop) (x : X) (h : Heap) : Post := fun e _ h' =>
  ∃ x', Ext (own x) h h' ∧ (∀ b, own x' b → own x b ∨ h.size ≤ b) ∧ (match e with
    | .normal => J x' h'
    | .ret => Jx .ret x' h'
    | .exit i => Jx (.exit i) x' h'
    | _ => False)
theorem blt_of {d n : Nat} (hd : d < n) : Nat.blt d n = true := by
  have h1 : d + 1 ≤ n := hd
  simpa [Nat.blt, Nat.ble_eq] using h1
theorem zip_rep {n : Env} : ∀ (ps : List Nat) (vs : List Value) (a : Act) (f : Fr), Rep n a f → (∀ p ∈ ps, p < n.n) →
    Rep n { a with tmps := (ps.zip vs).foldl (fun tmps (t, v) => tmps.setIfInBounds t v) a.tmps } (zipF ps vs f)
  | [], _, a, f, ha, _ => by simpa [zipF] using ha
  | p :: ps, [], a, f, ha, _ => by simpa [zipF] using ha
  | p :: ps, v :: vs, a, f, ha, hp => by
    have h1 : Rep n (a.put (some p) v) ((p, v) :: f) := ha.put (blt_of (hp p (by simp))) v
    exact zip_rep ps vs _ _ h1 fun q hq => hp q (by simp [hq])
def jumpOf : Exit → Code
  | .ret => .ret
  | .exit i => .exit i
  | _ => .skip
theorem wpIn_noGo {c : Code} {F : Fence} {Q Q' : Exit → Act → World → Prop} {a : Act} {w : World} (h : c.wpIn F 0 P Q a w) (hq : ∀ e a w, Q e a w → Q' e a w) : c.wpIn F 0 P Q' a w := wpIn_mono h hq
/-- The heap at a loop's start: the block for what is deferred, and the loop's record. -/
def loop0 (h : Heap) (fn : FuncId) (tmps : Array Value) (ps : Array Tmp) (assign body : Code) : Heap :=
  (h.push (.deferred (some []))).push (.loop { state := .ready, pending := Option.none, fn, tmps, params := ps, assign, body, defers := h.size })
theorem WD.range {g : Operand} {ps : List Tmp} {assign body : Code} {k : FuncId} {lb : List Value} {α : Type} {enc : α → List Value} {L : List α}
    (hg : f.ev g = some (.func (.func k) #[] ⟨lb⟩)) (hcf : ∀ (args : Array Value) (w : World), (callFunc k args).run P w = .ok (.enter k args) w)
    {rd : Nat → Prop} (hseq : ∀ h', Ext No h h' → SeqH P k lb enc L rd h') (hrd : ∀ b, rd b → b < h.size) (hlen : ∀ a, (enc a).length = ps.length) (hps : ps.all (fun p => Nat.blt p m) = true)
    {X : Type} (J : Nat → X → Heap → Prop) (Jx : Exit → X → Heap → Prop) (own : X → Nat → Prop) (x0 : X) (h0 : ∀ h', Ext No h h' → J 0 x0 h')
    (hown : ∀ k x h', J k x h' → ∀ b, own x b → b < h'.size ∧ ¬ rd b) (hown0 : ∀ b, own x0 b → b < h.size)
    (hst : ∀ k x h1 h2 (S : Nat → Prop), J k x h1 → Ext S h1 h2 → (∀ b, S b → b < h1.size → h.size ≤ b ∧ ¬ own x b) → J k x h2)
    (hstx : ∀ e x h1 h2 (S : Nat → Prop), Jx e x h1 → Ext S h1 h2 → (∀ b, S b → b < h1.size → h.size ≤ b ∧ ¬ own x b) → Jx e x h2)
    (hbody : ∀ l k x h1 a, L[k]? = some a → J k x h1 → WC P ⟨m, [], some l⟩ assign (thenP (fun f' h' => h' = h1 ∧ ∀ h2, J k x h2 → WC P ⟨m, [], some l⟩ body (rndP (J (k + 1)) Jx own x h2) f' h2) noP) (zipF ps (enc a) f) h1)
    (hdone : ∀ D x h', J L.length x h' → open_ h' D → h.size ≤ D → ¬ own x D → Q (D :: Ds) .normal f h')
    (hret : ∀ D x h', Jx .ret x h' → open_ h' D → h.size ≤ D → ¬ own x D → Q (D :: Ds) .ret f h')
    (hexit : ∀ D i x h', Jx (.exit i) x h' → open_ h' D → h.size ≤ D → ¬ own x D → Q (D :: Ds) (.exit i) f h') : WD P m Ds (.rangeFunc g ⟨ps⟩ assign body) Q f h := by
  intro a w ha hw
  subst hw
  refine wpIn_rangeFunc fun fn _ => ?_
  have hlt : ∀ p ∈ ps, p < m := fun p hp => blt_lt (List.all_eq_true.1 hps p hp)
  have hev : a.eval g = .func (.func k) #[] ⟨lb⟩ := ha.agrees _ _ hg
  -- the record
  let rec0 : Loop := { state := .ready, pending := Option.none, fn, tmps := a.tmps, params := ⟨ps⟩, assign, body, defers := w.heap.size }
  let w1 : World := (w.alloc (.deferred (some []))).alloc (.loop rec0)
  have hw1 : w1.heap = (w.heap.push (.deferred (some []))).push (.loop rec0) := rfl
  have hx1 : Ext No w.heap w1.heap := (Ext.push No _ _).trans (Ext.push No _ _)
  have hsz1 : w1.heap.size = w.heap.size + 2 := by rw [hw1]; simp
  have hsame1 : Same w w1 := ⟨rfl, rfl, rfl, Nat.le_refl _⟩
  have hl1 : w1.heap[w.heap.size + 1]? = some (.loop rec0) := by
    rw [hw1]; have := push_new (w.heap.push (.deferred (some []))) (.loop rec0); simpa using this
  have hD1 : open_ w1.heap w.heap.size := by
    have := push_new w.heap (.deferred (some []))
    exact (Ext.push No _ _).obj this id
  refine ⟨w.heap.size + 1, [dmark w.heap.size], w1, ⟨.fn (.func k) ⟨lb⟩, #[.func (.yield (w.heap.size + 1)) #[] #[]]⟩, w1, k, ⟨.func (.yield (w.heap.size + 1)) #[] #[] :: lb⟩, w1, run_enterLoop_outer _ _ _ _ _, ?_, fun _ _ => trivial, ?_, fun e => (by cases e), ?_⟩
  · show (Deferred.ofValue (a.eval g) (Array.map a.eval #[.const (.func (.yield (w.heap.size + 1)) #[] #[])])).run P w1 = _
    rw [hev]
    simp [Deferred.ofValue, Act.eval]
  · show (callFunc k (#[Value.func (.yield (w.heap.size + 1)) #[] #[]] ++ (⟨lb⟩ : Array Value))).run P w1 = _
    rw [show (#[Value.func (.yield (w.heap.size + 1)) #[] #[]] ++ (⟨lb⟩ : Array Value)) = ⟨.func (.yield (w.heap.size + 1)) #[] #[] :: lb⟩ by simp]
    exact hcf _ _
  -- what the rounds keep
  generalize hl : w.heap.size + 1 = l at *
  generalize hD : w.heap.size = D at *
  have hDle : D ≤ D := Nat.le_refl _
  have hlle : D ≤ l := by omega
  let J' : Nat → X → Heap → Prop := fun k x h' => J k x h' ∧ h'[l]? = some (.loop rec0) ∧ open_ h' D ∧ ¬ own x l ∧ ¬ own x D
  let Jx' : X → Heap → Prop := fun x h' => ∃ e, (e = .ret ∨ ∃ i, e = .exit i) ∧ Jx e x h' ∧ h'[l]? = some (.loop { rec0 with state := .done, pending := some (jumpOf e) }) ∧ open_ h' D ∧ ¬ own x l ∧ ¬ own x D
  have hc := hseq w1.heap hx1 X J' Jx' own l x0
    ⟨h0 _ hx1, hl1, hD1, fun e => by have := hown0 _ e; omega, fun e => by have := hown0 _ e; omega⟩ (by omega) (fun e => by have := hrd _ e; omega)
    (fun k x h' hJ => hown k x h' hJ.1)
    (fun k x h1 h2 S ⟨hJ, q1, q2, q3, q4⟩ hx hS => ⟨hst k x h1 h2 S hJ hx (fun b hb hlt => ⟨by have := (hS b hb hlt).1; omega, (hS b hb hlt).2⟩), hx.obj q1 (fun e => by have := (hS _ e (lt_of_some q1)).1; omega), hx.obj q2 (fun e => by have := (hS _ e (lt_of_some q2)).1; omega), q3, q4⟩)
    ?_
  · refine (calls_wide (hc w1 rfl)).mono ?_
    rintro e w3 ⟨hs3, v, rfl, x, hx⟩
    show ∃ jump w₄, _
    rcases hx with ⟨hJ, q1, q2, q3, q4⟩ | ⟨e, he, hJ, q1, q2, q3, q4⟩
    · refine ⟨_, _, run_endLoop q1 (by simp [rec0]), ?_⟩
      have hx4 : Ext (fun b => b = l) w3.heap (w3.putObj l (.loop { rec0 with state := .exhausted })).heap := .set _ _ _ rfl
      refine ⟨rfl, hsame1.trans (hs3.trans ⟨rfl, rfl, rfl, Nat.le_refl _⟩), D :: Ds, f, ⟨ha.size, by simp [ha.defers], ha.at_⟩, ?_⟩
      exact hdone D x _ (hst _ x _ _ _ hJ hx4 (fun b hb _ => by subst hb; exact ⟨hlle, q3⟩)) (hx4.obj q2 (by omega)) hDle q4
    · refine ⟨_, _, run_endLoop q1 (by simp [rec0]), ?_⟩
      have hx4 : Ext (fun b => b = l) w3.heap (w3.putObj l (.loop { rec0 with state := .exhausted, pending := some (jumpOf e) })).heap := .set _ _ _ rfl
      have hJ4 := hstx e x _ _ _ hJ hx4 (fun b hb _ => by subst hb; exact ⟨hlle, q3⟩)
      have hD4 : open_ (w3.putObj l (.loop { rec0 with state := .exhausted, pending := some (jumpOf e) })).heap D := hx4.obj q2 (by omega)
      have hs4 : Same w (w3.putObj l (.loop { rec0 with state := .exhausted, pending := some (jumpOf e) })) := hsame1.trans (hs3.trans ⟨rfl, rfl, rfl, Nat.le_refl _⟩)
      rcases he with rfl | ⟨i, rfl⟩
      · exact wpIn_ret ⟨rfl, hs4, D :: Ds, f, ⟨ha.size, by simp [ha.defers], ha.at_⟩, hret D x _ hJ4 hD4 hDle q4⟩
      · exact wpIn_exit ⟨rfl, hs4, D :: Ds, f, ⟨ha.size, by simp [ha.defers], ha.at_⟩, hexit D i x _ hJ4 hD4 hDle q4⟩
  · rintro k x h1 y ⟨hJ, q1, q2, q3, q4⟩ hy wA hwA
    subst hwA
    refine ⟨fn, _, assign, body, run_yield q1 (by simp [rec0, hlen]), ?_⟩
    refine roundIn_of_wpIn trivial ?_
    have hrep : Rep ⟨m, [], some l⟩ { tmps := ((⟨ps⟩ : Array Tmp).zip ⟨enc y⟩).foldl (fun tmps (t, v) => tmps.setIfInBounds t v) a.tmps, defers := [] } (zipF ps (enc y) f) := by
      have := zip_rep (n := ⟨m, [], some l⟩) ps (enc y) { a with defers := [] } f ⟨ha.size, rfl, ha.at_⟩ hlt
      simpa using this
    refine wpIn_mono (hbody l k x wA.heap y hy hJ _ _ hrep rfl) ?_
    rintro e a1 w2 ⟨hcalm, hs2, f', hf', hq⟩
    cases e with
    | normal =>
      obtain ⟨hh, hq⟩ := hq
      refine ⟨_, run_beginRound (hh ▸ q1) rfl, ?_⟩
      have hxb : Ext (fun b => b = l) w2.heap (w2.putObj l (.loop { rec0 with state := .busy })).heap := .set _ _ _ rfl
      have hJ2 : J k x (w2.putObj l (.loop { rec0 with state := .busy })).heap := hst k x _ _ _ (hh ▸ hJ) hxb (fun b hb _ => by subst hb; exact ⟨hlle, q3⟩)
      have hlb : (w2.putObj l (.loop { rec0 with state := .busy })).heap[l]? = some (.loop { rec0 with state := .busy }) := set_new (hh ▸ q1)
      have hDb : open_ (w2.putObj l (.loop { rec0 with state := .busy })).heap D := hxb.obj (hh ▸ q2) (by omega)
      have hxA : Ext (fun b => own x b ∨ b = l) wA.heap (w2.putObj l (.loop { rec0 with state := .busy })).heap := (hh ▸ hxb).mono fun b _ e => .inr e
      refine wpIn_mono (hq _ hJ2 a1 (w2.putObj l (.loop { rec0 with state := .busy })) hf' rfl) ?_
      rintro e a3 w3 ⟨hcalm3, hs3, f3, hf3, x', hx3, ho3, hq3⟩
      have hl3 : w3.heap[l]? = some (.loop { rec0 with state := .busy }) := hx3.obj hlb q3
      have hD3 : open_ w3.heap D := hx3.obj hDb q4
      have hltl := lt_of_some hlb
      have hltD := lt_of_some hDb
      have hno : ∀ c, (c = l ∨ c = D) → ¬ own x' c := fun c hc e => by
        rcases ho3 c e with e1 | e1
        · rcases hc with rfl | rfl
          · exact q3 e1
          · exact q4 e1
        · rcases hc with rfl | rfl <;> omega
      have hsame : ∀ o, Same wA (w3.putObj l o) := fun o => hs2.trans ((⟨rfl, rfl, rfl, Nat.le_refl _⟩ : Same w2 (w2.putObj l (.loop { rec0 with state := .busy }))).trans (hs3.trans ⟨rfl, rfl, rfl, Nat.le_refl _⟩))
      have hfin : ∀ o, Ext (fun b => own x b ∨ b = l) wA.heap (w3.putObj l o).heap := fun o =>
        (hxA.trans (hx3.mono fun b _ e => .inl e)).trans ((Ext.set w3.heap l o rfl : Ext (fun b => b = l) _ _).mono fun b _ e => .inr e)
      have hset : ∀ o, Ext (fun b => b = l) w3.heap (w3.putObj l o).heap := fun o => .set _ _ _ rfl
      have hszA : wA.heap.size ≤ (w2.putObj l (.loop { rec0 with state := .busy })).heap.size := hxA.size
      have hown3 : ∀ b, own x' b → own x b ∨ wA.heap.size ≤ b := fun b hb => (ho3 b hb).imp id (fun h => Nat.le_trans hszA h)
      cases e with
      | normal =>
        refine ⟨_, _, run_endRound Option.none hl3, hsame _, _, rfl, x', hfin _, hown3, .inl ⟨rfl, ?_, ?_, (hset _).obj hD3 (by omega), hno _ (.inl rfl), hno _ (.inr rfl)⟩⟩
        · exact hst _ x' _ _ _ hq3 (hset _) (fun b hb _ => by subst hb; exact ⟨hlle, hno _ (.inl rfl)⟩)
        · exact set_new hl3
      | ret =>
        refine ⟨_, _, run_endRound (some .ret) hl3, hsame _, _, rfl, x', hfin _, hown3, .inr ⟨rfl, .ret, .inl rfl, ?_, ?_, (hset _).obj hD3 (by omega), hno _ (.inl rfl), hno _ (.inr rfl)⟩⟩
        · exact hstx _ x' _ _ _ hq3 (hset _) (fun b hb _ => by subst hb; exact ⟨hlle, hno _ (.inl rfl)⟩)
        · exact set_new hl3
      | exit i =>
        refine ⟨_, _, run_endRound (some (.exit i)) hl3, hsame _, _, rfl, x', hfin _, hown3, .inr ⟨rfl, .exit i, .inr ⟨i, rfl⟩, ?_, ?_, (hset _).obj hD3 (by omega), hno _ (.inl rfl), hno _ (.inr rfl)⟩⟩
        · exact hstx _ x' _ _ _ hq3 (hset _) (fun b hb _ => by subst hb; exact ⟨hlle, hno _ (.inl rfl)⟩)
        · exact set_new hl3
      | goto t => exact hq3.elim
      | panic c => exact hq3.elim
      | outgrown => exact hq3.elim
    | ret => exact hq.elim
    | exit i => exact hq.elim
    | goto t => exact hq.elim
    | panic c => cases hcalm
    | outgrown => cases hcalm

/-! ### the function as a whole -/
def shutAll : List Nat → Heap → Heap
  | [], h => h
  | D :: Ds, h => shutAll Ds (h.setIfInBounds D (.deferred Option.none))
def retD (P : Program) (fn : Func) (R : Value → Heap → Prop) : List Nat → Post := fun Ds e f h =>
  (e = .ret ∨ e = .normal) ∧ (∀ D ∈ Ds, open_ h D) ∧ Ds.Nodup ∧ ∃ vs, ResL P (shutAll Ds h) f fn.results.toList vs ∧ R (tup vs) (shutAll Ds h)
theorem leaves_marks {fn : Func} {tmps : Array Value} {R : Ending → World → Prop} : ∀ (Ds : List Nat) (w : World), (∀ D ∈ Ds, open_ w.heap D) → Ds.Nodup →
    (∀ w', Same w w' → w'.heap = shutAll Ds w.heap → LeavesIn (wd Option.none) 0 P fn tmps R [] .returning w') → LeavesInM (wd Option.none) 0 P fn tmps R (Ds.map dmark) .returning w
  | [], w, _, _, h => h w (.refl w) rfl
  | D :: Ds, w, ho, hn, h => by
    obtain ⟨hn1, hn2⟩ := List.nodup_cons.1 hn
    refine ⟨(fun e => by cases e), .inl ⟨D, _, rfl, run_takeDeferred (ho D (by simp)), ?_⟩⟩
    refine leaves_marks Ds _ (fun D' hD' => ?_) hn2 (fun w' hs hw' => h w' ((⟨rfl, rfl, rfl, Nat.le_refl _⟩ : Same w (w.putObj D (.deferred Option.none))).trans hs) hw')
    exact set_old (fun e => hn1 (e ▸ hD')) (ho D' (by simp [hD']))
theorem callsD {k : FuncId} {fn : Func} {c : Code} {args : List Value} {R : Value → Heap → Prop} (f0 : Fr) (hf : P.funcs[k]? = some fn) (hb : fn.body = some c) (hn : fn.ntmps = m) (hsz : Nat.ble args.length m = true) (ha : ArgL f0 args)
    (hc : WD P m [] c (retD P fn R) f0 h) : CallsH P k ⟨args⟩ h R := by
  intro w hw
  refine callsIn_wide (n := 0) |>.1 (callsIn_of_wp_marks hf hb trivial ?_)
  have hle : args.length ≤ m := by simpa [Nat.ble_eq] using hsz
  refine wpIn_mono (hc _ w (rep_enter hn hle ha) hw) ?_
  rintro e a w' ⟨hl, hs, Ds, g, hg, he, ho, hnd, vs, hr, hR⟩
  have key : LeavesInM (wd Option.none) 0 P fn a.tmps (fun e w'' => Same w w'' ∧ ∃ v, e = .returned v ∧ R v w''.heap) a.defers .returning w' := by
    rw [hg.defers]
    refine leaves_marks Ds w' ho hnd fun w2 hs2 hw2 => ⟨tup vs, ?_, hs.trans hs2, _, rfl, hw2 ▸ hR⟩
    exact run_results (P := P) (n := ⟨m, Ds.map dmark, Option.none⟩) (h := shutAll Ds w'.heap) hg hw2 hr
  rcases he with rfl | rfl <;> exact key
/-- What lies in cells is not touched where the marks are taken up. -/
theorem shut1 {D : Nat} (_ : open_ h D) : Ext (fun b => b = D) h (shutAll [D] h) := .set _ _ _ rfl
theorem shut_blk {D b : Nat} {cs : Array Value} {t : TypeId} {z : Nat × Nat} (ho : open_ h D) (hb : h[b]? = some (.cells cs t z)) : (shutAll [D] h)[b]? = some (.cells cs t z) :=
  (shut1 ho).obj hb (fun e => by have e' : b = D := e; subst e'; rw [open_, hb] at ho; cases ho)
theorem retD_0 {fn : Func} {R : Value → Heap → Prop} {f : Fr} (hq : retP P fn R .ret f h) : retD P fn R [] .ret f h := ⟨.inl rfl, fun _ h => (by cases h), List.nodup_nil, hq⟩
theorem retD_1 {fn : Func} {R : Value → Heap → Prop} {f : Fr} {D : Nat} (ho : open_ h D) (hq : retP P fn R .ret f (shutAll [D] h)) : retD P fn R [D] .ret f h :=
  ⟨.inl rfl, fun _ hd => by obtain rfl := List.mem_singleton.1 hd; exact ho, (by simp), hq⟩
theorem retD_n0 {fn : Func} {R : Value → Heap → Prop} {f : Fr} (hq : retP P fn R .normal f h) : retD P fn R [] .normal f h := ⟨.inr rfl, fun _ h => (by cases h), List.nodup_nil, hq⟩
theorem retD_n1 {fn : Func} {R : Value → Heap → Prop} {f : Fr} {D : Nat} (ho : open_ h D) (hq : retP P fn R .normal f (shutAll [D] h)) : retD P fn R [D] .normal f h :=
  ⟨.inr rfl, fun _ hd => by obtain rfl := List.mem_singleton.1 hd; exact ho, (by simp), hq⟩
end
end Go.RK
