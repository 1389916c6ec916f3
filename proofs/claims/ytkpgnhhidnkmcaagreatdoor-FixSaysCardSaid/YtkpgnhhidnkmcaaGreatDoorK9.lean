/-
  REGIONS THAT DRAW THEIR ORDER AND MAKE OR WRITE MEMORY: what only reads is taken first; what writes at last waits for all else. No program is named here.
-/
import Derived.Test.YtkpgnhhidnkmcaaGreatDoorK8
import Derived.OrdersHeld
import Derived.StillTail
namespace Go.RK
open Go

section
variable {P : Program} {ops : Array Oper} {Q : Exit → Act → World → Prop} {md : Region.Mode} {C : Heap → Prop} {k : Nat}
/-- None of the operations from number k on has come up. -/
def Early (ops : Array Oper) (k : Nat) (L : Array Bool) : Prop := ∀ j, k ≤ j → j < ops.size → L.getD j true = false
/-- Whatever order is picked from here on; AS LONG AS NONE OF THE OPERATIONS FROM NUMBER k ON HAS COME UP, C holds of the heap. -/
def wpA (P : Program) (md : Region.Mode) (ops : Array Oper) (Q : Exit → Act → World → Prop) (C : Heap → Prop) (k : Nat) : Nat → Array Bool → Act → World → Prop
  | 0, listed, a, w => Region.ready md ops listed = [] ∧ Q .normal a w
  | fuel + 1, listed, a, w =>
    (Region.ready md ops listed = [] → Q .normal a w) ∧
    ∀ i ∈ Region.ready md ops listed, wpOp P ops Q i (fun a' w' => (Early ops k (listed.setIfInBounds i true) → C w'.heap) ∧ wpA P md ops Q C k fuel (listed.setIfInBounds i true) a' w') a w
theorem wpAny_of_A : ∀ (fuel : Nat) (listed : Array Bool) (a : Act) (w : World), wpA P md ops Q C k fuel listed a w → wpAny P md ops Q fuel listed a w
  | 0, _, _, _, h => h
  | fuel + 1, _, _, _, h => ⟨h.1, fun i hi => wpOp_mono (fun a' w' h' => wpAny_of_A fuel _ a' w' h'.2) (h.2 i hi)⟩

theorem not_ready_of_waits {i j : Nat} {listed : Array Bool} (hw : Region.waitsFor md ops j i = true) (hi : listed.getD i true = false) : j ∉ Region.ready md ops listed := by
  intro hj
  obtain ⟨oj, hoj, e, he, hb, hon⟩ := Region.waitsFor_spec hw
  obtain ⟨_, oj', hoj', hall⟩ := mem_ready.1 hj
  rw [hoj] at hoj'
  injection hoj' with hoj'
  subst hoj'
  have h1 := hall e he hb
  rw [hon] at h1
  rcases Nat.lt_or_ge i listed.size with h' | h'
  · simp [h'] at hi h1; rw [hi] at h1; cases h1
  · simp [Array.getElem?_eq_none h'] at h1
theorem Early.set {L : Array Bool} (h : Early ops k L) {i : Nat} (hi : i < k) : Early ops k (L.setIfInBounds i true) := fun j hj hs => by
  rw [getD_set_ne true (by omega)]; exact h j hj hs

theorem wpA_first {i : Nat} {oi : Oper} {v : Value} (hi : ops[i]? = some oi) (hsel : ∀ (j : Nat) (o : Oper) cs b, ops[j]? = some o → o.op ≠ .select cs b)
    (hQ : ∀ c a w, Q (.panic c) (a.put oi.dst v) w → Q (.panic c) a w) (hik : i < k) (hw : ∀ j, k ≤ j → j < ops.size → Region.waitsFor md ops j i = true) :
    ∀ (fuel : Nat) (listed : Array Bool) (a : Act) (w : World), Early ops k listed →
      (∀ j oj, ops[j]? = some oj → j ≠ i → listed.getD j true = false → (∀ e ∈ oj.after, Region.binds md e = true → e.on ≠ i) → oi.apart ops oj = true) →
      i ∈ Region.ready md ops listed → YieldsIf P ops (fun w => C w.heap) oi v a → C w.heap →
      wpA P md ops Q C k fuel (listed.setIfInBounds i true) (a.put oi.dst v) w → wpA P md ops Q C k (fuel + 1) listed a w := by
  intro fuel
  induction fuel with
  | zero =>
    intro listed a w _ _ hr hy hS H
    refine ⟨fun h => (by rw [h] at hr; cases hr), fun j hj => ?_⟩
    by_cases hji : j = i
    · subst hji; exact hy.wpOp hi hS ⟨fun _ => hS, H⟩
    · have := ready_mono hj hji
      rw [H.1] at this
      cases this
  | succ fuel ih =>
    intro listed a w hE hfree hr hy hS H
    refine ⟨fun h => (by rw [h] at hr; cases hr), fun j hj => ?_⟩
    by_cases hji : j = i
    · subst hji; exact hy.wpOp hi hS ⟨fun _ => hS, H⟩
    · have h1 := H.2 j (ready_mono hj hji)
      obtain ⟨hjun, oj, hoj, hall⟩ := mem_ready.1 hj
      have hiun := (mem_ready.1 hr).1
      have hjs : j < ops.size := (Array.getElem?_eq_some_iff.1 hoj).1
      have hjk : j < k := by
        rcases Nat.lt_or_ge j k with h' | h'
        · exact h'
        · exact absurd hj (not_ready_of_waits (hw j h' hjs) hiun)
      have hnot : ∀ e ∈ oj.after, Region.binds md e = true → e.on ≠ i := fun e he hb heq => by
        have h1 := hall e he hb
        rw [heq] at h1
        rcases Nat.lt_or_ge i listed.size with h' | h'
        · simp [h'] at hiun h1; rw [hiun] at h1; cases h1
        · simp [Array.getElem?_eq_none h'] at h1
      have h2 := wpOp_putIf hoj (hfree j oj hoj hji hjun hnot) (fun cs b => hsel i oi cs b hi) (fun cs b => hsel j oj cs b hoj) hQ hy h1
      have hfree' : ∀ k ok, ops[k]? = some ok → k ≠ i → (listed.setIfInBounds j true).getD k true = false →
          (∀ e ∈ ok.after, Region.binds md e = true → e.on ≠ i) → oi.apart ops ok = true := fun k ok hk hki hun hno => by
        refine hfree k ok hk hki ?_ hno
        by_cases hjk : j = k
        · subst hjk; exact hjun
        · rw [getD_set_ne true hjk] at hun; exact hun
      have hE' : Early ops k (listed.setIfInBounds j true) := hE.set hjk
      refine wpOp_mono (fun a' w' h3 => ?_) h2
      have hC : C w'.heap := h3.2.1 (by rw [Array.setIfInBounds_comm _ _ (Ne.symm hji)]; exact hE'.set hik)
      refine ⟨fun _ => hC, ih (listed.setIfInBounds j true) a' w' hE' hfree' (ready_mono hr (Ne.symm hji)) h3.1 hC ?_⟩
      rw [Array.setIfInBounds_comm _ _ hji]
      exact h3.2.2
end

theorem lt_blt {d n : Nat} (hd : d < n) : Nat.blt d n = true := by
  have h1 : d + 1 ≤ n := hd
  simpa [Nat.blt, Nat.ble_eq] using h1

/-! ### over frames known in part -/
def noPanic (Q : Exit → Act → World → Prop) : Exit → Act → World → Prop
  | .panic _, _, _ => False
  | e, a, w => Q e a w
theorem noPanic_imp {Q : Exit → Act → World → Prop} (e : Exit) (a : Act) (w : World) (h : noPanic Q e a w) : Q e a w := by cases e <;> first | exact h | exact h.elim

section
variable {P : Program} {n : Env} {Q : Post} {f : Fr} {h : Heap} {l : List Oper} {C : Heap → Prop} {k fuel : Nat} {L : Array Bool}
def WH (P : Program) (n : Env) (l : List Oper) (Q : Post) (C : Heap → Prop) (k fuel : Nat) (L : Array Bool) (f : Fr) (h : Heap) : Prop :=
  ∀ (w0 : World) (a : Act) (w : World), Same w0 w → Rep n a f → w.heap = h → wpA P .any l.toArray (noPanic (toAct n Q w0)) C k fuel L a w
theorem WC.drawH {id : Nat} {l : List Oper} (C : Heap → Prop) (k fuel : Nat) (hf : l.length = fuel) (hm : P.follows .mixedOrders = true)
    (hq : WH P n l Q C k fuel (Array.replicate fuel false) f h) (hd : n.ro = Option.none ∨ noDef l = true := by first | exact .inl rfl | exact .inr rfl) : WC P n (.region id l.toArray true) Q f h := by
  intro a w ha hw
  refine wpIn_mono (any_in (Q := noPanic (toAct n Q w)) (by simpa using hd) (fun ⟨_, _, hh⟩ => toAct.shut ⟨_, _, hh⟩) hm ?_) noPanic_imp
  have := wpAny_of_A _ _ _ _ (hq w a { w with drawn := w.drawn + 1 } ⟨rfl, rfl, rfl, trivial⟩ ha hw)
  subst hf
  exact this
/-- Number i only reads: it is taken first. -/
theorem WH.take {o : Oper} {v : Value} {t : Nat} (i : Nat) (hi : l[i]? = some o) (hs : Region.noSelect l.toArray = true) (hfr : Region.free .any l.toArray L i = true) (hr : (Region.ready .any l.toArray L).contains i = true)
    (hE : (List.range l.length).all (fun j => Nat.blt j k || (!L.getD j true && Region.waitsFor .any l.toArray j i)) = true) (hik : Nat.blt i k = true) (hC : C h)
    (hok : ∀ h', C h' → OkP P f o h' v) (hg : goes f l o = true) (hd : o.dst = some t) (ht : Nat.blt t n.n = true)
    (hk : WH P n l Q C k fuel (L.setIfInBounds i true) ((t, v) :: f) h) : WH P n l Q C k (fuel + 1) L f h := by
  intro w0 a w hsm ha hw
  have hEall : ∀ j, k ≤ j → j < l.toArray.size → L.getD j true = false ∧ Region.waitsFor .any l.toArray j i = true := by
    intro j hj hjs
    have := List.all_eq_true.1 hE j (by simpa using hjs)
    have hb : Nat.blt j k = false := by
      cases e : Nat.blt j k
      · rfl
      · have := blt_lt e; omega
    simpa [hb] using this
  refine wpA_first (by simpa using hi) (Region.noSelect_spec hs) (fun c a w q => q) (blt_lt hik) (fun j hj hjs => (hEall j hj hjs).2) fuel L a w (fun j hj hjs => (hEall j hj hjs).1)
    (Region.free_spec (by simpa using hi) hfr) (by simpa using hr) (.inl ⟨goes_wanted ha hg, fun w' hC' => hok _ hC' _ w' ha.agrees rfl⟩) (by rw [hw]; exact hC) ?_
  rw [hd]
  exact hk w0 _ w hsm (ha.put ht _) hw
theorem WH.pass {o : Oper} {t : Nat} (i : Nat) (hi : l[i]? = some o) (hs : Region.noSelect l.toArray = true) (hfr : Region.free .any l.toArray L i = true) (hr : (Region.ready .any l.toArray L).contains i = true)
    (hE : (List.range l.length).all (fun j => Nat.blt j k || (!L.getD j true && Region.waitsFor .any l.toArray j i)) = true) (hik : Nat.blt i k = true) (hC : C h)
    (hg : stops f l o = true) (hd : o.dst = some t) (ht : Nat.blt t n.n = true)
    (hk : WH P n l Q C k fuel (L.setIfInBounds i true) ((t, undef) :: f) h) : WH P n l Q C k (fuel + 1) L f h := by
  intro w0 a w hsm ha hw
  have hEall : ∀ j, k ≤ j → j < l.toArray.size → L.getD j true = false ∧ Region.waitsFor .any l.toArray j i = true := by
    intro j hj hjs
    have := List.all_eq_true.1 hE j (by simpa using hjs)
    have hb : Nat.blt j k = false := by
      cases e : Nat.blt j k
      · rfl
      · have := blt_lt e; omega
    simpa [hb] using this
  refine wpA_first (by simpa using hi) (Region.noSelect_spec hs) (fun c a w q => q) (blt_lt hik) (fun j hj hjs => (hEall j hj hjs).2) fuel L a w (fun j hj hjs => (hEall j hj hjs).1)
    (Region.free_spec (by simpa using hi) hfr) (by simpa using hr) (.inr ⟨stops_wanted ha hg, rfl⟩) (by rw [hw]; exact hC) ?_
  rw [hd]
  exact hk w0 _ w hsm (ha.put ht _) hw
theorem WH.part (t : Nat) {b : Bool} (hb : f.get t = some (.bool b)) (h1 : b = true → WH P n l Q C k fuel L ((t, .bool true) :: f) h) (h2 : b = false → WH P n l Q C k fuel L ((t, .bool false) :: f) h) : WH P n l Q C k fuel L f h := by
  cases b
  · exact fun w0 a w hs ha hw => h2 rfl w0 a w hs (ha.sub_set hb) hw
  · exact fun w0 a w hs ha hw => h1 rfl w0 a w hs (ha.sub_set hb) hw
/-- What comes up next, if it is number i. -/
def Comes1 (P : Program) (n : Env) (l : List Oper) (Q : Post) (C : Heap → Prop) (k fuel : Nat) (L : Array Bool) (f : Fr) (h : Heap) (i : Nat) : Prop :=
  ∀ (w0 : World) (a : Act) (w : World), Same w0 w → Rep n a f → w.heap = h →
    wpOp P l.toArray (noPanic (toAct n Q w0)) i (fun a' w' => (Early l.toArray k (L.setIfInBounds i true) → C w'.heap) ∧ wpA P .any l.toArray (noPanic (toAct n Q w0)) C k fuel (L.setIfInBounds i true) a' w') a w
theorem WH.one (i : Nat) (hr : Region.ready .any l.toArray L = [i]) (h1 : Comes1 P n l Q C k fuel L f h i) : WH P n l Q C k (fuel + 1) L f h :=
  fun w0 a w hs ha hw => ⟨fun e => (by rw [hr] at e; cases e), fun j hj => by rw [hr] at hj; simp at hj; subst hj; exact h1 w0 a w hs ha hw⟩
theorem WH.two (i j : Nat) (hr : Region.ready .any l.toArray L = [i, j]) (h1 : Comes1 P n l Q C k fuel L f h i) (h2 : Comes1 P n l Q C k fuel L f h j) : WH P n l Q C k (fuel + 1) L f h :=
  fun w0 a w hs ha hw => ⟨fun e => (by rw [hr] at e; cases e), fun m hj => by
    rw [hr] at hj
    simp at hj
    rcases hj with rfl | rfl
    · exact h1 w0 a w hs ha hw
    · exact h2 w0 a w hs ha hw⟩
theorem WH.done (hr : Region.ready .any l.toArray L = []) (hq : Q .normal f h) : WH P n l Q C k 0 L f h :=
  fun _ _ _ hs ha hw => ⟨hr, rfl, hs, _, ha, hw ▸ hq⟩
theorem Comes1.run {o : Oper} {R : Value → Heap → Prop} {i t : Nat} (hi : l[i]? = some o) (hok : OkR P f o h R) (hg : goes f l o = true) (hd : o.dst = some t) (ht : Nat.blt t n.n = true)
    (hk : ∀ v h', R v h' → (Nat.blt i k = true → C h') ∧ WH P n l Q C k fuel (L.setIfInBounds i true) ((t, v) :: f) h') (hlt : Nat.ble k i = true → Nat.blt i L.size = true) : Comes1 P n l Q C k fuel L f h i := by
  intro w0 a w hs ha hw
  unfold wpOp
  have hi' : l.toArray[i]? = some o := by simpa using hi
  simp only [hi', if_pos (goes_wanted ha hg)]
  refine .inl ?_
  obtain ⟨v, w', hs', hR, hrun⟩ := hok a.eval w ha.agrees hw
  unfold Oper.wp
  obtain ⟨hC, hW⟩ := hk v w'.heap hR
  have key : (Early l.toArray k (L.setIfInBounds i true) → C w'.heap) ∧ wpA P .any l.toArray (noPanic (toAct n Q w0)) C k fuel (L.setIfInBounds i true) (a.put o.dst v) w' := by
    refine ⟨fun hE => ?_, by rw [hd]; exact hW w0 _ w' (hs.trans hs') (ha.put ht _) rfl⟩
    rcases Nat.lt_or_ge i k with h' | h'
    · exact hC (lt_blt h')
    · have h1 := hE i h' (by simpa using (List.getElem?_eq_some_iff.1 hi).1)
      have h2 := blt_lt (hlt (by simpa [Nat.ble_eq] using h'))
      simp [h2] at h1
  rcases hrun with hrun | ⟨hrun, rfl⟩ <;> rw [hrun] <;> simp only [Oper.upon] <;> exact key
theorem Comes1.run0 {o : Oper} {R : Value → Heap → Prop} {i : Nat} (hi : l[i]? = some o) (hok : OkR P f o h R) (hg : goes f l o = true) (hd : o.dst = Option.none)
    (hk : ∀ v h', R v h' → (Nat.blt i k = true → C h') ∧ WH P n l Q C k fuel (L.setIfInBounds i true) f h') (hlt : Nat.ble k i = true → Nat.blt i L.size = true) : Comes1 P n l Q C k fuel L f h i := by
  intro w0 a w hs ha hw
  unfold wpOp
  have hi' : l.toArray[i]? = some o := by simpa using hi
  simp only [hi', if_pos (goes_wanted ha hg)]
  refine .inl ?_
  obtain ⟨v, w', hs', hR, hrun⟩ := hok a.eval w ha.agrees hw
  unfold Oper.wp
  obtain ⟨hC, hW⟩ := hk v w'.heap hR
  have key : (Early l.toArray k (L.setIfInBounds i true) → C w'.heap) ∧ wpA P .any l.toArray (noPanic (toAct n Q w0)) C k fuel (L.setIfInBounds i true) (a.put o.dst v) w' := by
    refine ⟨fun hE => ?_, by rw [hd]; exact hW w0 _ w' (hs.trans hs') ha rfl⟩
    rcases Nat.lt_or_ge i k with h' | h'
    · exact hC (lt_blt h')
    · have h1 := hE i h' (by simpa using (List.getElem?_eq_some_iff.1 hi).1)
      have h2 := blt_lt (hlt (by simpa [Nat.ble_eq] using h'))
      simp [h2] at h1
  rcases hrun with hrun | ⟨hrun, rfl⟩ <;> rw [hrun] <;> simp only [Oper.upon] <;> exact key
theorem Comes1.call {o : Oper} {i t : Nat} {fk : FuncId} {xs : List Operand} {vs : List Value} {ts : Array TypeId} {R : Value → Heap → Prop} (hi : l[i]? = some o) (ho : o.op = .call { callee := .value (.func fk), args := ⟨xs⟩, argTypes := ts })
    (hc : ∀ (args : Array Value) (w : World), (callFunc fk args).run P w = .ok (.enter fk args) w)
    (hx : xs.map f.ev = vs.map some) (hR : CallsH P fk ⟨vs⟩ h R) (hg : goes f l o = true) (hd : o.dst = some t) (ht : Nat.blt t n.n = true)
    (hk : ∀ v h', R v h' → (Nat.blt i k = true → C h') ∧ WH P n l Q C k fuel (L.setIfInBounds i true) ((t, v) :: f) h') (hlt : Nat.ble k i = true → Nat.blt i L.size = true) : Comes1 P n l Q C k fuel L f h i := by
  intro w0 a w hs ha hw
  unfold wpOp
  have hi' : l.toArray[i]? = some o := by simpa using hi
  simp only [hi', if_pos (goes_wanted ha hg)]
  refine .inl ?_
  have hargs : xs.map a.eval = vs := by
    clear ho hR
    induction xs generalizing vs with
    | nil => cases vs <;> simp_all
    | cons x xs ih =>
      cases vs with
      | nil => simp at hx
      | cons v vs =>
        simp only [List.map_cons, List.cons.injEq] at hx ⊢
        exact ⟨ha.agrees _ _ hx.1, ih hx.2⟩
  unfold Oper.wp
  have hrun : (execOp a.eval o).run P w = .ok (.enter fk ⟨vs⟩) w := by
    have e2 : Array.map a.eval ⟨xs⟩ = ⟨vs⟩ := by rw [← hargs]; simp
    simp [execOp, ho, resolve, Deferred.ofValue, invoke, Act.eval, e2, hc]
  rw [hrun]
  simp only [Oper.upon]
  refine (hR w hw).mono fun e w' ⟨hs', v, he, hv⟩ => ?_
  subst he
  obtain ⟨hC, hW⟩ := hk v w'.heap hv
  refine ⟨fun hE => ?_, by rw [hd]; exact hW w0 _ w' (hs.trans hs') (ha.put ht _) rfl⟩
  rcases Nat.lt_or_ge i k with h' | h'
  · exact hC (lt_blt h')
  · have h1 := hE i h' (by simpa using (List.getElem?_eq_some_iff.1 hi).1)
    have h2 := blt_lt (hlt (by simpa [Nat.ble_eq] using h'))
    simp [h2] at h1

/-! ### what only reads comes first, then a tail whose order is forced -/
def WS (P : Program) (n : Env) (l0 l : List Oper) (K : Fr → Prop) (f : Fr) (h : Heap) : Prop :=
  ∀ (a : Act) (w : World), Rep n a f → w.heap = h → wpStill P l0.toArray w (fun a' => ∃ g, Rep n a' g ∧ K g) l a
theorem wpStill_mono {ops : Array Oper} {w : World} {K K' : Act → Prop} (hK : ∀ a, K a → K' a) : ∀ (l : List Oper) (a : Act), wpStill P ops w K l a → wpStill P ops w K' l a
  | [], a, hq => hK a hq
  | o :: l, a, hq => by
    unfold wpStill at hq ⊢
    split
    · rename_i hw
      rw [if_pos hw] at hq
      unfold Oper.still at hq ⊢
      generalize (execOp a.eval o).run P w = r at hq ⊢
      cases r with
      | ok x w2 =>
        cases x <;> simp only [Oper.stillUpon] at hq ⊢ <;> first | exact hq | exact ⟨hq.1, wpStill_mono hK l _ hq.2⟩ | skip
        obtain ⟨h1, v, h2, h3⟩ := hq
        exact ⟨h1, v, h2, wpStill_mono hK l _ h3⟩
      | halt x w2 => exact hq
    · rename_i hw
      rw [if_neg hw] at hq
      exact wpStill_mono hK l _ hq
theorem any_still_tail {Q : Exit → Act → World → Prop} {a : Act} {w : World} {l : List Oper} (n : Nat) (hB : Region.lexTailB .any l.toArray n = true)
    (h : wpStill P l.toArray w (fun a' => wpList P l.toArray Q (l.drop n) a' w) (l.take n) a) : wpAny P .any l.toArray Q l.toArray.size (Array.replicate l.toArray.size false) a w := by
  simp only [Region.lexTailB, Bool.and_eq_true, decide_eq_true_eq] at hB
  obtain ⟨⟨⟨⟨hsel, hn⟩, hs⟩, hc⟩, hlex⟩ := hB
  have hn' : n < l.length := by simpa using hn
  have htl : (l.take n).length = n := by simp; omega
  have hdl : (l.drop n).length = l.toArray.size - n := by simp
  have inv0 : HeadInv .any l.toArray n (Array.replicate l.toArray.size false) :=
    ⟨by simp, fun j oj _ hl => (by rw [getD_replicate_false] at hl; cases hl), fun t _ ht => getD_in (by simpa using ht) (getD_replicate_false _ _)⟩
  have H := wpAnyL_lex (P := P) (md := .any) (g := l.toArray.size - n) hsel hs hc hn (l.take n) 0 _ a (fun j hj => by
    have hj' : j < n := by rw [htl] at hj; exact hj
    simp [hj']) (by simpa using htl) inv0 (by rw [htl]; exact hlex) h
  have := wpAny_of_head (P := P) (Q' := Q) (g := l.toArray.size - n) (fun listed a' hL => by
    have := wpAny_of_seq (P := P) (md := .any) (Q' := Q) (l.drop n) n listed a' w (fun j => by simp [List.getElem?_drop]) (by rw [hdl]; exact hL.1) hL.2
    rwa [hdl] at this) _ _ _ H
  rw [htl, show n + (l.toArray.size - n) = l.toArray.size by omega] at this
  exact this
theorem WC.drawT {id : Nat} {l : List Oper} (k : Nat) (hm : P.follows .mixedOrders = true) (hB : Region.lexTailB .any l.toArray k = true)
    (hq : WS P n l (l.take k) (fun g => WL P n l (l.drop k) Q g h) f h) (hd : n.ro = Option.none ∨ noDef l = true := by first | exact .inl rfl | exact .inr rfl) : WC P n (.region id l.toArray true) Q f h := by
  intro a w ha hw
  refine any_in (by simpa using hd) toAct.shut hm (any_still_tail k hB ?_)
  refine wpStill_mono ?_ _ _ (hq a { w with drawn := w.drawn + 1 } ha hw)
  rintro a' ⟨g, hg, hk⟩
  exact toAct_mono (w := w) (w' := { w with drawn := w.drawn + 1 }) ⟨rfl, rfl, rfl, trivial⟩ _ _ _ (hk a' { w with drawn := w.drawn + 1 } hg hw)
variable {K : Fr → Prop} {l0 rest : List Oper}
theorem WS.nil (hk : K f) : WS P n l0 [] K f h := fun _ _ ha _ => ⟨f, ha, hk⟩
theorem WS.step {o : Oper} {v : Value} {t : Nat} (hok : OkP P f o h v) (hg : goes f l0 o = true) (hd : o.dst = some t) (ht : Nat.blt t n.n = true) (hk : WS P n l0 rest K ((t, v) :: f) h) : WS P n l0 (o :: rest) K f h := by
  intro a w ha hw
  refine wpStill_step fun K' hK' => ?_
  rw [if_pos (goes_wanted ha hg)]
  unfold Oper.still
  rw [hok _ w ha.agrees hw, Oper.stillUpon_value, hd]
  exact hK' _ (hk _ w (ha.put ht _) hw)
theorem WS.pass {o : Oper} {t : Nat} (hg : stops f l0 o = true) (hd : o.dst = some t) (ht : Nat.blt t n.n = true) (hk : WS P n l0 rest K ((t, undef) :: f) h) : WS P n l0 (o :: rest) K f h := by
  intro a w ha hw
  refine wpStill_step fun K' hK' => ?_
  rw [if_neg (by rw [stops_wanted ha hg]; exact Bool.false_ne_true), hd]
  exact hK' _ (hk _ w (ha.put ht _) hw)
theorem WS.part {l : List Oper} (t : Nat) {b : Bool} (hb : f.get t = some (.bool b)) (h1 : b = true → WS P n l0 l K ((t, .bool true) :: f) h) (h2 : b = false → WS P n l0 l K ((t, .bool false) :: f) h) : WS P n l0 l K f h := by
  cases b
  · exact fun a w ha hw => h2 rfl a w (ha.sub_set hb) hw
  · exact fun a w ha hw => h1 rfl a w (ha.sub_set hb) hw
end
end Go.RK
