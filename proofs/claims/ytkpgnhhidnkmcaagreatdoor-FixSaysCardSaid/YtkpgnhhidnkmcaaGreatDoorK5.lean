/-
  ENTRY AND RETURN; REGIONS THAT DRAW THEIR ORDER; MAPS. No program is named here.
-/
import Derived.Test.YtkpgnhhidnkmcaaGreatDoorK4
namespace Go.RK
open Go

/-! ### entry and return -/
section
variable {P : Program} {n : Env} {f : Fr} {h : Heap}

/-- What the results' slots hold. -/
def ResL (P : Program) (h : Heap) (f : Fr) : List ResultVar → List Value → Prop
  | [], [] => True
  | .tmp t :: r, v :: vs => f.get t = some v ∧ ResL P h f r vs
  | .cell t ty :: r, v :: vs => (∃ a, f.get t = some (.pointer (some a)) ∧ ∀ w : World, w.heap = h → (loadVar ty a).run P w = .ok v w) ∧ ResL P h f r vs
  | _, _ => False
def tup : List Value → Value
  | [v] => v
  | vs => .tuple ⟨vs⟩
def retP (P : Program) (fn : Func) (R : Value → Heap → Prop) : Post
  | .normal, f, h | .ret, f, h => ∃ vs, ResL P h f fn.results.toList vs ∧ R (tup vs) h
  | _, _, _ => False
theorem run_mapM_list {α : Type} (F : α → Sem Value) {w : World} : ∀ (rs : List α) (vs : List Value), rs.length = vs.length → (∀ (i : Nat) (r : α) (v : Value), rs[i]? = some r → vs[i]? = some v → (F r).run P w = .ok v w) → (rs.mapM F).run P w = .ok vs w
  | [], [], _, _ => by simp
  | r :: rs, v :: vs, hl, hr => by
    have h1 := hr 0 r v rfl rfl
    have h2 := run_mapM_list F rs vs (by simpa using hl) (fun i r v h1 h2 => hr (i + 1) r v (by simpa using h1) (by simpa using h2))
    simp [List.mapM_cons, h1, h2]
  | [], _ :: _, hl, _ => by simp at hl
  | _ :: _, [], hl, _ => by simp at hl
theorem ResL.len : ∀ (rs : List ResultVar) (vs : List Value), ResL P h f rs vs → rs.length = vs.length
  | [], [], _ => rfl
  | .tmp t :: rs, v :: vs, hr => by simp [ResL.len rs vs hr.2]
  | .cell t ty :: rs, v :: vs, hr => by simp [ResL.len rs vs hr.2]
  | [], _ :: _, hr => hr.elim
  | .tmp _ :: _, [], hr => hr.elim
  | .cell _ _ :: _, [], hr => hr.elim
theorem ResL.get : ∀ (rs : List ResultVar) (vs : List Value), ResL P h f rs vs → ∀ (i : Nat) (r : ResultVar) (v : Value), rs[i]? = some r → vs[i]? = some v → ResL P h f [r] [v]
  | .tmp t :: rs, v :: vs, hr, 0, r, u, h1, h2 => by simp at h1 h2; subst h1; subst h2; exact ⟨hr.1, trivial⟩
  | .cell t ty :: rs, v :: vs, hr, 0, r, u, h1, h2 => by simp at h1 h2; subst h1; subst h2; exact ⟨hr.1, trivial⟩
  | .tmp t :: rs, v :: vs, hr, i + 1, r, u, h1, h2 => ResL.get rs vs hr.2 i r u (by simpa using h1) (by simpa using h2)
  | .cell t ty :: rs, v :: vs, hr, i + 1, r, u, h1, h2 => ResL.get rs vs hr.2 i r u (by simpa using h1) (by simpa using h2)
  | [], _, _, i, r, u, h1, _ => by simp at h1
  | .tmp _ :: _, [], hr, _, _, _, _, _ => hr.elim
  | .cell _ _ :: _, [], hr, _, _, _, _, _ => hr.elim
theorem run_results {fn : Func} {a : Act} (ha : Rep n a f) {w : World} (hw : w.heap = h) {vs : List Value} (hr : ResL P h f fn.results.toList vs) : (results fn a.tmps).run P w = .ok (tup vs) w := by
  have h1 := run_mapM_list (P := P) (fun r : ResultVar => match r with | .tmp t => (pure (a.tmps.getD t undef) : Sem Value) | .cell p t => do loadVar t (← asAddr (a.tmps.getD p undef))) (w := w) fn.results.toList vs (ResL.len _ _ hr) (fun i r v hi hv => by
    have hr1 := ResL.get _ _ hr i r v hi hv
    cases r with
    | tmp t =>
      have h1 := ha.at_ _ _ hr1.1
      simp [h1]
    | cell t ty =>
      obtain ⟨⟨p, hp, hl⟩, _⟩ := hr1
      have h1 := ha.at_ _ _ hp
      simp [h1, asAddr, hl w hw])
  unfold results
  rw [Array.mapM_eq_mapM_toList]
  simp only [Sem.run_bind, Sem.run_map]
  refine Eq.trans (congrArg (fun r => Result.andThen r _) (congrArg (fun r => Result.andThen r _) h1)) ?_
  simp only [Result.andThen_ok, Sem.run_pure]
  congr 1
  match vs with
  | [] => rfl
  | [v] => rfl
  | v :: u :: r => simp [tup]

theorem lt_of_getE {α : Type} {xs : Array α} {i : Nat} {x : α} (hx : xs[i]? = some x) : i < xs.size := (Array.getElem?_eq_some_iff.1 hx).1

theorem rep_enter {m : Nat} {fn : Func} {args : List Value} {f0 : Fr} (hn : fn.ntmps = m) (hle : args.length ≤ m) (ha : ArgL f0 args) :
    Rep ⟨m, [], Option.none⟩ { tmps := (⟨args⟩ : Array Value) ++ Array.replicate (fn.ntmps - (⟨args⟩ : Array Value).size) undef, defers := [] } f0 := by
  refine ⟨by simp [hn]; omega, rfl, ?_⟩
  induction f0 with
  | nil => intro t v hv; cases hv
  | cons p r ih =>
    obtain ⟨t0, v0⟩ := p
    intro t v hv
    rw [Fr.get_cons] at hv
    by_cases e : t0 = t
    · subst e
      rw [if_pos rfl] at hv
      injection hv with hv
      subst hv
      have h1 : (⟨args⟩ : Array Value)[t0]? = some v0 := by simpa using ha.1
      rw [Array.getElem?_append_left (lt_of_getE h1)]
      exact h1
    · rw [if_neg e] at hv
      exact ih ha.2 t v hv
theorem calls {m : Nat} {k : FuncId} {fn : Func} {c : Code} {args : List Value} {R : Value → Heap → Prop} (f0 : Fr) (hf : P.funcs[k]? = some fn) (hb : fn.body = some c) (hn : fn.ntmps = m) (hsz : Nat.ble args.length m = true) (ha : ArgL f0 args)
    (hc : WC P ⟨m, [], Option.none⟩ c (retP P fn R) f0 h) : CallsH P k ⟨args⟩ h R := by
  intro w hw
  refine calls_of_wp hf hb ?_
  have hle : args.length ≤ m := by simpa [Nat.ble_eq] using hsz
  have hrep : Rep ⟨m, [], Option.none⟩ { tmps := (⟨args⟩ : Array Value) ++ Array.replicate (fn.ntmps - (⟨args⟩ : Array Value).size) undef, defers := [] } f0 := rep_enter hn hle ha
  refine Go.wp_mono (wpIn_wide.1 (hc _ w hrep hw)) ?_
  rintro e a w' ⟨hl, hs, g, hg, hq⟩
  cases e with
  | normal =>
    obtain ⟨vs, hr, hR⟩ := hq
    exact ⟨hg.defers, _, run_results hg rfl hr, hs, _, rfl, hR⟩
  | ret =>
    obtain ⟨vs, hr, hR⟩ := hq
    exact ⟨hg.defers, _, run_results hg rfl hr, hs, _, rfl, hR⟩
  | _ => exact hq.elim
end

/-! ### a region that draws its order, whose operations read or call quietly -/
section
variable {P : Program} {n : Env} {Q : Post} {f : Fr} {h : Heap} {l0 rest : List Oper} {C : Heap → Prop}
def WQ (P : Program) (n : Env) (l0 l : List Oper) (C : Heap → Prop) (K : Fr → Prop) (f : Fr) : Prop :=
  ∀ (a : Act) (w0 : World), Rep n a f → wpQuiet P l0.toArray (fun w => Same w0 w ∧ C w.heap) (fun a' => ∃ g, Rep n a' g ∧ K g) l a
theorem wpQuiet_mono {ops : Array Oper} {C : World → Prop} {Q Q' : Act → Prop} (hQ : ∀ a, Q a → Q' a) : ∀ (l : List Oper) (a : Act), wpQuiet P ops C Q l a → wpQuiet P ops C Q' l a
  | [], a, hq => hQ a hq
  | o :: l, a, hq => by
    unfold wpQuiet at hq ⊢
    split
    · rename_i hw
      rw [if_pos hw] at hq
      obtain ⟨v, h1, h2⟩ := hq
      exact ⟨v, h1, wpQuiet_mono hQ l _ h2⟩
    · rename_i hw
      rw [if_neg hw] at hq
      exact wpQuiet_mono hQ l _ hq
theorem WC.draw {id : Nat} {l : List Oper} (C : Heap → Prop) (hm : P.follows .mixedOrders = true) (hB : Region.lexB .any l.toArray = true) (hC : C h)
    (hq : WQ P n l l C (fun g => ∀ h', C h' → Q .normal g h') f) (hd : n.ro = Option.none ∨ noDef l = true := by first | exact .inl rfl | exact .inr rfl) : WC P n (.region id l.toArray true) Q f h := by
  intro a w ha hw
  refine any_in (by simpa using hd) toAct.shut hm ?_
  simp only [Region.lexB, Bool.and_eq_true] at hB
  refine wpAny_of_quiet (C := fun w' => Same w w' ∧ C w'.heap) (Q := fun a' => ∀ w', (Same w w' ∧ C w'.heap) → toAct n Q w .normal a' w') (fun _ w' hw' h => h w' hw') _ _ _ _ ⟨⟨rfl, rfl, rfl, trivial⟩, by rw [← hw] at hC; exact hC⟩ ?_
  have h1 := wpQuiet_mono (Q' := fun a' => ∀ w', (Same w w' ∧ C w'.heap) → toAct n Q w .normal a' w') (by
    rintro a' ⟨g, hg, hk⟩ w' ⟨hs, hc⟩
    exact ⟨rfl, hs, g, hg, hk _ hc⟩) _ _ (hq a w ha)
  have := wpAnyQ_lex (P := P) (C := fun w' => Same w w' ∧ C w'.heap) (md := .any) hB.1 l 0 (Array.replicate l.toArray.size false) a (by simp) (by simpa using hB.2) h1
  simpa using this
variable {K : Fr → Prop}
theorem WQ.nil (hk : K f) : WQ P n l0 [] C K f := fun _ _ ha => ⟨f, ha, hk⟩
theorem WQ.step {o : Oper} {v : Value} {t : Nat} (hok : ∀ h, C h → OkP P f o h v) (hg : goes f l0 o = true) (hd : o.dst = some t) (ht : Nat.blt t n.n = true) (hk : WQ P n l0 rest C K ((t, v) :: f)) : WQ P n l0 (o :: rest) C K f := by
  intro a w0 ha
  refine wpQuiet_step fun K' hK' => ?_
  rw [if_pos (goes_wanted ha hg)]
  refine ⟨v, fun w hw => ?_, ?_⟩
  · unfold Oper.quietAt
    rw [hok _ hw.2 _ w ha.agrees rfl]
    exact ⟨rfl, rfl⟩
  · rw [hd]; exact hK' _ (hk _ w0 (ha.put ht _))
theorem WQ.pass {o : Oper} {t : Nat} (hg : stops f l0 o = true) (hd : o.dst = some t) (ht : Nat.blt t n.n = true) (hk : WQ P n l0 rest C K ((t, undef) :: f)) : WQ P n l0 (o :: rest) C K f := by
  intro a w0 ha
  refine wpQuiet_step fun K' hK' => ?_
  rw [if_neg (by rw [stops_wanted ha hg]; exact Bool.false_ne_true), hd]
  exact hK' _ (hk _ w0 (ha.put ht _))
theorem WQ.part {l : List Oper} (t : Nat) {b : Bool} (hb : f.get t = some (.bool b)) (h1 : b = true → WQ P n l0 l C K ((t, .bool true) :: f)) (h2 : b = false → WQ P n l0 l C K ((t, .bool false) :: f)) : WQ P n l0 l C K f := by
  cases b
  · exact fun a w ha => h2 rfl a w (ha.sub_set hb)
  · exact fun a w ha => h1 rfl a w (ha.sub_set hb)
theorem WQ.call {o : Oper} {t : Nat} {k : FuncId} {xs : List Operand} {vs : List Value} {ts : Array TypeId} {v : Value} (ho : o.op = .call { callee := .value (.func k), args := ⟨xs⟩, argTypes := ts })
    (hc : ∀ (args : Array Value) (w : World), (callFunc k args).run P w = .ok (.enter k args) w)
    (hx : xs.map f.ev = vs.map some) (hR : ∀ h, C h → CallsH P k ⟨vs⟩ h (fun u h' => u = v ∧ C h')) (hg : goes f l0 o = true) (hd : o.dst = some t) (ht : Nat.blt t n.n = true) (hk : WQ P n l0 rest C K ((t, v) :: f)) : WQ P n l0 (o :: rest) C K f := by
  intro a w0 ha
  refine wpQuiet_step fun K' hK' => ?_
  rw [if_pos (goes_wanted ha hg)]
  have hargs : xs.map a.eval = vs := by
    clear ho hR
    induction xs generalizing vs with
    | nil => cases vs <;> simp_all
    | cons x xs ih =>
      cases vs with
      | nil => simp at hx
      | cons v vs =>
        simp only [List.map_cons, List.cons.injEq] at hx ⊢
        exact ⟨ha.agrees _ _ hx.1, ih hx.2⟩
  refine ⟨v, fun w hw => ?_, ?_⟩
  · unfold Oper.quietAt
    have e2 : Array.map a.eval ⟨xs⟩ = ⟨vs⟩ := by rw [← hargs]; simp
    have hrun : (execOp a.eval o).run P w = .ok (.enter k ⟨vs⟩) w := by
      simp [execOp, ho, resolve, Deferred.ofValue, invoke, Act.eval, e2, hc]
    rw [hrun]
    refine ⟨rfl, (hR _ hw.2 w rfl).mono ?_⟩
    rintro e w' ⟨hs, u, he, hu, hc'⟩
    exact ⟨by rw [he, hu], hw.1.trans hs, hc'⟩
  · rw [hd]; exact hK' _ (hk _ w0 (ha.put ht _))
end
end Go.RK
