/-
  A ROW THAT LISTS VARIABLES, THE WORLD's SHAPE KEPT: what the lift of such a row asks. No program is named here.
-/
import Derived.Test.YtkpgnhhidnkmcaaGreatDoorK8
import Derived.HandedShaped
import Derived.Handed
import Derived.Scope
import Derived.Test.YtkpgnhhidnkmcaaGreatDoorK6
namespace Go.RK
open Go
variable {H : Type} {enc : TypeId × Value → H}

theorem returnsInHanded_both {a : Assume} {C : Checked} {os : Os} {f : FuncId} {fn : Func} {s : ChangeSpec} {conds : List PathCond} {apart fresh handsOn again : Bool} {X : World → Array Value → Prop}
    (own : ownKnob C.prog.godebug = none) (started : os.Started) (noInit : C.prog.inits.idxOf? f = none) (hfn : C.prog.funcs[f]? = some fn)
    (witness : ∃ (w : World) (tape : Tape) (i : Input), w.os = os ∧ (w.forCall tape i).Shaped C.prog ∧ i.vars = [] ∧ Input.okWide C.prog (w.forCall tape i) .any w.heap.size f i ∧
      ((s.pre enc C.prog fn conds apart (w.forCall tape i).memory i.args ∧ X (w.forCall tape i).memory i.args) ∧ sizedMet enc C.prog fn (OpenSpec.ofChange s) apart (w.forCall tape i).memory i.args) ∧ a.holds C.prog (lone (Frame.enter C.prog f i.args .normal) [] (w.forCall tape i)))
    (contract : ∀ (W : World) (base : Nat) (args : Array Value) (ds gs : List (DataW H)) (before : List MemPlace),
      (∀ (j : Nat) t v, fn.params[j]? = some t → args[j]? = some v → Value.okWide C.prog W .any base t v) →
      DataW.Whole enc C.prog fn.params.toList s.vars apart W args.toList ds gs before →
      conds.all (PathCond.test C.prog ⟨fn.params.toList, ds, s.plain.varTypes C.prog, gs⟩) = true →
      (DataW.weightsEach C.prog (fn.params.toList ++ s.plain.varTypes C.prog) (ds ++ gs)).all (· ≤ reachBytes) = true →
      W.ShapedOpen C.prog →
      Calls C.prog f args W fun e W' => ∃ v, e = .returned v ∧ s.post enc C.prog fn apart fresh handsOn again W args v W') :
    ReturnsInHanded a C os f .any (fun w args => (s.pre enc C.prog fn conds apart w args ∧ X w args) ∧ sizedMet enc C.prog fn (OpenSpec.ofChange s) apart w args) (s.post enc C.prog fn apart fresh handsOn again) := by
  refine returnsInHanded_of_calls own started noInit witness ?_
  intro w tape i _ hsh _ hok hpre _
  obtain ⟨_, _, _, fn', hfn', _, _, _, _, hval⟩ := hok
  have e : fn' = fn := Option.some.inj (hfn'.symm.trans hfn)
  subst e
  obtain ⟨⟨⟨ds, gs, before, hw, hc⟩, _⟩, hz⟩ := hpre
  have hw' := DataW.Whole.of_heap (w' := w.forCall tape i) (by rfl) hw
  refine (contract (w.forCall tape i) w.heap.size i.args ds gs before hval hw' hc (hz.weights hw) hsh).mono fun e W' ⟨v, he, hp⟩ => ?_
  subst he
  exact ChangeSpec.post_blind hp

/-! ### a scope through which no goto goes -/
def scopeP (Q : Post) : Post
  | .goto _, _, _ => False
  | e, f, h => Q e f h
section
variable {P : Program} {n : Env} {Q : Post} {f : Fr} {h : Heap}
theorem WC.scope {c : Code} (hc : WC P n c (scopeP Q) f h) (hro : n.ro = Option.none := by rfl) : WC P n (.scope c) Q f h := fun a w ha hw => by
  obtain ⟨m, ds, ro⟩ := n
  obtain rfl : ro = Option.none := hro
  exact wpIn_wide.2 (wp_scope_straight (Go.wp_mono (wpIn_wide.1 (hc a w ha hw)) fun e _ _ ⟨hl, hs, g, hg, q⟩ => by
    cases e <;> first | exact ⟨hl, hs, g, hg, q⟩ | exact q.elim))
theorem scopeP_n (hq : Q .normal f h) : scopeP Q .normal f h := hq
theorem scopeP_x {i : Nat} (hq : Q (.exit i) f h) : scopeP Q (.exit i) f h := hq
theorem scopeP_r (hq : Q .ret f h) : scopeP Q .ret f h := hq
end
end Go.RK
