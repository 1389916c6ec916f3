/-
  RULES AS THE PRINTED WALKS USE THEM: each turn of the heap gives a new heap of which facts are told. No program is named here.
-/
import Derived.Test.YtkpgnhhidnkmcaaGreatDoorK6
namespace Go.RK
open Go

section
variable {P : Program} {n : Env} {Q : Post} {f : Fr} {h : Heap} {l0 rest : List Oper} {K : Fr → Prop}
theorem WC.drawE {id : Nat} {l : List Oper} (hm : P.follows .mixedOrders = true) (hB : Region.lexB .any l.toArray = true)
    (hq : WQ P n l l (fun h' => h' = h) (fun g => Q .normal g h) f) (hd : n.ro = Option.none ∨ noDef l = true := by first | exact .inl rfl | exact .inr rfl) : WC P n (.region id l.toArray true) Q f h :=
  .draw (fun h' => h' = h) hm hB rfl (hd := hd) (fun a w0 ha => wpQuiet_mono (fun _ ⟨g, hg, hk⟩ => ⟨g, hg, fun h' e => by subst e; exact hk⟩) _ _ (hq a w0 ha))
theorem WQ.stepE {o : Oper} {v : Value} {t : Nat} (hok : OkP P f o h v) (hg : goes f l0 o = true) (hd : o.dst = some t) (ht : Nat.blt t n.n = true) (hk : WQ P n l0 rest (fun h' => h' = h) K ((t, v) :: f)) : WQ P n l0 (o :: rest) (fun h' => h' = h) K f :=
  .step (fun h' e => by subst e; exact hok) hg hd ht hk
theorem WQ.callE {o : Oper} {t : Nat} {k : FuncId} {xs : List Operand} {vs : List Value} {ts : Array TypeId} {v : Value} (ho : o.op = .call { callee := .value (.func k), args := ⟨xs⟩, argTypes := ts })
    (hc : ∀ (args : Array Value) (w : World), (callFunc k args).run P w = .ok (.enter k args) w)
    (hx : xs.map f.ev = vs.map some) (hR : CallsH P k ⟨vs⟩ h (fun u h' => u = v ∧ h' = h)) (hg : goes f l0 o = true) (hd : o.dst = some t) (ht : Nat.blt t n.n = true) (hk : WQ P n l0 rest (fun h' => h' = h) K ((t, v) :: f)) : WQ P n l0 (o :: rest) (fun h' => h' = h) K f :=
  .call ho hc hx (fun h' e => by subst e; exact hR) hg hd ht hk
end

theorem nt {b : Bool} (h : (!b) = true) : b = false := by simpa using h
theorem nf {b : Bool} (h : (!b) = false) : b = true := by simpa using h
section
variable {P : Program} {f : Fr} {h : Heap} {d : Option Tmp} {ty : TypeId} {pos : String} {af : Array Edge} {g : Option (Nat × Bool)}
theorem OkR.mono {o : Oper} {R R' : Value → Heap → Prop} (ho : OkR P f o h R) (hr : ∀ v h', R v h' → R' v h') : OkR P f o h R' := fun ρ w ha hw => by
  obtain ⟨v, w', hs, hR, hrun⟩ := ho ρ w ha hw
  exact ⟨v, w', hs, hr _ _ hR, hrun⟩
/-- A new block: it lies behind all that were there. -/
def New (h : Heap) (o : Obj) (b : Nat) (h' : Heap) : Prop := h.size ≤ b ∧ h'[b]? = some o ∧ Ext No h h'
theorem new_push (h : Heap) (o : Obj) : New h o h.size (h.push o) := ⟨Nat.le_refl _, push_new h o, .push _ h o⟩
theorem okE_alloc {t : TypeId} {z : Value} (hz : ∀ w, (zeroValue t).run P w = .ok z w) :
    OkR P f ⟨d, .alloc t, ty, pos, af, g⟩ h (fun u h' => ∃ b, u = .pointer (some ⟨b, 0, Option.none⟩) ∧ New h (.cells z.cells t (0, 0)) b h') :=
  (ok_alloc hz).mono fun _ _ ⟨hv, hh⟩ => ⟨_, hv, hh ▸ new_push _ _⟩
theorem okE_box {t : TypeId} {x : Operand} {v : Value} (hx : f.ev x = some v) :
    OkR P f ⟨d, .box t x, ty, pos, af, g⟩ h (fun u h' => ∃ b, u = .pointer (some ⟨b, 0, Option.none⟩) ∧ New h (.cells v.cells t (0, 0)) b h') :=
  (ok_box hx).mono fun _ _ ⟨hv, hh⟩ => ⟨_, hv, hh ▸ new_push _ _⟩
theorem okE_makeMap {t : TypeId} :
    OkR P f ⟨d, .makeMap t Option.none, ty, pos, af, g⟩ h (fun u h' => ∃ b, u = .map (some b) ∧ New h (.map #[] 0) b h') :=
  ok_makeMap.mono fun _ _ ⟨hv, hh⟩ => ⟨_, hv, hh ▸ new_push _ _⟩
theorem okE_store {t : TypeId} {x y : Operand} {b o : Nat} {cs : List Value} {e : TypeId} {v : Value} (hz : ∀ w, (sizeOf t).run P w = .ok 1 w) (hx : f.ev x = some (.pointer (some ⟨b, o, Option.none⟩))) (hy : f.ev y = some v)
    (hb : h[b]? = some (.cells ⟨cs⟩ e (0, 0))) (ho : o < cs.length) (hv : v.oneCell' = true) (hv1 : v.cells = #[v]) :
    OkR P f ⟨d, .store t x y, ty, pos, af, g⟩ h (fun _ h' => h'[b]? = some (.cells ⟨cs.set o v⟩ e (0, 0)) ∧ Ext (fun k => k = b) h h') :=
  (ok_store hz hx hy hb ho hv hv1).mono fun _ _ ⟨_, hh⟩ => hh ▸ ⟨set_new hb, .set _ _ _ rfl⟩
theorem okE_storeN {t : TypeId} {x y : Operand} {b o k : Nat} {cs vs : List Value} {e : TypeId} (hz : ∀ w, (sizeOf t).run P w = .ok k w) (hx : f.ev x = some (.pointer (some ⟨b, o, Option.none⟩))) (hy : f.ev y = some (.agg ⟨vs⟩))
    (hk : vs.length = k) (hb : h[b]? = some (.cells ⟨cs⟩ e (0, 0))) (ho : o + vs.length ≤ cs.length) (hv : ∀ v ∈ vs, v.oneCell' = true) :
    OkR P f ⟨d, .store t x y, ty, pos, af, g⟩ h (fun _ h' => h'[b]? = some (.cells ⟨cs.take o ++ vs ++ cs.drop (o + vs.length)⟩ e (0, 0)) ∧ Ext (fun k => k = b) h h') :=
  (ok_storeN hz hx hy hk hb ho hv).mono fun _ _ ⟨_, hh⟩ => hh ▸ ⟨set_new hb, .set _ _ _ rfl⟩
/-- A struct stored whole into the block that holds just it. -/
theorem okE_storeW {t : TypeId} {x y : Operand} {b k : Nat} {cs vs : List Value} {e : TypeId} (hz : ∀ w, (sizeOf t).run P w = .ok k w) (hx : f.ev x = some (.pointer (some ⟨b, 0, Option.none⟩))) (hy : f.ev y = some (.agg ⟨vs⟩))
    (hk : vs.length = k) (hb : h[b]? = some (.cells ⟨cs⟩ e (0, 0))) (ho : cs.length = k) (hv : ∀ v ∈ vs, v.oneCell' = true) :
    OkR P f ⟨d, .store t x y, ty, pos, af, g⟩ h (fun _ h' => h'[b]? = some (.cells ⟨vs⟩ e (0, 0)) ∧ Ext (fun k => k = b) h h') :=
  (okE_storeN hz hx hy hk hb (by omega) hv).mono fun _ _ ⟨h1, h2⟩ => ⟨by rw [h1]; simp [hk, ho], h2⟩
theorem ok_buildF {t : TypeId} {ps : List (Nat × Operand)} {vs cs : List Value} (F : List Value → List Value) (hp : ps.map (fun p => f.ev p.2) = vs.map some) (_hcs : cs = F vs) (hb : P.built t ((ps.map (·.1)).zip vs) = some ⟨cs⟩) :
    OkP P f ⟨d, .build t ⟨ps⟩, ty, pos, af, g⟩ h (.agg ⟨cs⟩) := by
  refine ok_build (qs := (ps.map (·.1)).zip vs) ?_ hb
  clear hb _hcs
  induction ps generalizing vs with
  | nil => cases vs <;> simp_all
  | cons p ps ih =>
    cases vs with
    | nil => simp at hp
    | cons v vs =>
      simp only [List.map_cons, List.cons.injEq] at hp
      simp only [List.map_cons, List.zip_cons_cons, List.cons.injEq, Prod.mk.injEq, true_and]
      exact ⟨hp.1, ih hp.2⟩
/-- The cells of a slice literal. -/
def bsl (P : Program) (e : TypeId) (len : Nat) (parts : List (Nat × Value)) : Option (Array Value) :=
  match P.info? e with
  | some ie => match ie.zero with
    | some z => if len * ie.size > 2 ^ 24 then Option.none else
      Instr.fill (fun i => some (i * ie.size, ie.size)) ((Array.range (len * ie.size)).map ((if len * ie.size = 0 then #[] else z.cells)[· % (if len * ie.size = 0 then #[] else z.cells).size]!)) parts
    | Option.none => Option.none
  | Option.none => Option.none
theorem okE_buildSlice {t e len : Nat} {ps : List (Nat × Operand)} {vs cs : List Value} (F : List Value → List Value) (hu : P.underlying t = some (.slice e)) (hp : ps.map (fun p => f.ev p.2) = vs.map some) (_hcs : cs = F vs) (hb : bsl P e len ((ps.map (·.1)).zip vs) = some ⟨cs⟩) :
    OkR P f ⟨d, .buildSlice t len ⟨ps⟩, ty, pos, af, g⟩ h (fun u h' => ∃ b, u = .slice (some ⟨b, 0, Option.none⟩) len len ∧ New h (.cells ⟨cs⟩ e (0, 0)) b h') := by
  intro ρ w ha hw
  subst hw
  have hps : ps.map (fun p => (p.1, ρ p.2)) = (ps.map (·.1)).zip vs := by
    clear hb _hcs
    induction ps generalizing vs with
    | nil => cases vs <;> simp_all
    | cons p ps ih =>
      cases vs with
      | nil => simp at hp
      | cons v vs =>
        simp only [List.map_cons, List.cons.injEq] at hp
        simp only [List.map_cons, List.zip_cons_cons, List.cons.injEq, Prod.mk.injEq, true_and]
        exact ⟨ha _ _ hp.1, ih hp.2⟩
  have e2 : (Array.map (fun x : Nat × Operand => (x.fst, ρ x.snd)) ⟨ps⟩).toList = (ps.map (·.1)).zip vs := by simp [hps]
  unfold bsl at hb
  cases hi : P.info? e with
  | none => rw [hi] at hb; cases hb
  | some ie =>
    rw [hi] at hb
    simp only at hb
    cases hz : ie.zero with
    | none => rw [hz] at hb; cases hb
    | some z =>
      rw [hz] at hb
      simp only at hb
      by_cases hs : len * ie.size > 2 ^ 24
      · rw [if_pos hs] at hb; cases hb
      · rw [if_neg hs] at hb
        refine ⟨_, w.alloc (.cells ⟨cs⟩ e (0, 0)), ⟨rfl, rfl, rfl, trivial⟩, ⟨w.heap.size, rfl, new_push _ _⟩, .inl ?_⟩
        have hsz : ∀ w, (sizeOf e).run P w = .ok ie.size w := fun w => by simp [sizeOf, typeInfo, hi]
        have hzv : ∀ w, (zeroValue e).run P w = .ok z w := fun w => by simp [zeroValue, typeInfo, hi, hz]
        by_cases h0 : len * ie.size = 0
        · simp only [if_pos h0] at hb
          simp only [execOp, Instr.buildSlice, run_underlying hu, hsz, if_neg hs, if_pos h0, Sem.run_bind, Sem.run_pure, Result.andThen_ok]
          rw [e2, hb]
          simp [newRow, newObj, Sem.run]
        · simp only [if_neg h0] at hb
          simp only [execOp, Instr.buildSlice, run_underlying hu, hsz, hzv, if_neg hs, if_neg h0, Sem.run_bind, Sem.run_pure, Result.andThen_ok]
          rw [e2, hb]
          simp [newRow, newObj, Sem.run]
theorem rd_blk {b len sz : Nat} {cs : List Value} {e : TypeId} {z : Nat × Nat} (hb : h[b]? = some (.cells ⟨cs⟩ e z)) (hl : cs.length = len * sz) : Rd h (.slice (some ⟨b, 0, Option.none⟩) len len) sz len cs :=
  ⟨_, _, rfl, Nat.le_refl _, hl, fun _ => ⟨b, 0, rfl, lt_of_some hb, At.of_block hb⟩⟩
theorem own_blk {b len sz : Nat} {cs : List Value} {e : TypeId} (hb : h[b]? = some (.cells ⟨cs⟩ e (0, 0))) (hl : cs.length = len * sz) (hm : len ≤ maxLen) : Own h (.slice (some ⟨b, 0, Option.none⟩) len len) e sz len cs :=
  ⟨hl, .inr ⟨b, len, ⟨cs⟩, rfl, hb, Nat.le_refl _, hm, by simpa using hl, by simp [← hl]⟩⟩
theorem CallsH.as {k : FuncId} {args : Array Value} {v v' : Value} (hc : CallsH P k args h (fun u h' => u = v ∧ h' = h)) (e : v = v') : CallsH P k args h (fun u h' => u = v' ∧ h' = h) := hc.mono fun _ _ p => ⟨p.1.trans e, p.2⟩
theorem cell_blk {b o : Nat} {cs : List Value} {t : TypeId} {z : Nat × Nat} {v : Value} (hb : h[b]? = some (.cells ⟨cs⟩ t z)) (hv : cs[o]? = some v) : cell h ⟨b, o, Option.none⟩ = some v := by
  rw [cell_of hb]; simpa using hv
theorem Ext.blk {S : Nat → Prop} {h' : Heap} (a : Ext S h h') {b : Nat} {o : Obj} (hb : h[b]? = some o) (hS : ¬ S b) : h'[b]? = some o := a.obj hb hS
end
end Go.RK
