/-
  SEVERAL TEXTS IN ONE: E15, E16, E17, E18, E19, E21, E22, E23, E24, Base, Inst, Shelf, Sl, Pred, Del, K16, IxB, Ln40, Cell, Back, K17, BkChk, BkChk2, Ev, EntO, BkO, BkS.
-/
import Derived.Test.YtinjbljnbiiloaaGreatDoorPLinkNobody2
import Derived.Lib.IndexAny
import Derived.Lib.IndexLaws
import Derived.KernelRfl
import Derived.Test.YtinjbljnbiiloaaGreatDoorChecked
import Derived.Shelf.Small.Strs
import Derived.Shelf.Bytes.IndexByte
import Derived.Shelf.Strings.Search1
import Derived.Test.YtinjbljnbiiloaaGreatDoorProg
import Derived.ChangeKeysEq
/-
  AN EVALUATOR THAT IS PROVED, 15: ranges over functions, rounds. No program is named here.
-/
namespace Go.RK
open Go
variable [Opq]

noncomputable def exitOf : Ou → Exit
  | .normal => .normal
  | .ret => .ret
  | .exit i => .exit i
  | .goto l => .goto l
/-- What is left, told from the start σ, A, h. -/
noncomputable def PoE (N0 : Nat) (σ : Sg) (A : Hp) (h : Heap) (o : Ou) (f' : Tv) (A' : Hp) : List Nat → Post := fun Ds' e g' h' => e = exitOf o ∧ ∃ σ', Stp σ A h σ' A' h' ∧ FrL σ' f' g' ∧ DsOk N0 σ' A' h' Ds'
noncomputable def ExOk (P : Program) (m : Nat) (ro : Option Nat) (ex : ExecE) : Prop := ∀ c f A o f' A', ex c f A = some (o, f', A') → ∀ (σ : Sg) (g : Fr) (h : Heap) (N0 : Nat) (Ds : List Nat), FrL σ f g → HR σ A h → DsOk N0 σ A h Ds → N0 ≤ h.size → WE P m ro Ds c (PoE N0 σ A h o f' A') g h
/-- Functions with a body are entered. -/
noncomputable def EnOk (P : Program) : Prop := ∀ k, bodyB P k = true → ∀ (args : Array Value) (w : World), (callFunc k args).run P w = .ok (.enter k args) w

section
variable {σ : Sg} {A A' : Hp} {h h' : Heap}
/-- A block of which the evaluator no longer wants to know. -/
theorem Stp.kill (k : HR σ A h) {β : Nat} {o : AO} {p : Pl} (hβ : A.t.get β = some o) (hp : σ β = some p) (e : A.kill β = some A') (x : Ext (fun b => b = p.b) h h') : Stp σ A h σ A' h' := by
  unfold Hp.kill at e
  cases hpr : A.pr.contains β with
  | true => rw [hpr] at e; cases e
  | false =>
    rw [hpr] at e
    simp only [cond_false, Option.some.injEq] at e
    subst e
    have key : ∀ γ r, (A.t.cut β).get γ = some r → γ ≠ β ∧ A.t.get γ = some r := fun γ r e => by
      rw [Tx.get_cut] at e
      by_cases hb2 : γ = β
      · rw [if_pos hb2] at e; cases e
      · rw [if_neg hb2] at e; exact ⟨hb2, e⟩
    have hwr : Wr σ A p.b := ⟨β, o, p, hβ, hpr, hp, rfl⟩
    refine ⟨.refl σ, ⟨fun γ r e => ?_, fun γ γ' o1 o2 p1 p2 e1 e2 s1 s2 hb => k.inj _ _ _ _ _ _ (key _ _ e1).2 (key _ _ e2).2 s1 s2 hb, k.dom, fun γ r e => Nat.lt_of_lt_of_le (k.ltb γ r e) x.size, k.base hp x, k.low⟩, rfl, x.size,
      fun b hb hw => x.keep b hb (fun e => hw (e ▸ hwr)), fun b hb ⟨γ, r, s, e, hpr', hs, hsb⟩ => ⟨γ, r, s, (key _ _ e).2, hpr', hs, hsb⟩, fun b hb ⟨γ, r, s, e, hs, hsb⟩ => ⟨γ, r, s, (key _ _ e).2, hs, hsb⟩, fun γ _ hγ => ?_, Nat.le_refl _⟩
    · obtain ⟨h1, h2⟩ := key γ r e
      obtain ⟨s, h3, h4⟩ := k.obj γ r h2
      exact ⟨s, h3, h4.keep (x.keep _ h4.lt (fun e' => h1 (k.inj _ _ _ _ _ _ h2 hβ h3 hp e')))⟩
    · simp only
      rw [Tx.get_cut, if_neg (fun e => by rw [e, hpr] at hγ; cases hγ)]
end

section
variable {P : Program} {m : Nat}
theorem WE.rangeE {C : CallE} (hC : COk P C) (hEn : EnOk P) {x : Operand} {ps : List Nat} {ag bd : Code} {k : Nat} {lb : List Value} {f : Tv} {g : Fr} {σ : Sg} {A A2 A3 : Hp} {v0 : Value} {st : Nat} {fm : Tv} {ps' : List Nat} {as' bd' : Code} {pend : Ex} {m' : Nat} {h : Heap} {N0 : Nat} {Ds : List Nat}
    (hx : evE f x = some (.func (.func k) ⟨[]⟩ ⟨lb⟩)) (hbd : bodyB P k = true) (hc : C k (.func (.yield A.nx) ⟨[]⟩ ⟨[]⟩ :: lb) (A.new (.loop 0 f ps ag bd .normal m)) = some (v0, A2)) (hg : A2.t.get A.nx = some (.loop st fm ps' as' bd' pend m')) (hst : Nat.beq st 1 = false) (hk3 : A2.kill A.nx = some A3)
    (hf : FrL σ f g) (hk : HR σ A h) (hd : DsOk N0 σ A h Ds) (hN0 : N0 ≤ h.size) : WE P m Option.none Ds (.rangeFunc x ⟨ps⟩ ag bd) (PoE N0 σ A h (ouOf pend) f A3) g h := by
  intro a w ha hw
  subst hw
  refine wpIn_rangeFunc fun fn _ => ?_
  obtain ⟨u, hgx, hvx⟩ := hf.ev hx
  cases hvx with
  | @func _ _ _ us0 lb' hn h0 hlb =>
  cases h0
  have hev : a.eval x = .func (.func k) #[] ⟨lb'⟩ := ha.agrees _ _ hgx
  let rec0 : Loop := { state := .ready, pending := Option.none, fn, tmps := a.tmps, params := ⟨ps⟩, assign := ag, body := bd, defers := w.heap.size }
  let w1 : World := (w.alloc (.deferred (some []))).alloc (.loop rec0)
  have hw1 : w1.heap = (w.heap.push (.deferred (some []))).push (.loop rec0) := rfl
  have hx1 : Ext No w.heap w1.heap := (Ext.push No _ _).trans (Ext.push No _ _)
  have hsz1 : w1.heap.size = w.heap.size + 2 := by rw [hw1]; simp
  have hsame1 : Same w w1 := ⟨rfl, rfl, rfl, Nat.le_refl _⟩
  have hl1 : w1.heap[w.heap.size + 1]? = some (.loop rec0) := by
    rw [hw1]; have := push_new (w.heap.push (.deferred (some []))) (.loop rec0); simpa using this
  have hD1 : open_ w1.heap w.heap.size := by
    have := push_new w.heap (.deferred (some []))
    exact (Ext.push No _ _).obj this id
  let p1 : Pl := ⟨w.heap.size + 1, 0, 0⟩
  have hs1 : Stp σ A w.heap (RK.upd σ A.nx p1) (A.new (.loop 0 f ps ag bd .normal m)) w1.heap := .new hk hx1 (Nat.le_succ _) ⟨a.tmps, ha.size, ⟨w.heap.size, fn, hl1⟩, fun t v e => by
    obtain ⟨u, h1, h2⟩ := hf t v e
    exact ⟨u, ha.at_ _ _ h1, h2.mono (hk.le_upd _)⟩⟩
  have hcv := hC _ _ _ _ _ hc (RK.upd σ A.nx p1) (.func (.yield (w.heap.size + 1)) #[] #[] :: lb') w1.heap (.cons (.yield (upd_new σ A.nx p1)) (hlb.mono (hk.le_upd _))) hs1.hr
  have hrun : ∀ w', (callFunc k ⟨.func (.yield (w.heap.size + 1)) #[] #[] :: lb'⟩).run P w' = .ok (.enter k ⟨.func (.yield (w.heap.size + 1)) #[] #[] :: lb'⟩) w' := fun w' => hEn k hbd _ w'
  have hcall : CallsH P k ⟨.func (.yield (w.heap.size + 1)) #[] #[] :: lb'⟩ w1.heap fun u h' => ∃ σ', Stp (RK.upd σ A.nx p1) (A.new (.loop 0 f ps ag bd .normal m)) w1.heap σ' A2 h' ∧ Va σ' v0 u := by
    rcases hcv with h1 | ⟨_, h1⟩
    · obtain ⟨u, w', _, _, h2⟩ := h1 w1 rfl
      rw [hrun] at h2
      cases h2
    · exact h1
  refine ⟨w.heap.size + 1, [dmark w.heap.size], w1, ⟨.fn (.func k) ⟨lb'⟩, #[.func (.yield (w.heap.size + 1)) #[] #[]]⟩, w1, k, ⟨.func (.yield (w.heap.size + 1)) #[] #[] :: lb'⟩, w1, run_enterLoop_outer _ _ _ _ _, ?_, fun _ _ => trivial, ?_, fun e => (by cases e), ?_⟩
  · show (Deferred.ofValue (a.eval x) (Array.map a.eval #[.const (.func (.yield (w.heap.size + 1)) #[] #[])])).run P w1 = _
    rw [hev]
    simp [Deferred.ofValue, Act.eval]
  · show (callFunc k (#[Value.func (.yield (w.heap.size + 1)) #[] #[]] ++ (⟨lb'⟩ : Array Value))).run P w1 = _
    rw [show (#[Value.func (.yield (w.heap.size + 1)) #[] #[]] ++ (⟨lb'⟩ : Array Value)) = ⟨.func (.yield (w.heap.size + 1)) #[] #[] :: lb'⟩ by simp]
    exact hrun _
  refine (calls_wide (hcall w1 rfl)).mono ?_
  rintro e w3 ⟨hs3, v, rfl, σ2, hs2, _⟩
  show ∃ jump w₄, _
  obtain ⟨p, hp, tmps, htm, ⟨D, fn', hl3⟩, hfr⟩ := hs2.hr.obj _ _ hg
  have hp' : σ2 A.nx = some p1 := hs2.le _ _ (upd_new σ A.nx p1)
  rw [hp] at hp'
  injection hp' with hp'
  subst hp'
  have hbusy : stE st ≠ .busy := fun e => by
    match st with
    | 0 => cases e
    | 1 => cases hst
    | (n + 2) => cases e
  refine ⟨_, _, run_endLoop hl3 hbusy, ?_⟩
  have hx4 : ∀ ob, Ext (fun b => b = p1.b) w3.heap (w3.putObj p1.b ob).heap := fun ob => .set _ _ _ rfl
  have hs4 : Stp σ A w.heap σ2 A3 (w3.putObj p1.b (.loop { state := .exhausted, pending := jumpE pend, fn := fn', tmps, params := ⟨ps'⟩, assign := as', body := bd', defers := D })).heap := (hs1.trans hs2).trans (.kill hs2.hr hg hp hk3 (hx4 _))
  have hf4 : FrL σ2 f g := hf.mono (hs1.le.trans hs2.le)
  have hsm4 : Same w (w3.putObj p1.b (.loop { state := .exhausted, pending := jumpE pend, fn := fn', tmps, params := ⟨ps'⟩, assign := as', body := bd', defers := D })) := hsame1.trans (hs3.trans ⟨rfl, rfl, rfl, Nat.le_refl _⟩)
  have hnl : ¬ Lv (RK.upd σ A.nx p1) (A.new (.loop 0 f ps ag bd .normal m)) w.heap.size := by
    rintro ⟨β, o, q, e1, e2, e3⟩
    simp only [Hp.new] at e1
    rw [Tx.get_set] at e1
    by_cases hβ : β = A.nx
    · subst hβ
      rw [upd_new] at e2
      injection e2 with e2
      subst e2
      have : w.heap.size + 1 = w.heap.size := e3
      omega
    · rw [show RK.upd σ A.nx p1 β = σ β from if_neg hβ] at e2
      have := hk.ltb β q e2
      omega
  have hd4 : DsOk N0 σ2 A3 (w3.putObj p1.b (.loop { state := .exhausted, pending := jumpE pend, fn := fn', tmps, params := ⟨ps'⟩, assign := as', body := bd', defers := D })).heap (w.heap.size :: Ds) := by
    have h1 := (hd.step hs1).step hs2
    have h2 : DsOk N0 σ2 A2 w3.heap (w.heap.size :: Ds) := by
      have h3 : DsOk N0 (RK.upd σ A.nx p1) (A.new (.loop 0 f ps ag bd .normal m)) w1.heap (w.heap.size :: Ds) := by
        refine ⟨List.nodup_cons.2 ⟨fun hm => ?_, hd.1⟩, fun D' hD' => ?_⟩
        · have := lt_of_some (hd.2 _ hm).1
          omega
        · rcases List.mem_cons.1 hD' with rfl | hD'
          · exact ⟨hD1, hnl, hN0⟩
          · exact (hd.step hs1).2 D' hD'
      exact h3.step hs2
    exact h2.step (.kill hs2.hr hg hp hk3 (hx4 _))
  have hrep : Rep ⟨m, (w.heap.size :: Ds).map dmark, Option.none⟩ { a with defers := [dmark w.heap.size] ++ a.defers } g := ⟨ha.size, by simp [ha.defers], ha.at_⟩
  cases pend with
  | normal => exact ⟨rfl, hsm4, w.heap.size :: Ds, g, hrep, rfl, σ2, hs4, hf4, hd4⟩
  | ret => exact wpIn_ret ⟨rfl, hsm4, w.heap.size :: Ds, g, hrep, rfl, σ2, hs4, hf4, hd4⟩
  | exit i => exact wpIn_exit ⟨rfl, hsm4, w.heap.size :: Ds, g, hrep, rfl, σ2, hs4, hf4, hd4⟩

/-! ### rounds -/
theorem zipT_fr {σ : Sg} : ∀ {ps : List Nat} {vs us : List Value} {f : Tv} {g : Fr}, VaL σ vs us → FrL σ f g → FrL σ (zipT ps vs f) (zipF ps us g)
  | [], vs, us, f, g, _, hf => by cases vs <;> cases us <;> exact hf
  | p :: ps, _, _, f, g, .nil, hf => hf
  | p :: ps, _, _, f, g, .cons h t, hf => zipT_fr (ps := ps) t (hf.set h p)
/-- A frame that is known whole. -/
noncomputable def allF (tmps : Array Value) : Fr := tmps.toList.zipIdx.map fun p => (p.2, p.1)
omit [Opq] in
theorem allF_get (tmps : Array Value) (t : Nat) : (allF tmps).get t = tmps[t]? := by
  have key : ∀ (l : List Value) (k t : Nat), Fr.get ((l.zipIdx k).map fun p => (p.2, p.1)) t = if k ≤ t then l[t - k]? else Option.none := fun l => by
    induction l with
    | nil => intro k t; simp [Fr.get]
    | cons v l ih =>
      intro k t
      rw [List.zipIdx_cons, List.map_cons, Fr.get_cons, ih]
      by_cases e : k = t
      · subst e; simp
      · rw [if_neg e]
        by_cases h1 : k ≤ t
        · rw [if_pos (by omega), if_pos h1]
          have : t - k = (t - (k + 1)) + 1 := by omega
          rw [this]
          simp
        · rw [if_neg (by omega), if_neg h1]
  unfold allF
  rw [key]
  simp
theorem yld_ok {ex : Nat → ExecE} (hE : ∀ m l, ExOk P m (some l) (ex m)) : YOk P (yldE ex) := fun β vs A b A' e σ us h p hp hv hk => by
  unfold yldE at e
  split at e
  case h_2 => cases e
  rename_i fm ps ag bd e0 m hg
  cases hb : (Nat.beq vs.length ps.length && ps.all (fun p => Nat.blt p m)) with
  | false => rw [hb] at e; cases e
  | true =>
  rw [hb] at e
  simp only [cond_true] at e
  simp only [Bool.and_eq_true] at hb
  have hlen : us.length = ps.length := by rw [hv.len]; exact Nat.eq_of_beq_eq_true hb.1
  have hlt : ∀ q ∈ ps, q < m := fun q hq => blt_lt (List.all_eq_true.1 hb.2 q hq)
  split at e
  case h_2 => cases e
  rename_i f1 A1 hx1
  split at e
  case h_2 => cases e
  rename_i fm1 ps1 as1 bd1 e1 m1 hg1
  split at e
  case h_2 => cases e
  rename_i A2 hu2
  split at e
  case h_2 => cases e
  rename_i ou f3 A3 hx3
  split at e
  case h_2 => cases e
  rename_i fm2 ps2 as2 bd2 e2 m2 hg3
  intro w hw
  subst hw
  obtain ⟨p', hp', tmps, htm, ⟨D, fn, hl⟩, hfr⟩ := hk.obj _ _ hg
  rw [hp] at hp'
  injection hp' with hp'
  subst hp'
  refine ⟨fn, _, ag, bd, run_yield hl (by simpa using hlen), ?_⟩
  refine roundIn_of_wpIn trivial ?_
  have hrep : Rep ⟨m, ([] : List Nat).map dmark, some p.b⟩ { tmps := ((⟨ps⟩ : Array Tmp).zip ⟨us⟩).foldl (fun tmps (t, v) => tmps.setIfInBounds t v) tmps, defers := [] } (zipF ps us (allF tmps)) := by
    have := zip_rep (n := ⟨m, [], some p.b⟩) ps us { tmps, defers := [] } (allF tmps) ⟨htm, rfl, fun t v hv => by rw [allF_get] at hv; exact hv⟩ hlt
    simpa using this
  have hfl : FrL σ (zipT ps vs fm) (zipF ps us (allF tmps)) := zipT_fr hv fun t v ev => by
    obtain ⟨u, h1, h2⟩ := hfr t v ev
    exact ⟨u, by rw [allF_get]; exact h1, h2⟩
  have hnil : ∀ (σ : Sg) (A : Hp) (h : Heap), DsOk 0 σ A h [] := fun _ _ _ => ⟨List.nodup_nil, fun _ hD => by cases hD⟩
  refine wpIn_mono (hE m p.b _ _ _ _ _ _ hx1 σ _ w.heap 0 [] hfl hk (hnil _ _ _) (Nat.zero_le _) _ w hrep rfl) ?_
  rintro ex1 a1 w1 ⟨_, hsm1, Ds1, g1, hg1r, hex1, σ1, hs1, hf1, hd1⟩
  subst hex1
  have hDs1 : Ds1 = Ds1 := rfl
  show ∃ w₂, _
  obtain ⟨q1, hq1, tmps1, htm1, ⟨D1, fn1, hl1⟩, hfr1⟩ := hs1.hr.obj _ _ hg1
  have hq1' := hs1.le _ _ hp
  rw [hq1] at hq1'
  injection hq1' with hq1'
  subst hq1'
  refine ⟨_, run_beginRound hl1 rfl, ?_⟩
  have hx2 : ∀ ob, Ext (fun b => b = q1.b) w1.heap (w1.putObj q1.b ob).heap := fun ob => .set _ _ _ rfl
  have hs2 : Stp σ1 A1 w1.heap σ1 A2 (w1.putObj q1.b (.loop { state := .busy, pending := jumpE e1, fn := fn1, tmps := tmps1, params := ⟨ps1⟩, assign := as1, body := bd1, defers := D1 })).heap :=
    .upd hs1.hr hg1 hq1 hu2 (hx2 _) ⟨tmps1, htm1, ⟨D1, fn1, set_new hl1⟩, hfr1⟩
  refine wpIn_mono (hE m q1.b _ _ _ _ _ _ hx3 σ1 g1 _ 0 Ds1 hf1 hs2.hr (hd1.step hs2) (Nat.zero_le _) a1 _ hg1r rfl) ?_
  rintro ex3 a3 w3 ⟨_, hsm3, Ds3, g3, hg3r, hex3, σ3, hs3, hf3, hd3⟩
  subst hex3
  obtain ⟨q3, hq3, tmps3, htm3, ⟨D3, fn3, hl3⟩, hfr3⟩ := hs3.hr.obj _ _ hg3
  have hq3' := hs3.le _ _ hq1
  rw [hq3] at hq3'
  injection hq3' with hq3'
  subst hq3'
  have hx5 : ∀ ob, Ext (fun b => b = q3.b) w3.heap (w3.putObj q3.b ob).heap := fun ob => .set _ _ _ rfl
  have hsm : ∀ ob, Same w (w3.putObj q3.b ob) := fun ob => hsm1.trans ((⟨rfl, rfl, rfl, Nat.le_refl _⟩ : Same w1 (w1.putObj q3.b _)).trans (hsm3.trans ⟨rfl, rfl, rfl, Nat.le_refl _⟩))
  have fin : ∀ (st : Nat) (pend : Ex) (st' : LoopState) (pd : Option Code), stE st = st' → jumpE pend = pd → ∀ A4, A3.upd β (.loop st fm2 ps2 as2 bd2 pend m2) = some A4 → Stp σ A w.heap σ3 A4 (w3.putObj q3.b (.loop { state := st', pending := pd, fn := fn3, tmps := tmps3, params := ⟨ps2⟩, assign := as2, body := bd2, defers := D3 })).heap := fun st pend st' pd h1 h2 A4 hu => by
    subst h1
    subst h2
    exact ((hs1.trans hs2).trans hs3).trans (.upd hs3.hr hg3 hq3 hu (hx5 _) ⟨tmps3, htm3, ⟨D3, fn3, set_new hl3⟩, hfr3⟩)
  split at e
  · split at e
    · rename_i A4 hu4
      simp only [Option.some.injEq, Prod.mk.injEq] at e
      obtain ⟨rfl, rfl⟩ := e
      exact ⟨_, _, run_endRound Option.none hl3, hsm _, _, rfl, rfl, σ3, fin 0 .normal _ _ rfl rfl _ hu4⟩
    · cases e
  · split at e
    · rename_i A4 hu4
      simp only [Option.some.injEq, Prod.mk.injEq] at e
      obtain ⟨rfl, rfl⟩ := e
      exact ⟨_, _, run_endRound (some .ret) hl3, hsm _, _, rfl, rfl, σ3, fin 2 .ret _ _ rfl rfl _ hu4⟩
    · cases e
  · rename_i i _
    split at e
    · rename_i A4 hu4
      simp only [Option.some.injEq, Prod.mk.injEq] at e
      obtain ⟨rfl, rfl⟩ := e
      exact ⟨_, _, run_endRound (some (.exit i)) hl3, hsm _, _, rfl, rfl, σ3, fin 2 (.exit i) _ _ rfl rfl _ hu4⟩
    · cases e
  · cases e
end
end Go.RK

/-
  AN EVALUATOR THAT IS PROVED, 16: calls, code, runs. No program is named here.
-/
namespace Go.RK
open Go
variable [Opq]

section
variable {P : Program} {m : Nat}
theorem ld_var {f : Tv} {A : Hp} {t : TypeId} {x : Operand} {v : Value} {bs : List Nat} (e : ldE P f A t x = some (v, bs)) {σ : Sg} {g : Fr} {h : Heap} (hf : FrL σ f g) (hk : HR σ A h) :
    ∃ u a, g.ev x = some (.pointer (some a)) ∧ Va σ v u ∧ ∀ w : World, w.heap = h → (loadVar t a).run P w = .ok u w := by
  unfold ldE at e
  split at e
  case h_2 => cases e
  rename_i b o hx
  obtain ⟨u, h1, h2⟩ := hf.ev hx
  obtain ⟨p, h3, _, rfl⟩ := va_ptr h2
  have hev : evE f x = some (.pointer (some ⟨b, o, Option.none⟩)) := hx
  obtain ⟨u, hv, hok⟩ := ld_ok (P := P) (f := f) (A := A) (d := Option.none) (ty := 0) (pos := "") (af := #[]) (gd := Option.none) (t := t) (x := x) (v := v) (bs := bs) (by unfold ldE; rw [hev]; exact e) σ g h hf hk
  refine ⟨u, _, h1, hv, fun w hw => ?_⟩
  have hr := hok h (fun _ _ _ _ => rfl) (fun y => match g.ev y with | some u => u | Option.none => undef) w (fun y u hy => by simp only [hy]) hw
  simp only [execOp, h1, Instr.loadAt, Instr.sureAddr, Sem.run_bind, Sem.run_pure, Result.andThen_ok] at hr
  cases hl : (loadVar t ⟨p.b, p.o + o, Option.none⟩).run P w with
  | ok u' w' =>
    rw [hl] at hr
    simp only [Result.andThen_ok, Sem.run_pure, Result.ok.injEq, Next.value.injEq] at hr
    obtain ⟨rfl, rfl⟩ := hr
    rfl
  | halt q w' => rw [hl] at hr; cases hr

/-! ### calls -/
noncomputable def NOk (P : Program) (N : NatE) : Prop := ∀ k vs A v A', N k vs A = some (some (v, A')) → CallOk P k vs A v A'
omit [Opq] in
theorem argsE_get : ∀ (vs : List Value) (i : Nat) (f : Tv) (t : Nat), (argsE vs i f).get t = if i ≤ t ∧ t < i + vs.length then vs[t - i]? else f.get t
  | [], i, f, t => by
    rw [if_neg (by simp only [List.length_nil]; omega)]; rfl
  | v :: vs, i, f, t => by
    show (argsE vs (i + 1) (f.set i v)).get t = _
    rw [argsE_get vs (i + 1), Tv.get_set]
    simp only [List.length_cons]
    by_cases h1 : t = i
    · subst h1
      rw [if_neg (by omega), if_pos rfl, if_pos (by omega)]
      simp
    · by_cases h2 : i + 1 ≤ t ∧ t < i + 1 + vs.length
      · rw [if_pos h2, if_pos (by omega)]
        have : t - i = (t - (i + 1)) + 1 := by omega
        rw [this]
        simp
      · rw [if_neg h2, if_neg h1, if_neg (by omega)]
theorem argsE_fr {σ : Sg} {vs us : List Value} (h : VaL σ vs us) : FrL σ (argsE vs 0 .leaf) (allF ⟨us⟩) := fun t v e => by
  rw [argsE_get] at e
  by_cases h1 : 0 ≤ t ∧ t < 0 + vs.length
  · rw [if_pos h1] at e
    obtain ⟨u, h2, h3⟩ := h.get _ _ e
    exact ⟨u, by rw [allF_get]; simpa using h2, h3⟩
  · rw [if_neg h1] at e; rw [Tv.get_leaf] at e; cases e
omit [Opq] in
theorem argL_of {us : List Value} : ∀ {f : Fr}, (∀ p ∈ f, us[p.1]? = some p.2) → ArgL f us
  | [], _ => trivial
  | p :: f, h => ⟨h p (by simp), argL_of fun q hq => h q (by simp [hq])⟩
omit [Opq] in
theorem allF_arg (us : List Value) : ArgL (allF ⟨us⟩) us := argL_of fun p hp => by
  unfold allF at hp
  obtain ⟨q, hq, rfl⟩ := List.mem_map.1 hp
  obtain ⟨_, h2, h3⟩ := List.mem_zipIdx hq
  have h2' : q.2 < us.length := by simpa using h2
  show us[q.2]? = some q.1
  rw [List.getElem?_eq_getElem h2']
  congr 1
  simpa using h3.symm
omit [Opq] in
theorem shut_ext : ∀ (Ds : List Nat) (h : Heap), Ext (fun b => b ∈ Ds) h (shutAll Ds h)
  | [], h => .refl _ _
  | D :: Ds, h => by
    show Ext _ h (shutAll Ds (h.setIfInBounds D (.deferred Option.none)))
    have h1 : Ext (fun b => b = D) h (h.setIfInBounds D (.deferred Option.none)) := .set _ _ _ rfl
    have h2 := shut_ext Ds (h.setIfInBounds D (.deferred Option.none))
    exact (h1.mono fun b _ e => by subst e; simp).trans (h2.mono fun b _ e => by simp [e])
theorem Stp.shut {σ σ' : Sg} {A A' : Hp} {h h' : Heap} {Ds : List Nat} (k0 : HR σ A h) (s : Stp σ A h σ' A' h') (d : DsOk h.size σ' A' h' Ds) : Stp σ A h σ' A' (shutAll Ds h') := by
  have x := shut_ext Ds h'
  have hk : HR σ' A' (shutAll Ds h') := ⟨fun β o e => by
    obtain ⟨p, h1, h2⟩ := s.hr.obj β o e
    exact ⟨p, h1, h2.keep (x.keep _ h2.lt (fun hD => (d.2 _ hD).2.1 ⟨β, o, p, e, h1, rfl⟩))⟩, s.hr.inj, s.hr.dom, fun β p e => Nat.lt_of_lt_of_le (s.hr.ltb β p e) x.size, s.hr.bas.trans' x (fun b hb hD => by have := (d.2 _ hD).2.2; have := k0.bas.size; omega), s.hr.low⟩
  exact ⟨s.le, hk, s.pr, Nat.le_trans s.size x.size, fun b hb hw => (x.keep b (Nat.lt_of_lt_of_le hb s.size) (fun hD => by have := (d.2 _ hD).2.2; omega)).trans (s.keep b hb hw), s.wr, s.lv, s.apr, s.nx⟩
theorem res_ok {f : Tv} {A : Hp} {σ : Sg} {g : Fr} {h : Heap} (hf : FrL σ f g) (hk : HR σ A h) : ∀ {rs : List ResultVar} {vs : List Value}, resE P f A rs = some vs → ∃ us, ResL P h g rs us ∧ VaL σ vs us
  | [], vs, e => by simp only [resE, Option.some.injEq] at e; subst e; exact ⟨[], trivial, .nil⟩
  | .tmp t :: r, vs, e => by
    unfold resE at e
    split at e
    case h_2 => cases e
    rename_i v hv
    split at e
    case h_2 => cases e
    rename_i ws hws
    simp only [Option.some.injEq] at e
    subst e
    obtain ⟨u, h1, h2⟩ := hf _ _ hv
    obtain ⟨us, h3, h4⟩ := res_ok hf hk hws
    exact ⟨u :: us, ⟨h1, h3⟩, .cons h2 h4⟩
  | .cell t T :: r, vs, e => by
    unfold resE at e
    split at e
    case h_2 => cases e
    rename_i v bs hv
    split at e
    case h_2 => cases e
    rename_i ws hws
    simp only [Option.some.injEq] at e
    subst e
    obtain ⟨u, a, h1, h2, h5⟩ := ld_var hv hf hk
    obtain ⟨us, h3, h4⟩ := res_ok hf hk hws
    exact ⟨u :: us, ⟨⟨a, h1, h5⟩, h3⟩, .cons h2 h4⟩
theorem tup_va {σ : Sg} {vs us : List Value} (h : VaL σ vs us) : Va σ (tup vs) (tup us) := by
  cases h with
  | nil => exact .tuple .nil
  | cons h t =>
    cases t with
    | nil => exact h
    | cons h2 t2 => exact .tuple (.cons h (.cons h2 t2))
theorem call_ok {N : NatE} (hN : NOk P N) (hEn : EnOk P) {ex : Nat → ExecE} (hE : ∀ m, ExOk P m Option.none (ex m)) : COk P (callE P N ex) := fun k vs A v A' e => by
  unfold callE at e
  split at e
  · rename_i r hr
    subst e
    exact hN k vs A v A' hr
  · split at e
    case h_2 => cases e
    rename_i fn hfn
    split at e
    case h_2 => cases e
    rename_i c hc
    cases hb : Nat.ble vs.length fn.ntmps with
    | false => rw [hb] at e; cases e
    | true =>
    rw [hb] at e
    simp only [cond_true] at e
    have hbody : bodyB P k = true := by unfold bodyB; rw [hfn]; simp only [hc]
    have key : ∃ o f1 A1, (o = .normal ∨ o = .ret) ∧ ex fn.ntmps c (argsE vs 0 .leaf) A = some (o, f1, A1) ∧ ∃ ws, resE P f1 A1 fn.results.toList = some ws ∧ v = tup ws ∧ A' = A1 := by
      split at e
      · rename_i f1 A1 hx
        split at e
        · rename_i ws hws
          simp only [Option.some.injEq, Prod.mk.injEq] at e
          exact ⟨_, f1, A1, .inl rfl, hx, ws, hws, e.1.symm, e.2.symm⟩
        · cases e
      · rename_i f1 A1 hx
        split at e
        · rename_i ws hws
          simp only [Option.some.injEq, Prod.mk.injEq] at e
          exact ⟨_, f1, A1, .inr rfl, hx, ws, hws, e.1.symm, e.2.symm⟩
        · cases e
      · cases e
    obtain ⟨o, f1, A1, ho, hx, ws, hws, rfl, rfl⟩ := key
    intro σ us h hv hk
    refine .inr ⟨fun w => hEn k hbody _ w, ?_⟩
    refine callsD (m := fn.ntmps) (allF ⟨us⟩) hfn hc rfl (by rw [hv.len]; exact hb) (allF_arg us) ?_
    have hw := hE fn.ntmps _ _ _ _ _ _ hx σ (allF ⟨us⟩) h h.size [] (argsE_fr hv) hk ⟨List.nodup_nil, fun _ hD => by cases hD⟩ (Nat.le_refl _)
    intro a w ha hw'
    refine wpIn_mono (hw a w ha hw') ?_
    rintro e a' w' ⟨hl, hs, Ds, g, hg, he, σ', hst, hf, hd⟩
    refine ⟨hl, hs, Ds, g, hg, ?_, fun D hD => (hd.2 D hD).1, hd.1, ?_⟩
    · subst he; rcases ho with rfl | rfl
      · exact .inr rfl
      · exact .inl rfl
    · have hst' := Stp.shut hk hst hd
      obtain ⟨us', h1, h2⟩ := res_ok hf hst'.hr hws
      exact ⟨us', h1, σ', hst', tup_va h2⟩

/-! ### code -/
theorem PoE.from {N0 : Nat} {σ0 σ : Sg} {A0 A : Hp} {h0 h : Heap} {o : Ou} {f' : Tv} {A' : Hp} (s : Stp σ0 A0 h0 σ A h) {Ds : List Nat} {e : Exit} {g' : Fr} {h' : Heap} (q : PoE N0 σ A h o f' A' Ds e g' h') : PoE N0 σ0 A0 h0 o f' A' Ds e g' h' :=
  let ⟨h1, σ', h2, h3, h4⟩ := q; ⟨h1, σ', s.trans h2, h3, h4⟩
theorem loop_ok {ro : Option Nat} {rd : Bool} {N : NatE} {b : Code} {σ0 : Sg} {A0 : Hp} {h0 : Heap} {N0 : Nat} (hN0 : N0 ≤ h0.size) {o : Ou} {f' : Tv} {A' : Hp} : ∀ (k : Nat), (∀ j, j < k → ExOk P m ro (execE P N j rd m)) → ∀ (f : Tv) (A : Hp), execE P N k rd m (.loop b) f A = some (o, f', A') →
    ∀ (σ : Sg) (g : Fr) (h : Heap) (Ds : List Nat), Stp σ0 A0 h0 σ A h → FrL σ f g → DsOk N0 σ A h Ds → LR P m ro b (PoE N0 σ0 A0 h0 o f' A') k Ds g h
  | 0, _, f, A, e, _, _, _, _, _, _, _ => by simp [execE] at e
  | k + 1, hS, f, A, e, σ, g, h, Ds, hst, hf, hd => by
    simp only [execE, stepE] at e
    show WE P m ro Ds b (thenD (LR P m ro b (PoE N0 σ0 A0 h0 o f' A') k) (PoE N0 σ0 A0 h0 o f' A')) g h
    split at e
    · rename_i f1 A1 h1
      refine (hS k (Nat.lt_succ_self _) _ _ _ _ _ _ h1 σ g h N0 Ds hf hst.hr hd (Nat.le_trans hN0 hst.size)).mono fun Ds1 e1 g1 h1' ⟨he, σ1, hs1, hf1, hd1⟩ => ?_
      subst he
      exact loop_ok hN0 k (fun j hj => hS j (by omega)) f1 A1 e σ1 g1 h1' Ds1 (hst.trans hs1) hf1 hd1
    · rename_i hn
      refine (hS k (Nat.lt_succ_self _) _ _ _ _ _ _ e σ g h N0 Ds hf hst.hr hd (Nat.le_trans hN0 hst.size)).mono fun Ds1 e1 g1 h1' q => ?_
      have q' := PoE.from hst q
      cases o with
      | normal => exact (hn _ _ e).elim
      | ret => obtain ⟨rfl, q2⟩ := q'; exact ⟨rfl, q2⟩
      | exit i => obtain ⟨rfl, q2⟩ := q'; exact ⟨rfl, q2⟩
      | goto l => obtain ⟨rfl, q2⟩ := q'; exact ⟨rfl, q2⟩
theorem step_ok {N : NatE} (hm : P.follows .mixedOrders = true) (hEn : EnOk P) {n : Nat} {rd : Bool} {ro : Option Nat} (hro : (rd = false ∧ ro = Option.none) ∨ (rd = true ∧ ∃ l, ro = some l)) (hC : COk P (callE P N (execE P N n false))) (hY : YOk P (yldE (execE P N n true)))
    (hS : ∀ j, j ≤ n → ExOk P m ro (execE P N j rd m)) : ExOk P m ro (execE P N (n + 1) rd m) := by
  have ih := hS n (Nat.le_refl _)
  intro c f A o f' A' e0 σ g h N0 Ds hf hk hd hN0
  have e := e0
  simp only [execE] at e
  unfold stepE at e
  split at e
  · simp only [Option.some.injEq, Prod.mk.injEq] at e
    obtain ⟨rfl, rfl, rfl⟩ := e
    exact .of (.skip ⟨rfl, σ, .refl hk, hf, hd⟩)
  · simp only [Option.some.injEq, Prod.mk.injEq] at e
    obtain ⟨rfl, rfl, rfl⟩ := e
    exact .of (.label ⟨rfl, σ, .refl hk, hf, hd⟩)
  · simp only [Option.some.injEq, Prod.mk.injEq] at e
    obtain ⟨rfl, rfl, rfl⟩ := e
    exact .of (.ret ⟨rfl, σ, .refl hk, hf, hd⟩)
  · simp only [Option.some.injEq, Prod.mk.injEq] at e
    obtain ⟨rfl, rfl, rfl⟩ := e
    exact .of (.exit ⟨rfl, σ, .refl hk, hf, hd⟩)
  · cases e
  · -- a region in its order
    rename_i id l
    rcases hro with ⟨rfl, rfl⟩ | ⟨rfl, l0, rfl⟩
    · simp only [cond_false] at e
      split at e
      case h_2 => cases e
      rename_i f1 A1 hr
      simp only [Option.some.injEq, Prod.mk.injEq] at e
      obtain ⟨rfl, rfl, rfl⟩ := e
      exact .of (WC.regionY (l := l) (WY.reg (n := ⟨m, Ds.map dmark, Option.none⟩) hC hY rfl l hr hf hk fun σ' g' h' hs hf' => ⟨rfl, σ', hs, hf', hd.step hs⟩))
    · simp only [cond_true] at e
      cases hnd : noDef l with
      | false => rw [hnd] at e; cases e
      | true =>
        rw [hnd] at e
        simp only [cond_true] at e
        split at e
        case h_2 => cases e
        rename_i f1 A1 hr
        simp only [Option.some.injEq, Prod.mk.injEq] at e
        obtain ⟨rfl, rfl, rfl⟩ := e
        exact .of (WC.region (l := l) (WL.reg (n := ⟨m, Ds.map dmark, some l0⟩) hC l hr hf hk fun σ' g' h' hs hf' => ⟨rfl, σ', hs, hf', hd.step hs⟩) (.inr hnd))
  · -- a region that draws
    rename_i id l
    cases hb : ((l.all fun o => notSel o.op) && (!rd || noDef l)) with
    | false => rw [hb] at e; cases e
    | true =>
      rw [hb] at e
      simp only [cond_true] at e
      simp only [Bool.and_eq_true] at hb
      split at e
      case h_2 => cases e
      rename_i f1 A1 hr
      simp only [Option.some.injEq, Prod.mk.injEq] at e
      obtain ⟨rfl, rfl, rfl⟩ := e
      have hnd : ro = Option.none ∨ noDef l = true := by
        rcases hro with ⟨_, h1⟩ | ⟨rfl, _⟩
        · exact .inl h1
        · exact .inr (by simpa using hb.2)
      exact .of (WC.drawR (n := ⟨m, Ds.map dmark, ro⟩) hC hm (fun o ho => List.all_eq_true.1 hb.1 o ho) hnd hr hf hk fun σ' g' h' hs hf' => ⟨rfl, σ', hs, hf', hd.step hs⟩)
  · -- one behind the other
    split at e
    · rename_i f1 A1 h1
      refine .seq ((ih _ _ _ _ _ _ h1 σ g h N0 Ds hf hk hd hN0).mono fun Ds1 e1 g1 h1' ⟨he, σ1, hs1, hf1, hd1⟩ => ?_)
      subst he
      exact (ih _ _ _ _ _ _ e σ1 g1 h1' N0 Ds1 hf1 hs1.hr hd1 (Nat.le_trans hN0 hs1.size)).mono fun _ _ _ _ q => q.from hs1
    · rename_i hn
      refine .seq ((ih _ _ _ _ _ _ e σ g h N0 Ds hf hk hd hN0).mono fun Ds1 e1 g1 h1' q => ?_)
      cases o with
      | normal => exact (hn _ _ e).elim
      | ret => obtain ⟨rfl, q2⟩ := q; exact ⟨rfl, q2⟩
      | exit i => obtain ⟨rfl, q2⟩ := q; exact ⟨rfl, q2⟩
      | goto l => obtain ⟨rfl, q2⟩ := q; exact ⟨rfl, q2⟩
  · -- a condition
    split at e
    · rename_i hx
      obtain ⟨u, h1, h2⟩ := hf.ev hx
      rw [va_bool h2] at h1
      exact .cond_t h1 (ih _ _ _ _ _ _ e σ g h N0 Ds hf hk hd hN0)
    · rename_i hx
      obtain ⟨u, h1, h2⟩ := hf.ev hx
      rw [va_bool h2] at h1
      exact .cond_f h1 (ih _ _ _ _ _ _ e σ g h N0 Ds hf hk hd hN0)
    · cases e
  · -- a block
    rename_i id b
    split at e
    · rename_i i f1 A1 h1
      simp only [Option.some.injEq, Prod.mk.injEq] at e
      obtain ⟨rfl, rfl, rfl⟩ := e
      refine .block ((ih _ _ _ _ _ _ h1 σ g h N0 Ds hf hk hd hN0).mono fun Ds1 e1 g1 h1' ⟨he, q⟩ => ?_)
      subst he
      show blockP id _ (.exit i) g1 h1'
      cases hi : Nat.beq i id with
      | true =>
        have := Nat.eq_of_beq_eq_true hi
        subst this
        exact blockP_hit ⟨rfl, q⟩
      | false => exact blockP_miss hi ⟨rfl, q⟩
    · rename_i hn
      refine .block ((ih _ _ _ _ _ _ e σ g h N0 Ds hf hk hd hN0).mono fun Ds1 e1 g1 h1' q => ?_)
      cases o with
      | normal => obtain ⟨rfl, q2⟩ := q; exact ⟨rfl, q2⟩
      | ret => obtain ⟨rfl, q2⟩ := q; exact ⟨rfl, q2⟩
      | exit i => exact (hn _ _ _ e).elim
      | goto l => obtain ⟨rfl, q2⟩ := q; exact ⟨rfl, q2⟩
  · -- a loop
    exact .loop (n + 1) (loop_ok hN0 (n + 1) (fun j hj => hS j (by omega)) f A e0 σ g h Ds (.refl hk) hf hd)
  · -- a scope
    rename_i b
    rcases hro with ⟨rfl, rfl⟩ | ⟨rfl, l0, rfl⟩
    · simp only [cond_false] at e
      split at e
      · cases e
      · rename_i hn
        refine .scope ((ih _ _ _ _ _ _ e σ g h N0 Ds hf hk hd hN0).mono fun Ds1 e1 g1 h1' q => ?_)
        cases o with
        | normal => obtain ⟨rfl, q2⟩ := q; exact ⟨rfl, q2⟩
        | ret => obtain ⟨rfl, q2⟩ := q; exact ⟨rfl, q2⟩
        | exit i => obtain ⟨rfl, q2⟩ := q; exact ⟨rfl, q2⟩
        | goto l => exact (hn _ _ _ e).elim
    · cases e
  · -- a range over a function
    rename_i x ps ag bd
    rcases hro with ⟨rfl, rfl⟩ | ⟨rfl, l0, rfl⟩
    · simp only [cond_false] at e
      split at e
      case h_2 => cases e
      rename_i k lb hx
      cases hbd : bodyB P k with
      | false => rw [hbd] at e; cases e
      | true =>
        rw [hbd] at e
        simp only [Bool.not_true, cond_false] at e
        split at e
        case h_2 => cases e
        rename_i v0 A2 hc
        split at e
        case h_2 => cases e
        rename_i st fm ps' as' bd' pend m' hg
        cases hst : Nat.beq st 1 with
        | true => rw [hst] at e; cases e
        | false =>
          rw [hst] at e
          simp only [cond_false] at e
          split at e
          case h_2 => cases e
          rename_i A3 hk3
          simp only [Option.some.injEq, Prod.mk.injEq] at e
          obtain ⟨rfl, rfl, rfl⟩ := e
          exact .rangeE hC hEn hx hbd hc hg hst hk3 hf hk hd hN0
    · cases e
  · cases e
theorem exec_ok {N : NatE} (hm : P.follows .mixedOrders = true) (hEn : EnOk P) (hN : NOk P N) : ∀ (n : Nat), (∀ m, ExOk P m Option.none (execE P N n false m)) ∧ ∀ m l, ExOk P m (some l) (execE P N n true m) := by
  intro n
  induction n using Nat.strongRecOn with
  | _ n ih =>
    cases n with
    | zero => exact ⟨fun m c f A o f' A' e => by simp [execE] at e, fun m l c f A o f' A' e => by simp [execE] at e⟩
    | succ n =>
      have h0 := ih n (Nat.lt_succ_self _)
      have hC := call_ok hN hEn h0.1
      have hY := yld_ok h0.2
      exact ⟨fun m => step_ok hm hEn (.inl ⟨rfl, rfl⟩) hC hY fun j hj => (ih j (by omega)).1 m, fun m l => step_ok hm hEn (.inr ⟨rfl, l, rfl⟩) hC hY fun j hj => (ih j (by omega)).2 m l⟩
/-- **What the evaluator tells is so.** -/
theorem run_ok {N : NatE} (hm : P.follows .mixedOrders = true) (hEn : EnOk P) (hN : NOk P N) (n : Nat) : COk P (runE P N n) := call_ok hN hEn (exec_ok hm hEn hN n).1
end
end Go.RK

/-
  AN EVALUATOR THAT IS PROVED, 17: bytes looked for, by their contracts; functions that have bodies are entered; how a call is told. No program is named here.
-/
namespace Go.RK
open Go
variable [Opq]

/-- IndexByte over bytes (kb) and over texts (ks). -/
noncomputable def ixN (kb ks : List Nat) : NatE := fun k vs A => bif kb.any (Nat.beq k) then
    (match vs with
    | [.slice a (l + 1) c, .int .u8 (.ofNat n)] => bif Nat.blt n 256 && Nat.ble (Nat.succ l) (capE A a (Nat.succ l) c) then
      (match rowE A a (l + 1) with
      | some (xs, _) => match unby xs with
        | some b => some (some (.int .i64 (Lib.indexByte b (UInt8.ofNat n)), A))
        | Option.none => some Option.none
      | Option.none => some Option.none) else some Option.none
    | _ => some Option.none)
  else bif ks.any (Nat.beq k) then
    (match vs with
    | [.string s, .int .u8 (.ofNat n)] => bif Nat.blt n 256 then some (some (.int .i64 (Lib.indexByte s.data.toList (UInt8.ofNat n)), A)) else some Option.none
    | _ => some Option.none)
  else Option.none
omit [Opq] in
theorem by_of {n : Nat} (h : n < 256) : By (UInt8.ofNat n) = .int .u8 (.ofNat n) := by
  have : (UInt8.ofNat n).toNat = n := by simp [UInt8.toNat_ofNat']; omega
  simp [By, this]
theorem ixN_ok {P : Program} {kb ks : List Nat} (hEn : ∀ k, k ∈ kb ∨ k ∈ ks → ∀ (args : Array Value) (w : World), (callFunc k args).run P w = .ok (.enter k args) w)
    (hb : ∀ k, k ∈ kb → ∀ {h : Heap} {v : Value} (l : List UInt8) (c : UInt8), Rd h v 1 l.length (bys l) → 0 < l.length → CallsH P k ⟨[v, By c]⟩ h fun u h' => u = In (Lib.indexByte l c) ∧ h' = h)
    (hs : ∀ k, k ∈ ks → ∀ {h : Heap} (s : List UInt8) (c : UInt8), CallsH P k ⟨[St s, By c]⟩ h fun u h' => u = In (Lib.indexByte s c) ∧ h' = h) : NOk P (ixN kb ks) := fun k vs A v A' e σ us h hv hk => by
  have mem : ∀ {l : List Nat}, l.any (Nat.beq k) = true → k ∈ l := fun {l} h => by
    obtain ⟨x, hx, hxk⟩ := List.any_eq_true.1 h
    rw [Nat.eq_of_beq_eq_true hxk]; exact hx
  unfold ixN at e
  cases h1 : kb.any (Nat.beq k) with
  | true =>
    rw [h1] at e
    simp only [cond_true] at e
    split at e
    case h_2 => cases e
    rename_i a l c n
    cases hnb : (Nat.blt n 256 && Nat.ble (Nat.succ l) (capE A a (Nat.succ l) c)) with
    | false => rw [hnb] at e; cases e
    | true =>
      rw [hnb] at e
      simp only [cond_true] at e
      rw [Bool.and_eq_true] at hnb
      obtain ⟨hn, hcb⟩ := hnb
      split at e
      case h_2 => cases e
      rename_i xs bs hrow
      split at e
      case h_2 => cases e
      rename_i b hub
      simp only [Option.some.injEq, Prod.mk.injEq] at e
      obtain ⟨rfl, rfl⟩ := e
      cases hv with
      | cons hx ht =>
      cases ht with
      | cons hy ht =>
      cases ht
      have hy' := va_int hy
      subst hy'
      obtain ⟨a1, c1, hu1, hcap, _⟩ := cap_ok hk hx
      obtain ⟨a', c', us, rfl, h3, h4, h5, h6⟩ := row_ok hk hx hrow
      injection hu1 with e1 _ e2
      subst e1
      subst e2
      have hcl : l + 1 ≤ c' := Nat.le_trans (ble_le hcb) hcap
      have hxs := unby_ok hub
      subst hxs
      have hus := h5.eq_flat (flat_bys b)
      subst hus
      have hlen : b.length = l + 1 := by simpa using h3
      have hkb := mem h1
      refine .inr ⟨fun w => hEn k (.inl hkb) _ w, ?_⟩
      have hrd : Rd h (.slice a' (l + 1) c') 1 b.length (bys b) := by
        rcases h6 h (fun _ _ _ _ => rfl) with h7 | ⟨q, o, rfl, h8, h9⟩
        · rw [h7] at h3; simp at h3
        · rw [hlen]
          exact ⟨_, _, rfl, hcl, by simp [hlen], fun _ => ⟨q, o, rfl, h8, h9⟩⟩
      rw [← by_of (blt_lt hn)]
      exact (hb k hkb b (UInt8.ofNat n) hrd (by omega)).mono fun u h' ⟨e1, e2⟩ => by subst e1; subst e2; exact ⟨σ, .refl hk, .int .i64 _⟩
  | false =>
    rw [h1] at e
    simp only [cond_false] at e
    cases h2 : ks.any (Nat.beq k) with
    | false => rw [h2] at e; cases e
    | true =>
      rw [h2] at e
      simp only [cond_true] at e
      split at e
      case h_2 => cases e
      rename_i s n
      cases hn : Nat.blt n 256 with
      | false => rw [hn] at e; cases e
      | true =>
        rw [hn] at e
        simp only [cond_true, Option.some.injEq, Prod.mk.injEq] at e
        obtain ⟨rfl, rfl⟩ := e
        cases hv with
        | cons hx ht =>
        cases ht with
        | cons hy ht =>
        cases ht
        have hy' := va_int hy
        subst hy'
        cases hx
        have hks := mem h2
        refine .inr ⟨fun w => hEn k (.inr hks) _ w, ?_⟩
        rw [← by_of (blt_lt hn)]
        exact (hs k hks s.data.toList (UInt8.ofNat n)).mono fun u h' ⟨e1, e2⟩ => by subst e1; subst e2; exact ⟨σ, .refl hk, .int .i64 _⟩
end Go.RK

/-
  AN EVALUATOR THAT IS PROVED, 18: how a call is told by it. No program is named here.
-/
namespace Go.RK
open Go

/-- No function with a body is the one that counts goroutines. -/
noncomputable def nmB (P : Program) : Bool := P.funcs.toList.all fun fn => match fn.body with
  | some _ => !(fn.name == "runtime.NumGoroutine")
  | Option.none => true
theorem en_of {P : Program} (h : nmB P = true) : EnOk P := fun k hk args w => by
  unfold bodyB at hk
  split at hk
  case h_2 => cases hk
  rename_i fn hfn
  split at hk
  case h_2 => cases hk
  rename_i c hc
  have h1 := List.all_eq_true.1 h fn (by
    obtain ⟨hlt, hv⟩ := Array.getElem?_eq_some_iff.1 hfn
    exact hv ▸ (by simp))
  rw [hc] at h1
  have h2 : ¬ fn.name = "runtime.NumGoroutine" := by simpa using h1
  simp [callFunc, hfn, h2, hc]
noncomputable def A0 : Hp := ⟨.leaf, 0, []⟩
section
variable [Opq]
theorem hr0 : HR (fun _ => Option.none) A0 Opq.base := ⟨fun β o e => (by rw [A0, Tx.get_leaf] at e; cases e), fun β β' o o' p p' e => (by rw [A0, Tx.get_leaf] at e; cases e), fun β p e => (by cases e), fun β p e => (by cases e), .refl _ _, fun β p e => (by cases e)⟩
/-- **A call that the evaluator has run.** -/
theorem ev_calls {P : Program} {N : NatE} {n k : Nat} {vs us : List Value} {v : Value} {A' : Hp} (hm : P.follows .mixedOrders = true) (hEn : EnOk P) (hN : NOk P N) (hb : bodyB P k = true) (e : runE P N n k vs A0 = some (v, A')) (hv : VaL (fun _ => Option.none) vs us) :
    CallsH P k ⟨us⟩ Opq.base fun u h' => Ext No Opq.base h' ∧ ∃ σ', HR σ' A' h' ∧ Va σ' v u := by
  have h1 := run_ok hm hEn hN n k vs A0 v A' e (fun _ => Option.none) us Opq.base hv hr0
  have h2 : CallsH P k ⟨us⟩ Opq.base fun u h' => ∃ σ', Stp (fun _ => Option.none) A0 Opq.base σ' A' h' ∧ Va σ' v u := by
    rcases h1 with h1 | ⟨_, h1⟩
    · obtain ⟨u, w', _, _, h3⟩ := h1 { heap := Opq.base, tape := fun _ _ => 0, drawn := 0, os := default, output := #[] } rfl
      rw [hEn k hb] at h3
      cases h3
    · exact h1
  exact h2.mono fun u h' ⟨σ', hs, hva⟩ => ⟨⟨hs.size, fun b hb' _ => hs.keep b hb' fun ⟨β, o, p, e, _⟩ => by rw [A0, Tx.get_leaf] at e; cases e⟩, σ', hs.hr, hva⟩
end
/-- Does it say true? -/
noncomputable def evB (P : Program) (N : NatE) (n k : Nat) (vs : List Value) : Bool := match runE P N n k vs A0 with
  | some (.bool true, _) => true
  | _ => false
theorem ev_true {P : Program} {N : NatE} {n k : Nat} {vs us : List Value} {h : Heap} (τ : Nat → Value) (hm : P.follows .mixedOrders = true) (hEn : nmB P = true) (hN : @NOk ⟨τ, h⟩ P N) (hb : bodyB P k = true) (e : evB P N n k vs = true) (hv : @VaL ⟨τ, h⟩ (fun _ => Option.none) vs us) :
    CallsH P k ⟨us⟩ h fun u h' => u = .bool true ∧ Ext No h h' := by
  unfold evB at e
  split at e
  · rename_i A' hr
    letI : Opq := ⟨τ, h⟩
    exact (ev_calls hm (en_of hEn) hN hb hr hv).mono fun u h' ⟨hx, σ', _, hva⟩ => ⟨va_bool hva, hx⟩
  · cases e
end Go.RK

/-
  AN EVALUATOR THAT IS PROVED, 19: calls at values of which nothing is known, by their contracts. No program is named here.
-/
namespace Go.RK
open Go

/-- Values of which only the numbers are known: i, i + 1, .. -/
noncomputable def opL : Nat → Nat → List Value
  | _, 0 => []
  | i, n + 1 => .chan (some i) :: opL (i + 1) n
noncomputable def isOp : Nat → Nat → List Value → Bool
  | _, 0, [] => true
  | i, n + 1, .chan (some j) :: xs => Nat.beq j i && isOp (i + 1) n xs
  | _, _, _ => false
theorem isOp_eq : ∀ (i n : Nat) (xs : List Value), isOp i n xs = true → xs = opL i n := fun i n => by
  induction n generalizing i with
  | zero => intro xs h; cases xs with
    | nil => rfl
    | cons x xs => simp [isOp] at h
  | succ n ih => intro xs h; cases xs with
    | nil => simp [isOp] at h
    | cons x xs =>
      cases x with
      | chan o => cases o with
        | none => simp [isOp] at h
        | some j =>
          simp only [isOp, Bool.and_eq_true] at h
          rw [Nat.eq_of_beq_eq_true h.1, ih (i + 1) _ h.2]
          rfl
      | _ => simp [isOp] at h
section
variable [Opq]
noncomputable def vaL : Nat → Nat → List Value
  | _, 0 => []
  | i, n + 1 => Opq.val i :: vaL (i + 1) n
theorem opL_eq {σ : Sg} : ∀ (n i : Nat) (us : List Value), VaL σ (opL i n) us → us = vaL i n
  | 0, i, us, h => by cases h; rfl
  | n + 1, i, us, h => by
    unfold opL at h
    cases h with
    | cons hx ht =>
      cases hx
      rw [opL_eq n (i + 1) _ ht]
      rfl
theorem opL_va {σ : Sg} : ∀ (n i : Nat), (∀ j, i ≤ j → j < i + n → (Opq.val j).oneCell' = true) → VaL σ (opL i n) (vaL i n)
  | 0, i, _ => .nil
  | n + 1, i, h => .cons (.opq i (h i (Nat.le_refl _) (by omega))) (opL_va n (i + 1) fun j h1 h2 => h j (by omega) (by omega))
omit [Opq] in
theorem getD_one {L : List Value} (h : ∀ v ∈ L, v.oneCell' = true) (j : Nat) : (L.getD j (.bool true)).oneCell' = true := by
  rw [List.getD_eq_getElem?_getD]
  cases e : L[j]? with
  | none => rfl
  | some v => exact h v (List.mem_of_getElem? e)
/-- Function k answers r at one struct of the values i, .. -/
noncomputable def fixN (k i n : Nat) (r : Value) (N : NatE) : NatE := fun k' vs A => bif Nat.beq k' k then
    (match vs with
    | [.agg ⟨xs⟩] => bif isOp i n xs then some (some (r, A)) else some Option.none
    | _ => some Option.none)
  else N k' vs A
theorem fixN_ok {P : Program} {k i n : Nat} {r : Value} {N : NatE} (hN : NOk P N) (hEn : ∀ (args : Array Value) (w : World), (callFunc k args).run P w = .ok (.enter k args) w)
    (hc : ∀ h, Ext No Opq.base h → CallsH P k ⟨[.agg ⟨vaL i n⟩]⟩ h fun u h' => (∀ σ, Va σ r u) ∧ Ext No h h') : NOk P (fixN k i n r N) := fun k' vs A v A' e => by
  unfold fixN at e
  cases hk : Nat.beq k' k with
  | false => rw [hk] at e; simp only [cond_false] at e; exact hN k' vs A v A' e
  | true =>
    rw [hk] at e
    simp only [cond_true] at e
    have hk2 := Nat.eq_of_beq_eq_true hk
    subst hk2
    split at e
    case h_2 => cases e
    rename_i xs
    cases hx : isOp i n xs with
    | false => rw [hx] at e; cases e
    | true =>
      rw [hx] at e
      simp only [cond_true, Option.some.injEq, Prod.mk.injEq] at e
      obtain ⟨rfl, rfl⟩ := e
      have hx2 := isOp_eq _ _ _ hx
      subst hx2
      intro σ us h hv hh
      cases hv with
      | cons h1 ht =>
      cases ht
      cases h1 with
      | agg h1 =>
      have := opL_eq _ _ _ h1
      subst this
      refine .inr ⟨fun w => hEn _ w, ?_⟩
      exact (hc h hh.bas).mono fun u h' ⟨hu, hx⟩ => ⟨σ, .ext hh hx, hu σ⟩
/-- Function k, without arguments, answers r. -/
noncomputable def nilN (k : Nat) (r : Value) (N : NatE) : NatE := fun k' vs A => bif Nat.beq k' k then
    (match vs with
    | [] => some (some (r, A))
    | _ => some Option.none)
  else N k' vs A
theorem nilN_ok {P : Program} {k : Nat} {r : Value} {N : NatE} (hN : NOk P N) (hEn : ∀ (args : Array Value) (w : World), (callFunc k args).run P w = .ok (.enter k args) w)
    (hc : ∀ h, Ext No Opq.base h → CallsH P k ⟨[]⟩ h fun u h' => (∀ σ, Va σ r u) ∧ Ext No h h') : NOk P (nilN k r N) := fun k' vs A v A' e => by
  unfold nilN at e
  cases hk : Nat.beq k' k with
  | false => rw [hk] at e; simp only [cond_false] at e; exact hN k' vs A v A' e
  | true =>
    rw [hk] at e
    simp only [cond_true] at e
    have hk2 := Nat.eq_of_beq_eq_true hk
    subst hk2
    split at e
    case h_2 => cases e
    simp only [Option.some.injEq, Prod.mk.injEq] at e
    obtain ⟨rfl, rfl⟩ := e
    intro σ us h hv hh
    cases hv
    refine .inr ⟨fun w => hEn _ w, ?_⟩
    exact (hc h hh.bas).mono fun u h' ⟨hu, hx⟩ => ⟨σ, .ext hh hx, hu σ⟩
end
end Go.RK

/-
  AN EVALUATOR THAT IS PROVED, 21: the same in a form that the kernel runs fast: what is known of the text is made ready once (closures). No program is named here.
-/
namespace Go.RK
open Go

theorem brec {α : Type} (b : Bool) (x y : α) : Bool.rec (motive := fun _ => α) x y b = bif b then y else x := by cases b <;> rfl
structure Cv where
  run : Tv → Hp → Option (Value × List Nat)
structure Co where
  run : Tv → Hp → Option (Value × Hp)
structure Cl where
  run : CallE → YldE → Tv → Hp → Option (Tv × Hp)
structure Dc where
  go : Tv → Value → Hp → Option (Tv × Hp)
/-- Where a value goes. -/
noncomputable def dC (m : Nat) (d : Option Nat) : Dc := Option.rec (motive := fun _ => Dc) ⟨fun f _ A => some (f, A)⟩ (fun t => Bool.rec (motive := fun _ => Dc) ⟨fun _ _ _ => Option.none⟩ ⟨fun f v A => some (f.set t v, A)⟩ (Nat.blt t m)) d
theorem dC_go (m : Nat) (d : Option Nat) (f : Tv) (v : Value) (A : Hp) : (dC m d).go f v A = match dstE m f d v with
    | some f' => some (f', A)
    | Option.none => Option.none := by
  cases d with
  | none => rfl
  | some t =>
    show (Bool.rec (motive := fun _ => Dc) _ _ (Nat.blt t m)).go f v A = match (bif Nat.blt t m then some (f.set t v) else Option.none) with
      | some f' => some (f', A)
      | Option.none => Option.none
    cases Nat.blt t m <;> rfl
noncomputable def evG (x : Operand) : Tv → Option Value := Operand.rec (motive := fun _ => Tv → Option Value) (fun t f => f.get t) (fun v _ => Bool.rec (motive := fun _ => Option Value) Option.none (some v) (flat v)) (fun _ _ => Option.none) (fun k _ => some (.func (.func k) #[] #[])) x
theorem evG_eq (x : Operand) (f : Tv) : evG x f = evE f x := by
  cases x with
  | const v =>
    show Bool.rec (motive := fun _ => Option Value) _ _ (flat v) = bif flat v then _ else _
    cases flat v <;> rfl
  | _ => rfl

/-! ### what reads -/
noncomputable def vR (x : Option Value) : Option (Value × List Nat) := Option.rec (motive := fun _ => Option (Value × List Nat)) Option.none (fun v => some (v, [])) x
theorem vR_eq (x : Option Value) : vR x = noR x := by cases x <;> rfl
noncomputable def cvEv (x : Operand) : Cv := Operand.rec (motive := fun _ => Cv) (fun t => ⟨fun f _ => vR (f.get t)⟩) (fun v => Bool.rec (motive := fun _ => Cv) ⟨fun _ _ => Option.none⟩ ⟨fun _ _ => some (v, [])⟩ (flat v)) (fun _ => ⟨fun _ _ => Option.none⟩) (fun k => ⟨fun _ _ => some (.func (.func k) #[] #[], [])⟩) x
theorem cvEv_run (x : Operand) (f : Tv) (A : Hp) : (cvEv x).run f A = noR (evE f x) := by
  cases x with
  | tmp t => exact vR_eq _
  | const v =>
    show (Bool.rec (motive := fun _ => Cv) _ _ (flat v)).run f A = noR (bif flat v then _ else _)
    cases flat v <;> rfl
  | global g => rfl
  | func k => rfl
noncomputable def ptrK {α : Type} (v : Option Value) (k : Nat → Nat → Option α) : Option α := match v with
  | some (.pointer (some ⟨b, o, Option.none⟩)) => k b o
  | _ => Option.none
noncomputable def cvFld (P : Program) (s : TypeId) (x : Operand) (i : Nat) : Cv := match P.underlying s with
  | some (.struct fs) => match fs[i]? with
    | some fl => match szE P fl.type with
      | some (Nat.succ _) => ⟨fun f _ => ptrK (evG x f) fun b o => some (.pointer (some ⟨b, Nat.add o fl.offset, Option.none⟩), [])⟩
      | _ => ⟨fun _ _ => Option.none⟩
    | Option.none => ⟨fun _ _ => Option.none⟩
  | _ => ⟨fun _ _ => Option.none⟩
theorem cvFld_run {P : Program} (s : TypeId) (x : Operand) (i : Nat) (f : Tv) (A : Hp) : (cvFld P s x i).run f A = noR (fldE P f s x i) := by
  unfold cvFld
  split
  · rename_i fs hu
    split
    · rename_i fl hfl
      split
      · rename_i k hk
        show ptrK _ _ = _
        rw [evG_eq]
        simp only [fldE, hu, hfl, hk]
        generalize evE f x = w
        rcases w with _ | w
        · rfl
        cases w <;> try rfl
        rename_i a
        rcases a with _ | ⟨b, o, q⟩
        · rfl
        cases q <;> try rfl
      · rename_i hk
        show Option.none = _
        simp only [fldE, hu, hfl]
        rcases hz : szE P fl.type with _ | z
        · rfl
        · cases z with
          | zero => rfl
          | succ k => exact absurd hz (hk k)
    · rename_i hfl
      show Option.none = _
      simp only [fldE, hu, hfl]
      rfl
  · rename_i hu
    show Option.none = _
    unfold fldE
    split
    · rename_i fs hu'; exact absurd hu' (hu _)
    · rfl
noncomputable def nthG (l : List Value) : Nat → Option Value := List.rec (motive := fun _ => Nat → Option Value) (fun _ => Option.none) (fun v _ ih n => Nat.rec (motive := fun _ => Option Value) (some v) (fun n' _ => ih n') n) l
theorem nthG_eq : ∀ (l : List Value) (n : Nat), nthG l n = l[n]?
  | [], n => by cases n <;> rfl
  | v :: l, 0 => rfl
  | v :: l, n + 1 => nthG_eq l n
noncomputable def cellsG (A : Hp) (b : Nat) : Option (List Value) := Option.rec (motive := fun _ => Option (List Value)) Option.none (fun o => match o with
  | .cells cs _ _ => some cs
  | .froz cs _ => some cs
  | _ => Option.none) (A.t.get b)
theorem cellsG_eq (A : Hp) (b : Nat) : cellsG A b = cellsE A b := by
  unfold cellsG cellsE
  cases A.t.get b with
  | none => rfl
  | some o => cases o <;> rfl
noncomputable def tkG (k : Nat) : List Value → List Value := Nat.rec (motive := fun _ => List Value → List Value) (fun _ => []) (fun _ ih l => List.rec (motive := fun _ => List Value) [] (fun v l' _ => v :: ih l') l) k
theorem tkG_eq : ∀ (k : Nat) (l : List Value), tkG k l = l.take k
  | 0, l => by simp; rfl
  | k + 1, [] => rfl
  | k + 1, v :: l => by
    show v :: tkG k l = _
    rw [tkG_eq k l] <;> rfl
noncomputable def drG (l : List Value) : Nat → List Value := List.rec (motive := fun _ => Nat → List Value) (fun _ => []) (fun v l' ih n => Nat.rec (motive := fun _ => List Value) (v :: l') (fun n' _ => ih n') n) l
theorem drG_eq : ∀ (l : List Value) (n : Nat), drG l n = l.drop n
  | [], n => by cases n <;> rfl
  | v :: l, 0 => rfl
  | v :: l, n + 1 => drG_eq l n
noncomputable def lnG (l : List Value) : Nat := List.rec (motive := fun _ => Nat) 0 (fun _ _ ih => Nat.succ ih) l
theorem lnG_eq : ∀ (l : List Value), lnG l = l.length
  | [] => rfl
  | _ :: l => congrArg Nat.succ (lnG_eq l)
noncomputable def cvLd (P : Program) (t : TypeId) (x : Operand) : Cv := match aggE P t with
  | some true => match szE P t with
    | some k => ⟨fun f A => ptrK (evG x f) fun b o => Option.rec (motive := fun _ => Option (Value × List Nat)) Option.none (fun cs => Bool.rec (motive := fun _ => Option (Value × List Nat)) Option.none (some (.agg ⟨tkG k (drG cs o)⟩, [b])) (Nat.beq (lnG (tkG k (drG cs o))) k)) (cellsG A b)⟩
    | Option.none => ⟨fun _ _ => Option.none⟩
  | some false => ⟨fun f A => ptrK (evG x f) fun b o => Option.rec (motive := fun _ => Option (Value × List Nat)) Option.none (fun cs => Option.rec (motive := fun _ => Option (Value × List Nat)) Option.none (fun v => some (v, [b])) (nthG cs o)) (cellsG A b)⟩
  | Option.none => ⟨fun _ _ => Option.none⟩
theorem cvLd_run {P : Program} (t : TypeId) (x : Operand) (f : Tv) (A : Hp) : (cvLd P t x).run f A = ldE P f A t x := by
  unfold cvLd
  split
  · rename_i ha
    split
    · rename_i k hz
      show ptrK _ _ = _
      rw [evG_eq]
      simp only [ldE, ha, hz]
      generalize evE f x = w
      rcases w with _ | w
      · rfl
      cases w <;> try rfl
      rename_i a
      rcases a with _ | ⟨b, o, q⟩
      · rfl
      cases q <;> try rfl
      show Option.rec (motive := fun _ => Option (Value × List Nat)) _ _ (cellsG A b) = match cellsE A b with
        | some cs => (bif Nat.beq (List.length ((cs.drop o).take k)) k then some (.agg ⟨(cs.drop o).take k⟩, [b]) else Option.none)
        | Option.none => Option.none
      rw [cellsG_eq]
      cases cellsE A b with
      | none => rfl
      | some cs =>
        show Bool.rec (motive := fun _ => Option (Value × List Nat)) _ (some (.agg ⟨tkG k (drG cs o)⟩, [b])) (Nat.beq (lnG (tkG k (drG cs o))) k) = bif Nat.beq (List.length ((cs.drop o).take k)) k then _ else _
        rw [lnG_eq, tkG_eq, drG_eq]
        cases Nat.beq (List.length ((cs.drop o).take k)) k <;> rfl
    · rename_i hz
      show Option.none = _
      simp only [ldE, ha, hz]
      generalize evE f x = w
      rcases w with _ | w
      · rfl
      cases w <;> try rfl
      rename_i a
      rcases a with _ | ⟨b, o, q⟩
      · rfl
      cases q <;> try rfl
      show Option.none = match cellsE A b with
        | some cs => Option.none
        | Option.none => Option.none
      cases cellsE A b <;> rfl
  · rename_i ha
    show ptrK _ _ = _
    rw [evG_eq]
    simp only [ldE, ha]
    generalize evE f x = w
    rcases w with _ | w
    · rfl
    cases w <;> try rfl
    rename_i a
    rcases a with _ | ⟨b, o, q⟩
    · rfl
    cases q <;> try rfl
    show Option.rec (motive := fun _ => Option (Value × List Nat)) _ _ (cellsG A b) = match cellsE A b with
      | some cs => (match cs[o]? with
        | some v => some (v, [b])
        | Option.none => Option.none)
      | Option.none => Option.none
    rw [cellsG_eq]
    cases cellsE A b with
    | none => rfl
    | some cs =>
      show Option.rec (motive := fun _ => Option (Value × List Nat)) _ _ (nthG cs o) = match cs[o]? with
        | some v => some (v, [b])
        | Option.none => Option.none
      rw [nthG_eq]
      cases cs[o]? <;> rfl
  · rename_i ha
    show Option.none = _
    simp only [ldE, ha]
    generalize evE f x = w
    rcases w with _ | w
    · rfl
    cases w <;> try rfl
    rename_i a
    rcases a with _ | ⟨b, o, q⟩
    · rfl
    cases q <;> try rfl
    show Option.none = match cellsE A b with
      | some cs => Option.none
      | Option.none => Option.none
    cases cellsE A b <;> rfl
noncomputable def intK {α : Type} (v : Option Value) (d : α) (k : IntKind → Nat → α) : α := match v with
  | some (.int i (.ofNat a)) => k i a
  | _ => d
noncomputable def cvBin (op : BinOp) (x y : Operand) (slow : Tv → Hp → Option (Value × List Nat)) : Cv :=
  ⟨fun f A => intK (evG x f) (slow f A) fun i a => intK (evG y f) (slow f A) fun j b => Bool.rec (motive := fun _ => Option (Value × List Nat)) (slow f A) (Option.rec (motive := fun _ => Option (Value × List Nat)) (slow f A) (fun v => some (v, [])) (binN op i a b)) (Nat.beq (ikN i) (ikN j))⟩
theorem cvBin_run {op : BinOp} {x y : Operand} {slow : Tv → Hp → Option (Value × List Nat)} {f : Tv} {A : Hp} (h : ∀ v, binE op (evE f x) (evE f y) = some v → slow f A = some (v, [])) : (cvBin op x y slow).run f A = slow f A := by
  show intK _ _ _ = _
  rw [evG_eq, evG_eq]
  generalize evE f x = u at h
  generalize evE f y = w at h
  rcases u with _ | u
  · rfl
  cases u <;> try rfl
  rename_i i n
  cases n <;> try rfl
  rename_i a
  rcases w with _ | w
  · rfl
  cases w <;> try rfl
  rename_i j n
  cases n <;> try rfl
  rename_i b
  show Bool.rec (motive := fun _ => Option (Value × List Nat)) (slow f A) (Option.rec (motive := fun _ => Option (Value × List Nat)) (slow f A) (fun v => some (v, [])) (binN op i a b)) (Nat.beq (ikN i) (ikN j)) = slow f A
  have h' : ∀ v, (bif Nat.beq (ikN i) (ikN j) then binN op i a b else Option.none) = some v → slow f A = some (v, []) := h
  cases hk : Nat.beq (ikN i) (ikN j) with
  | false => rfl
  | true =>
    rw [hk] at h'
    cases hb : binN op i a b with
    | none => rfl
    | some v => exact (h' v hb).symm
noncomputable def cvNot (x : Operand) (slow : Tv → Hp → Option (Value × List Nat)) : Cv :=
  ⟨fun f A => match evG x f with
    | some (.bool b) => some (.bool (Bool.rec (motive := fun _ => Bool) true false b), [])
    | _ => slow f A⟩
noncomputable def cvIdx (P : Program) (t : TypeId) (x y : Operand) : Cv := match P.underlying t with
  | some (.slice el) => match szE P el with
    | some z => ⟨fun f _ => match evG y f with
      | some (.int _ (.ofNat j)) => match evG x f with
        | some (.slice (some ⟨b, o, Option.none⟩) l _) => Bool.rec (motive := fun _ => Option (Value × List Nat)) Option.none (some (.pointer (some ⟨b, Nat.add o (Nat.mul j z), Option.none⟩), [])) (Nat.blt j l)
        | _ => Option.none
      | _ => Option.none⟩
    | Option.none => ⟨fun _ _ => Option.none⟩
  | _ => ⟨fun f _ => noR (idxE P f t x y)⟩
theorem cvIdx_run {P : Program} (t : TypeId) (x y : Operand) (f : Tv) (A : Hp) : (cvIdx P t x y).run f A = noR (idxE P f t x y) := by
  unfold cvIdx
  split
  · rename_i el hu
    unfold idxE
    rw [hu]
    split
    · rename_i z hz
      show (match evG y f with
        | some (.int _ (.ofNat j)) => match evG x f with
          | some (.slice (some ⟨b, o, Option.none⟩) l _) => Bool.rec (motive := fun _ => Option (Value × List Nat)) Option.none (some (.pointer (some ⟨b, Nat.add o (Nat.mul j z), Option.none⟩), [])) (Nat.blt j l)
          | _ => Option.none
        | _ => Option.none) = _
      rw [evG_eq, evG_eq]
      generalize evE f y = v
      rcases v with _ | v
      · rfl
      cases v <;> try rfl
      rename_i ki n
      cases n <;> try rfl
      rename_i j
      generalize evE f x = w
      rcases w with _ | w
      · rfl
      cases w <;> try rfl
      rename_i a l c
      rcases a with _ | ⟨b, o, q⟩
      · rfl
      cases q <;> try rfl
      show _ = noR (match szE P el with
        | some z => (bif Nat.blt j l then some (.pointer (some ⟨b, Nat.add o (Nat.mul j z), Option.none⟩)) else Option.none)
        | Option.none => Option.none)
      rw [hz]
      cases hb : Nat.blt j l <;> simp only [hb] <;> rfl
    · rename_i hz
      show Option.none = _
      generalize evE f y = v
      rcases v with _ | v
      · rfl
      cases v <;> try rfl
      rename_i ki n
      cases n <;> try rfl
      rename_i j
      generalize evE f x = w
      rcases w with _ | w
      · rfl
      cases w <;> try rfl
      rename_i a l c
      rcases a with _ | ⟨b, o, q⟩
      · rfl
      cases q <;> try rfl
      show _ = noR (match szE P el with
        | some z => (bif Nat.blt j l then some (.pointer (some ⟨b, Nat.add o (Nat.mul j z), Option.none⟩)) else Option.none)
        | Option.none => Option.none)
      rw [hz] <;> rfl
  · rfl
/-- What reads, made ready. -/
noncomputable def cvOp (P : Program) (o : Oper) : Cv := match o.op with
  | .move x => cvEv x
  | .assign x => cvEv x
  | .pick c a b => ⟨fun f _ => vR (match evG c f with
    | some (.bool w) => Bool.rec (motive := fun _ => Option Value) (evG b f) (evG a f) w
    | _ => Option.none)⟩
  | .nilCheck x => ⟨fun f _ => match evG x f with
    | some (.pointer (some a)) => some (.pointer (some a), [])
    | _ => Option.none⟩
  | .fieldAddr s x i => cvFld P s x i
  | .indexAddr t x y => cvIdx P t x y
  | .load t x => cvLd P t x
  | .extract x i => ⟨fun f _ => match evG x f with
    | some (.tuple ⟨vs⟩) => vR (nthG vs i)
    | _ => Option.none⟩
  | .binOp op _ x y _ => cvBin op x y fun f A => rdE P f A o
  | .unOp .not _ x => cvNot x fun f A => rdE P f A o
  | _ => ⟨fun f A => rdE P f A o⟩
theorem cvOp_run {P : Program} (o : Oper) (f : Tv) (A : Hp) : (cvOp P o).run f A = rdE P f A o := by
  obtain ⟨d, op, ty, pos, af, gd⟩ := o
  unfold cvOp
  split <;> (rename_i hop; try simp only at hop) <;> (try subst hop)
  · exact cvEv_run _ _ _
  · exact cvEv_run _ _ _
  · rename_i c a b
    show vR (match evG c f with
      | some (.bool w) => Bool.rec (motive := fun _ => Option Value) (evG b f) (evG a f) w
      | _ => Option.none) = noR (match evE f c with
      | some (.bool true) => evE f a
      | some (.bool false) => evE f b
      | _ => Option.none)
    rw [vR_eq, evG_eq, evG_eq, evG_eq]
    generalize evE f c = w
    rcases w with _ | w
    · rfl
    cases w <;> try rfl
    rename_i w
    cases w <;> rfl
  · rename_i x
    show (match evG x f with
      | some (.pointer (some a)) => some (.pointer (some a), [])
      | _ => Option.none) = noR (nilE f x)
    rw [evG_eq]
    unfold nilE
    generalize evE f x = w
    rcases w with _ | w
    · rfl
    cases w <;> try rfl
    rename_i a
    cases a <;> rfl
  · exact cvFld_run _ _ _ _ _
  · exact cvIdx_run _ _ _ _ _
  · exact cvLd_run _ _ _ _
  · rename_i x i
    show (match evG x f with
      | some (.tuple ⟨vs⟩) => vR (nthG vs i)
      | _ => Option.none) = noR (extrE f x i)
    rw [evG_eq]
    unfold extrE
    generalize evE f x = w
    rcases w with _ | w
    · rfl
    cases w <;> try rfl
    rename_i a
    obtain ⟨vs⟩ := a
    show vR (nthG vs i) = noR (vs[i]?)
    rw [vR_eq, nthG_eq]
  · rename_i bop x y t t2
    refine cvBin_run fun v hv => ?_
    show rdE P f A _ = _
    simp only [rdE, hv]
  · rename_i t x
    show (match evG x f with
      | some (.bool b) => some (Value.bool (Bool.rec (motive := fun _ => Bool) true false b), ([] : List Nat))
      | _ => rdE P f A _) = _
    rw [evG_eq]
    cases hw : evE f x with
    | none => rfl
    | some w =>
      cases w <;> try rfl
      rename_i b
      simp only [rdE, hw, unE]
      cases b <;> rfl
  · rfl
end Go.RK

/-
  AN EVALUATOR THAT IS PROVED, 22: operations, regions made ready. No program is named here.
-/
namespace Go.RK
open Go

noncomputable def rdO (c : Cv) (f : Tv) (A : Hp) : Option (Value × Hp) := Option.rec (motive := fun _ => Option (Value × Hp)) Option.none (fun p => Prod.rec (motive := fun _ => Option (Value × Hp)) (fun v _ => some (v, A)) p) (c.run f A)
/-- What makes or turns memory, or reads. -/
noncomputable def ceOp (P : Program) (o : Oper) : Co := match o.op with
  | .alloc t => ⟨fun _ A => allocE P A t⟩
  | .box t x => ⟨fun f A => boxE f A t x⟩
  | .buildSlice t n ⟨ps⟩ => ⟨fun f A => bslE P f A t n ps⟩
  | .store t x y => ⟨fun f A => unR (stoE P f A t x y)⟩
  | .makeSlice t x y => ⟨fun f A => mkSE P f A t x y⟩
  | .move _ => ⟨rdO (cvOp P o)⟩
  | .assign _ => ⟨rdO (cvOp P o)⟩
  | .pick _ _ _ => ⟨rdO (cvOp P o)⟩
  | .nilCheck _ => ⟨rdO (cvOp P o)⟩
  | .fieldAddr _ _ _ => ⟨rdO (cvOp P o)⟩
  | .indexAddr _ _ _ => ⟨rdO (cvOp P o)⟩
  | .load _ _ => ⟨rdO (cvOp P o)⟩
  | .extract _ _ => ⟨rdO (cvOp P o)⟩
  | .binOp _ _ _ _ _ => ⟨rdO (cvOp P o)⟩
  | .unOp _ _ _ => ⟨rdO (cvOp P o)⟩
  | _ => ⟨fun f A => opE P f A o⟩
theorem rdO_eq {P : Program} {o : Oper} {f : Tv} {A : Hp} (h : efE P f A o = Option.none) : rdO (cvOp P o) f A = opE P f A o := by
  unfold rdO opE
  rw [cvOp_run, h]
  cases rdE P f A o with
  | none => rfl
  | some p => obtain ⟨v, bs⟩ := p; rfl
theorem ceOp_run {P : Program} (o : Oper) (f : Tv) (A : Hp) : (ceOp P o).run f A = opE P f A o := by
  obtain ⟨d, op, ty, pos, af, gd⟩ := o
  unfold ceOp
  split <;> (rename_i hop; try simp only at hop) <;> (try subst hop) <;> first | rfl | exact rdO_eq rfl
noncomputable def apG (xs ys : List Value) : List Value := List.rec (motive := fun _ => List Value) ys (fun x _ ih => x :: ih) xs
theorem apG_eq : ∀ (xs ys : List Value), apG xs ys = xs ++ ys
  | [], _ => rfl
  | x :: xs, ys => congrArg (x :: ·) (apG_eq xs ys)
noncomputable def evLG (xs : List Operand) (f : Tv) : Option (List Value) := List.rec (motive := fun _ => Option (List Value)) (some []) (fun x _ ih => Option.rec (motive := fun _ => Option (List Value)) Option.none (fun v => Option.rec (motive := fun _ => Option (List Value)) Option.none (fun vs => some (v :: vs)) ih) (evG x f)) xs
theorem evLG_eq (f : Tv) : ∀ (xs : List Operand), evLG xs f = evL f xs
  | [] => rfl
  | x :: xs => by
    show Option.rec (motive := fun _ => Option (List Value)) Option.none (fun v => Option.rec (motive := fun _ => Option (List Value)) Option.none (fun vs => some (v :: vs)) (evLG xs f)) (evG x f) = match evE f x with
      | some v => (match evL f xs with
        | some vs => some (v :: vs)
        | Option.none => Option.none)
      | Option.none => Option.none
    rw [evG_eq, evLG_eq f xs]
    cases evE f x with
    | none => rfl
    | some v => cases evL f xs <;> rfl
/-- The heap with its marks read. -/
noncomputable def prK (A : Hp) (k : Hp → Option (Tv × Hp)) : Option (Tv × Hp) := List.rec (motive := fun _ => Option (Tv × Hp)) (k ⟨A.t, A.nx, []⟩) (fun _ _ _ => k A) A.pr
theorem prK_eq (A : Hp) (k : Hp → Option (Tv × Hp)) : prK A k = k A := by
  obtain ⟨t, n, p⟩ := A
  cases p <;> rfl
noncomputable def putO (D : Dc) (f : Tv) (r : Option (Value × Hp)) : Option (Tv × Hp) := Option.rec (motive := fun _ => Option (Tv × Hp)) Option.none (fun p => Prod.rec (motive := fun _ => Option (Tv × Hp)) (fun v A => D.go f v A) p) r
/-- The same, where memory may have been turned. -/
noncomputable def putM (D : Dc) (f : Tv) (r : Option (Value × Hp)) : Option (Tv × Hp) := Option.rec (motive := fun _ => Option (Tv × Hp)) Option.none (fun p => Prod.rec (motive := fun _ => Option (Tv × Hp)) (fun v A => prK A fun A => D.go f v A) p) r
theorem putM_eq (D : Dc) (f : Tv) (r : Option (Value × Hp)) : putM D f r = putO D f r := by
  cases r with
  | none => rfl
  | some p => obtain ⟨v, A⟩ := p; exact prK_eq A _
/-- Does an operation only read? -/
noncomputable def onlyR (o : Oper) : Bool := match o.op with
  | .move _ | .assign _ | .pick _ _ _ | .nilCheck _ | .fieldAddr _ _ _ | .indexAddr _ _ _ | .load _ _ | .extract _ _ | .binOp _ _ _ _ _ | .unOp _ _ _ => true
  | _ => false
/-- An operation without a guard. -/
noncomputable def cGo (P : Program) (m : Nat) (rd : Bool) (l0 : List Oper) (o : Oper) : Cl := match o.op with
  | .call { callee := .value x, args := ⟨xs⟩, .. } => ⟨fun C Y f A => match evG x f with
    | some (.func (.func k) ⟨a⟩ ⟨b⟩) => Option.rec (motive := fun _ => Option (Tv × Hp)) Option.none (fun vs => putO (dC m o.dst) f (C k (apG a (apG vs b)) A)) (evLG xs f)
    | _ => Bool.rec (motive := fun _ => Option (Tv × Hp)) (oneY P C Y m l0 f A o) (oneE P C m l0 f A o) rd⟩
  | _ => bif onlyR o then ⟨fun _ _ f A => putO (dC m o.dst) f ((ceOp P o).run f A)⟩ else ⟨fun _ _ f A => putM (dC m o.dst) f ((ceOp P o).run f A)⟩
noncomputable def cOp (P : Program) (m : Nat) (rd : Bool) (l0 : List Oper) (o : Oper) : Cl := match o.guard with
  | Option.none => cGo P m rd l0 o
  | some _ => ⟨fun C Y f A => Bool.rec (motive := fun _ => Option (Tv × Hp)) (oneY P C Y m l0 f A o) (oneE P C m l0 f A o) rd⟩
/-- What the operation does, in a round and out of one. -/
noncomputable def onG (P : Program) (m : Nat) (rd : Bool) (l0 : List Oper) (o : Oper) (C : CallE) (Y : YldE) (f : Tv) (A : Hp) : Option (Tv × Hp) := bif rd then oneE P C m l0 f A o else oneY P C Y m l0 f A o
theorem putO_eq {m : Nat} {d : Option Nat} {f : Tv} {r : Option (Value × Hp)} : putO (dC m d) f r = match r with
    | some (v, A') => (match dstE m f d v with
      | some f' => some (f', A')
      | Option.none => Option.none)
    | Option.none => Option.none := by
  cases r with
  | none => rfl
  | some p => obtain ⟨v, A'⟩ := p; exact dC_go m d f v A'
theorem oneE_go {P : Program} {C : CallE} {m : Nat} {l0 : List Oper} {f : Tv} {A : Hp} {o : Oper} (hg : o.guard = Option.none) : oneE P C m l0 f A o = putO (dC m o.dst) f (doE P C f A o) := by
  rw [putO_eq]
  unfold oneE gateE
  rw [hg] <;> rfl
theorem cOp_run {P : Program} {m : Nat} {rd : Bool} {l0 : List Oper} (o : Oper) (C : CallE) (Y : YldE) (f : Tv) (A : Hp) : (cOp P m rd l0 o).run C Y f A = onG P m rd l0 o C Y f A := by
  have slow : Bool.rec (motive := fun _ => Option (Tv × Hp)) (oneY P C Y m l0 f A o) (oneE P C m l0 f A o) rd = onG P m rd l0 o C Y f A := brec _ _ _
  unfold cOp
  split
  · rename_i hg
    have one : ylE f o = Option.none → onG P m rd l0 o C Y f A = putO (dC m o.dst) f (doE P C f A o) := fun hy => by
      rw [← oneE_go hg]
      unfold onG
      cases rd with
      | true => rfl
      | false => show oneY P C Y m l0 f A o = _; unfold oneY; rw [hy]
    unfold cGo
    split
    · rename_i x xs ts hop
      show (match evG x f with
        | some (.func (.func k) ⟨a⟩ ⟨b⟩) => Option.rec (motive := fun _ => Option (Tv × Hp)) Option.none (fun vs => putO (dC m o.dst) f (C k (apG a (apG vs b)) A)) (evLG xs f)
        | _ => Bool.rec (motive := fun _ => Option (Tv × Hp)) (oneY P C Y m l0 f A o) (oneE P C m l0 f A o) rd) = _
      rw [slow, evG_eq, evLG_eq]
      split
      · rename_i k a b hx
        have hy : ylE f o = Option.none := by
          unfold ylE
          rw [hop]
          split
          · rename_i t xs' ts' heq
            injection heq with heq
            injection heq with h1 h2 h3
            injection h1 with h1
            subst h1
            have hft : f.get t = _ := hx
            rw [hft]
          · rfl
        rw [one hy]
        have hcl : clE f o = match evL f xs with
          | some vs => some (k, a ++ (vs ++ b))
          | Option.none => Option.none := by
          unfold clE
          rw [hop]
          simp only [hx]
          cases evL f xs <;> rfl
        unfold doE
        rw [hcl]
        cases evL f xs with
        | none =>
          simp only
          show Option.none = putO _ _ (opE P f A o)
          have : opE P f A o = Option.none := by
            unfold opE rdE efE
            rw [hop]
          rw [this] <;> rfl
        | some vs => show putO _ _ (C k (apG a (apG vs b)) A) = _; rw [apG_eq, apG_eq]
      · rfl
    · rename_i hn
      have hrun : (bif onlyR o then (⟨fun _ _ f A => putO (dC m o.dst) f ((ceOp P o).run f A)⟩ : Cl) else ⟨fun _ _ f A => putM (dC m o.dst) f ((ceOp P o).run f A)⟩).run C Y f A = putO (dC m o.dst) f ((ceOp P o).run f A) := by
        cases onlyR o
        · exact putM_eq _ _ _
        · rfl
      rw [hrun, ceOp_run]
      have hcl : clE f o = Option.none := by
        unfold clE
        split
        · rename_i x xs ts heq; exact absurd heq (hn _ _ _)
        · rfl
      have hy : ylE f o = Option.none := by
        unfold ylE
        split
        · rename_i x xs ts heq; exact absurd heq (hn _ _ _)
        · rfl
      rw [one hy]
      unfold doE
      rw [hcl]
  · exact slow
/-- A region in its order. -/
noncomputable def cReg (P : Program) (m : Nat) (rd : Bool) (l0 : List Oper) (l : List Oper) : Cl := List.rec (motive := fun _ => Cl) ⟨fun _ _ f A => some (f, A)⟩ (fun o _ ih => ⟨fun C Y f A => Option.rec (motive := fun _ => Option (Tv × Hp)) Option.none (fun p => Prod.rec (motive := fun _ => Option (Tv × Hp)) (fun f' A' => ih.run C Y f' A') p) ((cOp P m rd l0 o).run C Y f A)⟩) l
theorem cReg_t {P : Program} {m : Nat} {l0 : List Oper} {C : CallE} {Y : YldE} : ∀ (l : List Oper) (f : Tv) (A : Hp), (cReg P m true l0 l).run C Y f A = regE P C m l0 l f A
  | [], _, _ => rfl
  | o :: l, f, A => by
    show Option.rec (motive := fun _ => Option (Tv × Hp)) Option.none (fun p => Prod.rec (motive := fun _ => Option (Tv × Hp)) (fun f' A' => (cReg P m true l0 l).run C Y f' A') p) ((cOp P m true l0 o).run C Y f A) = match oneE P C m l0 f A o with
      | some (f', A') => regE P C m l0 l f' A'
      | Option.none => Option.none
    rw [cOp_run]
    show Option.rec (motive := fun _ => Option (Tv × Hp)) _ _ (oneE P C m l0 f A o) = _
    cases oneE P C m l0 f A o with
    | none => rfl
    | some p => obtain ⟨f', A'⟩ := p; exact cReg_t l f' A'
theorem cReg_f {P : Program} {m : Nat} {l0 : List Oper} {C : CallE} {Y : YldE} : ∀ (l : List Oper) (f : Tv) (A : Hp), (cReg P m false l0 l).run C Y f A = regY P C Y m l0 l f A
  | [], _, _ => rfl
  | o :: l, f, A => by
    show Option.rec (motive := fun _ => Option (Tv × Hp)) Option.none (fun p => Prod.rec (motive := fun _ => Option (Tv × Hp)) (fun f' A' => (cReg P m false l0 l).run C Y f' A') p) ((cOp P m false l0 o).run C Y f A) = match oneY P C Y m l0 f A o with
      | some (f', A') => regY P C Y m l0 l f' A'
      | Option.none => Option.none
    rw [cOp_run]
    show Option.rec (motive := fun _ => Option (Tv × Hp)) _ _ (oneY P C Y m l0 f A o) = _
    cases oneY P C Y m l0 f A o with
    | none => rfl
    | some p => obtain ⟨f', A'⟩ := p; exact cReg_f l f' A'

/-! ### regions that draw -/
structure Cd where
  run : CallE → List (Nat × Nat) → Tv → Hp → Option (Tv × Hp)
noncomputable def addZ (i : Nat) (Z : List (Nat × Nat)) (bs : List Nat) : List (Nat × Nat) := List.rec (motive := fun _ => List (Nat × Nat)) Z (fun b _ ih => (i, b) :: ih) bs
theorem addZ_eq (i : Nat) (Z : List (Nat × Nat)) : ∀ bs : List Nat, addZ i Z bs = bs.map (fun b => (i, b)) ++ Z
  | [] => rfl
  | b :: bs => congrArg ((i, b) :: ·) (addZ_eq i Z bs)
noncomputable def badD : Cd := ⟨fun _ _ _ _ => Option.none⟩
/-- One that reads. -/
noncomputable def cdR (P : Program) (m : Nat) (l : List Oper) (i : Nat) (o : Oper) (next : Cd) : Cd := match o.guard with
  | Option.none => ⟨fun C Z f A => Option.rec (motive := fun _ => Option (Tv × Hp)) Option.none (fun p => Prod.rec (motive := fun _ => Option (Tv × Hp)) (fun v bs => Option.rec (motive := fun _ => Option (Tv × Hp)) Option.none (fun q => Prod.rec (motive := fun _ => Option (Tv × Hp)) (fun f' A' => next.run C (addZ i Z bs) f' A') q) ((dC m o.dst).go f v A)) p) ((cvOp P o).run f A)⟩
  | some _ => ⟨fun C Z f A => match gateE l f o with
    | some true => match rdE P f A o with
      | some (v, bs) => match dstE m f o.dst v with
        | some f' => next.run C (bs.map (fun b => (i, b)) ++ Z) f' A
        | Option.none => Option.none
      | Option.none => Option.none
    | some false => match dstE m f o.dst undef with
      | some f' => next.run C Z f' A
      | Option.none => Option.none
    | Option.none => Option.none⟩
/-- One that acts. -/
noncomputable def cdA (P : Program) (m : Nat) (l : List Oper) (c : Nat) (o : Oper) (rs : List Nat) (next : Cd) : Cd := ⟨fun C Z f A => List.rec (motive := fun _ => Option (Tv × Hp))
  (Option.rec (motive := fun _ => Option (Tv × Hp)) Option.none (fun p => Prod.rec (motive := fun _ => Option (Tv × Hp)) (fun f' A' => next.run C [] f' ⟨A'.t, A'.nx, A.pr⟩) p) ((cOp P m true l o).run C (fun _ _ _ => Option.none) (cutF l c rs f) A))
  (fun _ _ _ =>
    let zs := (Z.filter fun z => !reachB l.toArray 4 c z.1).map (·.2)
    bif zs.all (liveB A) then
      (match oneE P C m l (cutF l c rs f) { A with pr := zs ++ A.pr } o with
      | some (f', A') => next.run C Z f' { A' with pr := A.pr }
      | Option.none => Option.none)
    else Option.none) Z⟩
noncomputable def cDr (P : Program) (m : Nat) (l : List Oper) : Nat → Array Bool → Cd
  | 0, _ => badD
  | n + 1, L => match Region.ready .any l.toArray L with
    | [] => ⟨fun _ _ f A => some (f, A)⟩
    | r :: rs' => match pickR l (r :: rs') with
      | some i => match l[i]? with
        | some o => bif Region.free .any l.toArray L i then cdR P m l i o (cDr P m l n (L.setIfInBounds i true)) else badD
        | Option.none => badD
      | Option.none => match pickA l (r :: rs') with
        | some c => match l[c]? with
          | some o => bif (r :: rs').contains c && apartE P m l c (r :: rs') then cdA P m l c o (r :: rs') (cDr P m l n (L.setIfInBounds c true)) else badD
          | Option.none => badD
        | Option.none => badD
theorem cdR_run {P : Program} {m : Nat} {l : List Oper} {i : Nat} {o : Oper} {next : Cd} {C : CallE} {Z : List (Nat × Nat)} {f : Tv} {A : Hp} : (cdR P m l i o next).run C Z f A = match gateE l f o with
    | some true => (match rdE P f A o with
      | some (v, bs) => (match dstE m f o.dst v with
        | some f' => next.run C (bs.map (fun b => (i, b)) ++ Z) f' A
        | Option.none => Option.none)
      | Option.none => Option.none)
    | some false => (match dstE m f o.dst undef with
      | some f' => next.run C Z f' A
      | Option.none => Option.none)
    | Option.none => Option.none := by
  unfold cdR
  split
  · rename_i hg
    have : gateE l f o = some true := by unfold gateE; rw [hg]
    rw [this]
    show Option.rec (motive := fun _ => Option (Tv × Hp)) Option.none (fun p => Prod.rec (motive := fun _ => Option (Tv × Hp)) (fun v bs => Option.rec (motive := fun _ => Option (Tv × Hp)) Option.none (fun q => Prod.rec (motive := fun _ => Option (Tv × Hp)) (fun f' A' => next.run C (addZ i Z bs) f' A') q) ((dC m o.dst).go f v A)) p) ((cvOp P o).run f A) = _
    rw [cvOp_run]
    cases rdE P f A o with
    | none => rfl
    | some p =>
      obtain ⟨v, bs⟩ := p
      show Option.rec (motive := fun _ => Option (Tv × Hp)) Option.none (fun q => Prod.rec (motive := fun _ => Option (Tv × Hp)) (fun f' A' => next.run C (addZ i Z bs) f' A') q) ((dC m o.dst).go f v A) = _
      rw [dC_go, addZ_eq]
      simp only
      cases dstE m f o.dst v <;> rfl
  · rfl
end Go.RK

/-
  AN EVALUATOR THAT IS PROVED, 23: regions that draw, made ready: they do as told. No program is named here.
-/
namespace Go.RK
open Go

theorem Hp.eta (A : Hp) : ({ A with pr := [] ++ A.pr } : Hp) = A := by obtain ⟨t, n, p⟩ := A; rfl
theorem cdA_run {P : Program} {m : Nat} {l : List Oper} {c : Nat} {o : Oper} {rs : List Nat} {next : Cd} {C : CallE} {Z : List (Nat × Nat)} {f : Tv} {A : Hp} : (cdA P m l c o rs next).run C Z f A =
    (bif ((Z.filter fun z => !reachB l.toArray 4 c z.1).map (·.2)).all (liveB A) then
      (match oneE P C m l (cutF l c rs f) { A with pr := ((Z.filter fun z => !reachB l.toArray 4 c z.1).map (·.2)) ++ A.pr } o with
      | some (f', A') => next.run C Z f' { A' with pr := A.pr }
      | Option.none => Option.none)
    else Option.none) := by
  cases Z with
  | nil =>
    show Option.rec (motive := fun _ => Option (Tv × Hp)) Option.none (fun p => Prod.rec (motive := fun _ => Option (Tv × Hp)) (fun f' A' => next.run C [] f' ⟨A'.t, A'.nx, A.pr⟩) p) ((cOp P m true l o).run C (fun _ _ _ => Option.none) (cutF l c rs f) A) = (match oneE P C m l (cutF l c rs f) { A with pr := [] ++ A.pr } o with
      | some (f', A') => next.run C [] f' { A' with pr := A.pr }
      | Option.none => Option.none)
    rw [cOp_run, Hp.eta]
    show Option.rec (motive := fun _ => Option (Tv × Hp)) _ _ (oneE P C m l (cutF l c rs f) A o) = _
    cases oneE P C m l (cutF l c rs f) A o with
    | none => rfl
    | some p => rfl
  | cons z Z => rfl
theorem cDr_run {P : Program} {m : Nat} {l : List Oper} {C : CallE} : ∀ (n : Nat) (L : Array Bool) (Z : List (Nat × Nat)) (f : Tv) (A : Hp), (cDr P m l n L).run C Z f A = drawE P C m l n L Z f A
  | 0, L, Z, f, A => rfl
  | n + 1, L, Z, f, A => by
    unfold cDr drawE
    generalize Region.ready .any l.toArray L = rs
    cases rs with
    | nil => rfl
    | cons r rs' =>
      simp only
      generalize pickR l (r :: rs') = pr
      cases pr with
      | some i =>
        simp only
        cases l[i]? with
        | none => rfl
        | some o =>
          simp only
          cases Region.free .any l.toArray L i with
          | true =>
            show (cdR P m l i o (cDr P m l n (L.setIfInBounds i true))).run C Z f A = _
            rw [cdR_run]
            cases gateE l f o with
            | none => rfl
            | some b =>
              cases b with
              | true =>
                simp only
                cases rdE P f A o with
                | none => rfl
                | some p =>
                  obtain ⟨v, bs⟩ := p
                  simp only
                  cases dstE m f o.dst v with
                  | none => rfl
                  | some f' => exact cDr_run n _ _ _ _
              | false =>
                simp only
                cases dstE m f o.dst undef with
                | none => rfl
                | some f' => exact cDr_run n _ _ _ _
          | false =>
            show Option.none = _
            cases gateE l f o with
            | none => rfl
            | some b =>
              cases b with
              | true =>
                simp only
                cases rdE P f A o with
                | none => rfl
                | some p =>
                  obtain ⟨v, bs⟩ := p
                  simp only
                  cases dstE m f o.dst v <;> rfl
              | false =>
                simp only
                cases dstE m f o.dst undef <;> rfl
      | none =>
        simp only
        generalize pickA l (r :: rs') = pa
        cases pa with
        | none => rfl
        | some c =>
          simp only
          cases l[c]? with
          | none => rfl
          | some o =>
            simp only
            cases (r :: rs').contains c with
            | false => rfl
            | true =>
              cases apartE P m l c (r :: rs') with
              | false => rfl
              | true =>
                show (cdA P m l c o (r :: rs') (cDr P m l n (L.setIfInBounds c true))).run C Z f A = _
                rw [cdA_run]
                simp only [Bool.true_and]
                cases ((Z.filter fun z => !reachB l.toArray 4 c z.1).map (·.2)).all (liveB A) with
                | false => rfl
                | true =>
                  simp only [cond_true]
                  cases oneE P C m l (cutF l c (r :: rs') f) { A with pr := ((Z.filter fun z => !reachB l.toArray 4 c z.1).map (·.2)) ++ A.pr } o with
                  | none => rfl
                  | some p => exact cDr_run n _ _ _ _

/-! ### code -/
/-- What is left of the depth, and the calls and rounds that it leaves. -/
inductive Fu where
  | z
  | s (C : CallE) (Y : YldE) (p : Fu)
structure Cc where
  run : Fu → Tv → Hp → Option (Ou × Tv × Hp)
noncomputable def badC : Cc := ⟨fun _ _ _ => Option.none⟩
noncomputable def atC (k : CallE → YldE → Fu → Tv → Hp → Option (Ou × Tv × Hp)) : Cc := ⟨fun u => Fu.rec (motive := fun _ => Tv → Hp → Option (Ou × Tv × Hp)) (fun _ _ => Option.none) (fun C Y p _ => k C Y p) u⟩
noncomputable def okC (o : Ou) : Cc := atC fun _ _ _ f A => some (o, f, A)
noncomputable def norK (r : Option (Tv × Hp)) : Option (Ou × Tv × Hp) := Option.rec (motive := fun _ => Option (Ou × Tv × Hp)) Option.none (fun p => some (.normal, p)) r
noncomputable def ouK (o : Ou) (a b : Option (Ou × Tv × Hp)) : Option (Ou × Tv × Hp) := Ou.rec (motive := fun _ => Option (Ou × Tv × Hp)) a b (fun _ => b) (fun _ => b) o
noncomputable def seqK (r : Option (Ou × Tv × Hp)) (k : Tv → Hp → Option (Ou × Tv × Hp)) : Option (Ou × Tv × Hp) := Option.rec (motive := fun _ => Option (Ou × Tv × Hp)) Option.none (fun q => Prod.rec (motive := fun _ => Option (Ou × Tv × Hp)) (fun o p => Prod.rec (motive := fun _ => Option (Ou × Tv × Hp)) (fun f A => ouK o (k f A) (some (o, f, A))) p) q) r
theorem seqK_eq {r : Option (Ou × Tv × Hp)} {k : Tv → Hp → Option (Ou × Tv × Hp)} : seqK r k = match r with
    | some (.normal, f', A') => k f' A'
    | r => r := by
  cases r with
  | none => rfl
  | some q =>
    obtain ⟨o, f, A⟩ := q
    cases o <;> rfl
noncomputable def blkK (id : Nat) (r : Option (Ou × Tv × Hp)) : Option (Ou × Tv × Hp) := Option.rec (motive := fun _ => Option (Ou × Tv × Hp)) Option.none (fun q => Prod.rec (motive := fun _ => Option (Ou × Tv × Hp)) (fun o p => Ou.rec (motive := fun _ => Option (Ou × Tv × Hp)) (some (o, p)) (some (o, p)) (fun i => some (Bool.rec (motive := fun _ => Ou) (.exit i) .normal (Nat.beq i id), p)) (fun _ => some (o, p)) o) q) r
theorem blkK_eq {id : Nat} {r : Option (Ou × Tv × Hp)} : blkK id r = match r with
    | some (.exit i, f', A') => some (bif Nat.beq i id then .normal else .exit i, f', A')
    | r => r := by
  cases r with
  | none => rfl
  | some q =>
    obtain ⟨o, f, A⟩ := q
    cases o with
    | exit i => show some (Bool.rec (motive := fun _ => Ou) _ _ (Nat.beq i id), f, A) = _; rw [brec]
    | _ => rfl
noncomputable def loopG (b : Cc) (u : Fu) : Tv → Hp → Option (Ou × Tv × Hp) := Fu.rec (motive := fun _ => Tv → Hp → Option (Ou × Tv × Hp)) (fun _ _ => Option.none) (fun _ _ p ih f A => seqK (b.run p f A) ih) u
noncomputable def condK (v : Option Value) (a b : Option (Ou × Tv × Hp)) : Option (Ou × Tv × Hp) := match v with
  | some (.bool w) => Bool.rec (motive := fun _ => Option (Ou × Tv × Hp)) b a w
  | _ => Option.none
noncomputable def scoK (r : Option (Ou × Tv × Hp)) : Option (Ou × Tv × Hp) := match r with
  | some (.goto _, _, _) => Option.none
  | r => r
/-- Code made ready. -/
noncomputable def cCode (P : Program) (m : Nat) (rd : Bool) : Code → Cc
  | .skip => okC .normal
  | .label _ => okC .normal
  | .ret => okC .ret
  | .exit i => okC (.exit i)
  | .region _ ⟨l⟩ false => bif rd && !noDef l then badC else
      atC fun C Y _ f A => norK ((cReg P m rd l l).run C Y f A)
  | .region _ ⟨l⟩ true => bif (l.all fun o => notSel o.op) && (!rd || noDef l) then
      atC fun C _ _ f A => norK ((cDr P m l (Nat.succ l.length) (Array.replicate l.length false)).run C [] f A) else badC
  | .seq a b => atC fun _ _ u f A => seqK ((cCode P m rd a).run u f A) ((cCode P m rd b).run u)
  | .cond x a b => atC fun _ _ u f A => condK (evG x f) ((cCode P m rd a).run u f A) ((cCode P m rd b).run u f A)
  | .block id b => atC fun _ _ u f A => blkK id ((cCode P m rd b).run u f A)
  | .loop b => ⟨loopG (cCode P m rd b)⟩
  | .scope b => bif rd then badC else atC fun _ _ u f A => scoK ((cCode P m rd b).run u f A)
  | .rangeFunc x ⟨ps⟩ a b => bif rd then badC else atC fun C _ _ f A => match evG x f with
    | some (.func (.func k) ⟨[]⟩ ⟨lb⟩) => bif !bodyB P k then Option.none else match C k (.func (.yield A.nx) ⟨[]⟩ ⟨[]⟩ :: lb) (A.new (.loop 0 f ps a b .normal m)) with
      | some (_, A2) => match A2.t.get A.nx with
        | some (.loop st _ _ _ _ pend _) => bif Nat.beq st 1 then Option.none else match A2.kill A.nx with
          | some A3 => some (ouOf pend, f, A3)
          | Option.none => Option.none
        | _ => Option.none
      | Option.none => Option.none
    | _ => Option.none
  | _ => badC
end Go.RK

/-
  AN EVALUATOR THAT IS PROVED, 24: what is made ready runs as told. No program is named here.
-/
namespace Go.RK
open Go

structure Cf where
  run : Fu → List Value → Hp → Option (Value × Hp)
noncomputable def resK (P : Program) (rs : List ResultVar) (r : Option (Ou × Tv × Hp)) : Option (Value × Hp) := Option.rec (motive := fun _ => Option (Value × Hp)) Option.none (fun q => Prod.rec (motive := fun _ => Option (Value × Hp)) (fun o p => Prod.rec (motive := fun _ => Option (Value × Hp)) (fun f A => Bool.rec (motive := fun _ => Option (Value × Hp)) Option.none (Option.rec (motive := fun _ => Option (Value × Hp)) Option.none (fun us => some (tup us, A)) (resE P f A rs)) (Ou.rec (motive := fun _ => Bool) true true (fun _ => false) (fun _ => false) o)) p) q) r
theorem resK_eq {P : Program} {rs : List ResultVar} {r : Option (Ou × Tv × Hp)} : resK P rs r = match r with
    | some (.normal, f, A') => (match resE P f A' rs with
      | some us => some (tup us, A')
      | Option.none => Option.none)
    | some (.ret, f, A') => (match resE P f A' rs with
      | some us => some (tup us, A')
      | Option.none => Option.none)
    | _ => Option.none := by
  cases r with
  | none => rfl
  | some q =>
    obtain ⟨o, f, A⟩ := q
    cases o with
    | normal =>
      show Option.rec (motive := fun _ => Option (Value × Hp)) Option.none (fun us => some (tup us, A)) (resE P f A rs) = (match resE P f A rs with
        | some us => some (tup us, A)
        | Option.none => Option.none)
      cases resE P f A rs <;> rfl
    | ret =>
      show Option.rec (motive := fun _ => Option (Value × Hp)) Option.none (fun us => some (tup us, A)) (resE P f A rs) = (match resE P f A rs with
        | some us => some (tup us, A)
        | Option.none => Option.none)
      cases resE P f A rs <;> rfl
    | exit i => rfl
    | goto l => rfl
noncomputable def cFun (P : Program) (k : Nat) : Cf := match P.funcs[k]? with
  | some fn => match fn.body with
    | some c => ⟨fun u vs A => bif Nat.ble vs.length fn.ntmps then resK P fn.results.toList ((cCode P fn.ntmps false c).run u (argsE vs 0 .leaf) A) else Option.none⟩
    | Option.none => ⟨fun _ _ _ => Option.none⟩
  | Option.none => ⟨fun _ _ _ => Option.none⟩
noncomputable def callC (P : Program) (N : NatE) (u : Fu) : CallE := fun k vs A => Option.rec (motive := fun _ => Option (Value × Hp)) ((cFun P k).run u vs A) (fun r => r) (N k vs A)
noncomputable def yldC (P : Program) (u : Fu) : YldE := yldE fun m c f A => (cCode P m true c).run u f A
noncomputable def fuG (P : Program) (N : NatE) (n : Nat) : Fu := Nat.rec (motive := fun _ => Fu) .z (fun _ ih => .s (callC P N ih) (yldC P ih) ih) n
theorem code_z {P : Program} {m : Nat} {rd : Bool} (c : Code) (f : Tv) (A : Hp) : (cCode P m rd c).run .z f A = Option.none := by
  have hb : ∀ (b : Bool) (k : CallE → YldE → Fu → Tv → Hp → Option (Ou × Tv × Hp)), (bif b then badC else atC k).run .z f A = Option.none := fun b k => by cases b <;> rfl
  have hb' : ∀ (b : Bool) (k : CallE → YldE → Fu → Tv → Hp → Option (Ou × Tv × Hp)), (bif b then atC k else badC).run .z f A = Option.none := fun b k => by cases b <;> rfl
  cases c with
  | region id ops draw =>
    obtain ⟨l⟩ := ops
    cases draw
    · unfold cCode; exact hb _ _
    · unfold cCode; exact hb' _ _
  | scope b => unfold cCode; exact hb _ _
  | rangeFunc x ps a b =>
    obtain ⟨ps⟩ := ps
    unfold cCode; exact hb _ _
  | _ => rfl
section
variable {P : Program} {N : NatE} {n : Nat}
theorem callC_eq (ih : ∀ m c f A, (cCode P m false c).run (fuG P N n) f A = execE P N n false m c f A) : callC P N (fuG P N n) = callE P N (execE P N n false) := by
  funext k vs A
  unfold callC callE
  cases N k vs A with
  | some r => rfl
  | none =>
    show (cFun P k).run (fuG P N n) vs A = _
    unfold cFun
    simp only
    cases P.funcs[k]? with
    | none => rfl
    | some fn =>
      simp only
      cases hb : fn.body with
      | none => rfl
      | some c =>
        show (bif Nat.ble vs.length fn.ntmps then resK P fn.results.toList ((cCode P fn.ntmps false c).run (fuG P N n) (argsE vs 0 .leaf) A) else Option.none) = _
        rw [ih, resK_eq] <;> rfl
theorem yldC_eq (ih : ∀ m c f A, (cCode P m true c).run (fuG P N n) f A = execE P N n true m c f A) : yldC P (fuG P N n) = yldE (execE P N n true) := by
  unfold yldC
  congr 1
  funext m c f A
  exact ih m c f A
theorem condK_eq {v : Option Value} {a b : Option (Ou × Tv × Hp)} : condK v a b = match v with
    | some (.bool true) => a
    | some (.bool false) => b
    | _ => Option.none := by
  rcases v with _ | v
  · rfl
  cases v <;> try rfl
  rename_i w
  cases w <;> rfl
theorem norK_eq {r : Option (Tv × Hp)} : norK r = match r with
    | some (f', A') => some (.normal, f', A')
    | Option.none => Option.none := by cases r <;> rfl
theorem code_run : ∀ (n : Nat) (m : Nat) (rd : Bool) (c : Code) (f : Tv) (A : Hp), (cCode P m rd c).run (fuG P N n) f A = execE P N n rd m c f A
  | 0, m, rd, c, f, A => code_z c f A
  | n + 1, m, rd, c, f, A => by
    have ih := code_run n
    have hC := callC_eq (P := P) (N := N) (n := n) fun m c f A => ih m false c f A
    have hY := yldC_eq (P := P) (N := N) (n := n) fun m c f A => ih m true c f A
    show (cCode P m rd c).run (.s (callC P N (fuG P N n)) (yldC P (fuG P N n)) (fuG P N n)) f A = stepE P (callE P N (execE P N n false)) (yldE (execE P N n true)) m rd (execE P N n rd m) c f A
    rw [hC, hY]
    generalize callE P N (execE P N n false) = C
    generalize yldE (execE P N n true) = Y
    cases c with
    | region id ops draw =>
      obtain ⟨l⟩ := ops
      cases draw
      · unfold cCode stepE
        simp only
        cases rd with
        | false =>
          show norK ((cReg P m false l l).run C Y f A) = _
          rw [cReg_f, norK_eq] <;> rfl
        | true =>
          cases noDef l with
          | false => rfl
          | true =>
            show norK ((cReg P m true l l).run C Y f A) = _
            rw [cReg_t, norK_eq] <;> rfl
      · unfold cCode stepE
        simp only
        cases ((l.all fun o => notSel o.op) && (!rd || noDef l)) with
        | false => rfl
        | true =>
          show norK ((cDr P m l (Nat.succ l.length) (Array.replicate l.length false)).run C [] f A) = _
          rw [cDr_run, norK_eq] <;> rfl
    | seq a b =>
      show seqK ((cCode P m rd a).run (fuG P N n) f A) ((cCode P m rd b).run (fuG P N n)) = _
      rw [seqK_eq, ih]
      unfold stepE
      simp only
      rcases execE P N n rd m a f A with _ | ⟨o, f', A'⟩
      · rfl
      · cases o <;> first | rfl | exact ih _ _ _ _ _
    | cond x a b =>
      show condK (evG x f) ((cCode P m rd a).run (fuG P N n) f A) ((cCode P m rd b).run (fuG P N n) f A) = _
      rw [condK_eq, evG_eq, ih, ih] <;> rfl
    | block id b =>
      show blkK id ((cCode P m rd b).run (fuG P N n) f A) = _
      rw [blkK_eq, ih] <;> rfl
    | loop b =>
      show seqK ((cCode P m rd b).run (fuG P N n) f A) (loopG (cCode P m rd b) (fuG P N n)) = _
      rw [seqK_eq, ih]
      unfold stepE
      simp only
      rcases execE P N n rd m b f A with _ | ⟨o, f', A'⟩
      · rfl
      · cases o with
        | normal => exact ih m rd (.loop b) f' A'
        | _ => rfl
    | scope b =>
      unfold cCode stepE
      simp only
      cases rd with
      | true => rfl
      | false =>
        show scoK ((cCode P m false b).run (fuG P N n) f A) = _
        rw [ih] <;> rfl
    | rangeFunc x ps a b =>
      obtain ⟨ps⟩ := ps
      unfold cCode stepE
      simp only
      cases rd with
      | true => rfl
      | false =>
        show (match evG x f with
          | some (.func (.func k) ⟨[]⟩ ⟨lb⟩) => _
          | _ => _) = _
        rw [evG_eq] <;> rfl
    | _ => rfl
end
/-- What is made ready, run. -/
noncomputable def runG (P : Program) (N : NatE) (n : Nat) : CallE := callC P N (fuG P N n)
theorem runG_eq (P : Program) (N : NatE) (n : Nat) : runG P N n = runE P N n := callC_eq fun m c f A => code_run n m false c f A
/-- Does it say true? -/
noncomputable def evT (P : Program) (N : NatE) (n k : Nat) (vs : List Value) : Bool := match runG P N n k vs A0 with
  | some (.bool true, _) => true
  | _ => false
theorem evT_eq (P : Program) (N : NatE) (n k : Nat) (vs : List Value) : evT P N n k vs = evB P N n k vs := by
  unfold evT evB
  rw [runG_eq] <;> rfl
end Go.RK

/-
  What all texts of a seat share.
-/
namespace Go.Proofs.YtinjbljnbiiloaaGreatDoor
open Go Go.RK
theorem fol : Tryz.prog.follows .mixedOrders = true := by kernel_rfl
end Go.Proofs.YtinjbljnbiiloaaGreatDoor


/-
  What is known of this program's types, for steps that are taken by themselves.
-/
namespace Go.Proofs.YtinjbljnbiiloaaGreatDoor
open Go Go.RK
instance : SlcC Tryz.prog 43 := ⟨_, Tryz.underlying43⟩
instance : SlcC Tryz.prog 22 := ⟨_, Tryz.underlying22⟩
instance : SlcC Tryz.prog 60 := ⟨_, Tryz.underlying60⟩
instance : FldC Tryz.prog 25 5 5 := ⟨_, _, _, Tryz.underlying25, rfl, rfl, fun w => Tryz.sizeOf22 w⟩
instance : AggC Tryz.prog 22 := ⟨fun w => Tryz.isAgg22 w⟩
instance : FldC Tryz.prog 25 6 6 := ⟨_, _, _, Tryz.underlying25, rfl, rfl, fun w => Tryz.sizeOf22 w⟩
instance : FldC Tryz.prog 25 7 7 := ⟨_, _, _, Tryz.underlying25, rfl, rfl, fun w => Tryz.sizeOf22 w⟩
instance : FldC Tryz.prog 25 8 8 := ⟨_, _, _, Tryz.underlying25, rfl, rfl, fun w => Tryz.sizeOf23 w⟩
instance : AggC Tryz.prog 23 := ⟨fun w => Tryz.isAgg23 w⟩
instance : SlcC Tryz.prog 23 := ⟨_, Tryz.underlying23⟩
instance : FldC Tryz.prog 25 2 2 := ⟨_, _, _, Tryz.underlying25, rfl, rfl, fun w => Tryz.sizeOf9 w⟩
instance : AggC Tryz.prog 9 := ⟨fun w => Tryz.isAgg9 w⟩
instance : StrC Tryz.prog 9 := ⟨Tryz.underlying9⟩
instance : FldC Tryz.prog 25 3 3 := ⟨_, _, _, Tryz.underlying25, rfl, rfl, fun w => Tryz.sizeOf9 w⟩
instance : FldC Tryz.prog 25 4 4 := ⟨_, _, _, Tryz.underlying25, rfl, rfl, fun w => Tryz.sizeOf9 w⟩
instance : FldC Tryz.prog 29 7 7 := ⟨_, _, _, Tryz.underlying29, rfl, rfl, fun w => Tryz.sizeOf22 w⟩
instance : FldC Tryz.prog 29 8 8 := ⟨_, _, _, Tryz.underlying29, rfl, rfl, fun w => Tryz.sizeOf26 w⟩
instance : AggC Tryz.prog 26 := ⟨fun w => Tryz.isAgg26 w⟩
instance : SlcC Tryz.prog 26 := ⟨_, Tryz.underlying26⟩
instance : FldC Tryz.prog 29 9 9 := ⟨_, _, _, Tryz.underlying29, rfl, rfl, fun w => Tryz.sizeOf23 w⟩
instance : FldC Tryz.prog 29 10 10 := ⟨_, _, _, Tryz.underlying29, rfl, rfl, fun w => Tryz.sizeOf27 w⟩
instance : AggC Tryz.prog 27 := ⟨fun w => Tryz.isAgg27 w⟩
instance : SlcC Tryz.prog 27 := ⟨_, Tryz.underlying27⟩
instance : FldC Tryz.prog 29 2 2 := ⟨_, _, _, Tryz.underlying29, rfl, rfl, fun w => Tryz.sizeOf9 w⟩
instance : FldC Tryz.prog 29 3 3 := ⟨_, _, _, Tryz.underlying29, rfl, rfl, fun w => Tryz.sizeOf9 w⟩
instance : FldC Tryz.prog 29 4 4 := ⟨_, _, _, Tryz.underlying29, rfl, rfl, fun w => Tryz.sizeOf9 w⟩
instance : FldC Tryz.prog 42 0 0 := ⟨_, _, _, Tryz.underlying42, rfl, rfl, fun w => Tryz.sizeOf39 w⟩
instance : FldC Tryz.prog 39 1 1 := ⟨_, _, _, Tryz.underlying39, rfl, rfl, fun w => Tryz.sizeOf35 w⟩
instance : AggC Tryz.prog 35 := ⟨fun w => Tryz.isAgg35 w⟩
instance : FldC Tryz.prog 42 1 6 := ⟨_, _, _, Tryz.underlying42, rfl, rfl, fun w => Tryz.sizeOf40 w⟩
instance : AggC Tryz.prog 40 := ⟨fun w => Tryz.isAgg40 w⟩
instance : FldC Tryz.prog 39 0 0 := ⟨_, _, _, Tryz.underlying39, rfl, rfl, fun w => Tryz.sizeOf34 w⟩
instance : AggC Tryz.prog 34 := ⟨fun w => Tryz.isAgg34 w⟩
instance : SlcC Tryz.prog 86 := ⟨_, Tryz.underlying86⟩
instance : FldC Tryz.prog 25 0 0 := ⟨_, _, _, Tryz.underlying25, rfl, rfl, fun w => Tryz.sizeOf5 w⟩
instance : AggC Tryz.prog 5 := ⟨fun w => Tryz.isAgg5 w⟩
instance : FldC Tryz.prog 102 1 1 := ⟨_, _, _, Tryz.underlying102, rfl, rfl, fun w => Tryz.sizeOf100 w⟩
instance : FldC Tryz.prog 102 3 10 := ⟨_, _, _, Tryz.underlying102, rfl, rfl, fun w => Tryz.sizeOf60 w⟩
instance : AggC Tryz.prog 60 := ⟨fun w => Tryz.isAgg60 w⟩
instance : FldC Tryz.prog 102 4 11 := ⟨_, _, _, Tryz.underlying102, rfl, rfl, fun w => Tryz.sizeOf60 w⟩
instance : FldC Tryz.prog 102 2 9 := ⟨_, _, _, Tryz.underlying102, rfl, rfl, fun w => Tryz.sizeOf60 w⟩
instance : FldC Tryz.prog 102 5 12 := ⟨_, _, _, Tryz.underlying102, rfl, rfl, fun w => Tryz.sizeOf5 w⟩
instance : FldC Tryz.prog 39 3 5 := ⟨_, _, _, Tryz.underlying39, rfl, rfl, fun w => Tryz.sizeOf5 w⟩
instance : FldC Tryz.prog 39 2 2 := ⟨_, _, _, Tryz.underlying39, rfl, rfl, fun w => Tryz.sizeOf37 w⟩
instance : FldC Tryz.prog 29 0 0 := ⟨_, _, _, Tryz.underlying29, rfl, rfl, fun w => Tryz.sizeOf5 w⟩
instance : FldC Tryz.prog 42 2 7 := ⟨_, _, _, Tryz.underlying42, rfl, rfl, fun w => Tryz.sizeOf3 w⟩
instance : AggC Tryz.prog 3 := ⟨fun w => Tryz.isAgg3 w⟩
instance : FldC Tryz.prog 65 1 1 := ⟨_, _, _, Tryz.underlying65, rfl, rfl, fun w => Tryz.sizeOf43 w⟩
instance : AggC Tryz.prog 43 := ⟨fun w => Tryz.isAgg43 w⟩
instance : FldC Tryz.prog 69 0 0 := ⟨_, _, _, Tryz.underlying69, rfl, rfl, fun w => Tryz.sizeOf9 w⟩
instance : FldC Tryz.prog 73 1 1 := ⟨_, _, _, Tryz.underlying73, rfl, rfl, fun w => Tryz.sizeOf9 w⟩
instance : FldC Tryz.prog 146 6 6 := ⟨_, _, _, Tryz.underlying146, rfl, rfl, fun w => Tryz.sizeOf4 w⟩
instance : AggC Tryz.prog 4 := ⟨fun w => Tryz.isAgg4 w⟩
instance : FldC Tryz.prog 146 1 1 := ⟨_, _, _, Tryz.underlying146, rfl, rfl, fun w => Tryz.sizeOf137 w⟩
instance : AggC Tryz.prog 137 := ⟨fun w => Tryz.isAgg137 w⟩
instance : FldC Tryz.prog 146 5 5 := ⟨_, _, _, Tryz.underlying146, rfl, rfl, fun w => Tryz.sizeOf4 w⟩
instance : FldC Tryz.prog 146 2 2 := ⟨_, _, _, Tryz.underlying146, rfl, rfl, fun w => Tryz.sizeOf140 w⟩
instance : AggC Tryz.prog 140 := ⟨fun w => Tryz.isAgg140 w⟩
instance : FldC Tryz.prog 146 0 0 := ⟨_, _, _, Tryz.underlying146, rfl, rfl, fun w => Tryz.sizeOf144 w⟩
instance : AggC Tryz.prog 144 := ⟨fun w => Tryz.isAgg144 w⟩
instance : SlcC Tryz.prog 144 := ⟨_, Tryz.underlying144⟩
instance : FldC Tryz.prog 166 0 0 := ⟨_, _, _, Tryz.underlying166, rfl, rfl, fun w => Tryz.sizeOf60 w⟩
instance : FldC Tryz.prog 170 4 13 := ⟨_, _, _, Tryz.underlying170, rfl, rfl, fun w => Tryz.sizeOf3 w⟩
instance : FldC Tryz.prog 170 5 14 := ⟨_, _, _, Tryz.underlying170, rfl, rfl, fun w => Tryz.sizeOf4 w⟩
instance : FldC Tryz.prog 100 6 6 := ⟨_, _, _, Tryz.underlying100, rfl, rfl, fun w => Tryz.sizeOf98 w⟩
instance : AggC Tryz.prog 98 := ⟨fun w => Tryz.isAgg98 w⟩
instance : FldC Tryz.prog 177 1 1 := ⟨_, _, _, Tryz.underlying177, rfl, rfl, fun w => Tryz.sizeOf3 w⟩
instance : FldC Tryz.prog 166 1 1 := ⟨_, _, _, Tryz.underlying166, rfl, rfl, fun w => Tryz.sizeOf3 w⟩
instance : FldC Tryz.prog 100 0 0 := ⟨_, _, _, Tryz.underlying100, rfl, rfl, fun w => Tryz.sizeOf3 w⟩
instance : FldC Tryz.prog 100 1 1 := ⟨_, _, _, Tryz.underlying100, rfl, rfl, fun w => Tryz.sizeOf4 w⟩
instance : FldC Tryz.prog 100 7 7 := ⟨_, _, _, Tryz.underlying100, rfl, rfl, fun w => Tryz.sizeOf43 w⟩
instance : FldC Tryz.prog 50 0 0 := ⟨_, _, _, Tryz.underlying50, rfl, rfl, fun w => Tryz.sizeOf5 w⟩
instance : FldC Tryz.prog 50 1 1 := ⟨_, _, _, Tryz.underlying50, rfl, rfl, fun w => Tryz.sizeOf43 w⟩
instance : FldC Tryz.prog 188 0 0 := ⟨_, _, _, Tryz.underlying188, rfl, rfl, fun w => Tryz.sizeOf185 w⟩
instance : AggC Tryz.prog 185 := ⟨fun w => Tryz.isAgg185 w⟩
instance : FldC Tryz.prog 29 1 1 := ⟨_, _, _, Tryz.underlying29, rfl, rfl, fun w => Tryz.sizeOf5 w⟩
instance : FldC Tryz.prog 100 5 5 := ⟨_, _, _, Tryz.underlying100, rfl, rfl, fun w => Tryz.sizeOf97 w⟩
instance : AggC Tryz.prog 97 := ⟨fun w => Tryz.isAgg97 w⟩
instance : FldC Tryz.prog 37 0 0 := ⟨_, _, _, Tryz.underlying37, rfl, rfl, fun w => Tryz.sizeOf4 w⟩
instance : FldC Tryz.prog 29 5 5 := ⟨_, _, _, Tryz.underlying29, rfl, rfl, fun w => Tryz.sizeOf3 w⟩
instance : FldC Tryz.prog 29 6 6 := ⟨_, _, _, Tryz.underlying29, rfl, rfl, fun w => Tryz.sizeOf3 w⟩
instance : FldC Tryz.prog 177 0 0 := ⟨_, _, _, Tryz.underlying177, rfl, rfl, fun w => Tryz.sizeOf175 w⟩
instance : AggC Tryz.prog 175 := ⟨fun w => Tryz.isAgg175 w⟩
instance : FldC Tryz.prog 37 1 1 := ⟨_, _, _, Tryz.underlying37, rfl, rfl, fun w => Tryz.sizeOf4 w⟩
instance : FldC Tryz.prog 100 4 4 := ⟨_, _, _, Tryz.underlying100, rfl, rfl, fun w => Tryz.sizeOf97 w⟩
instance : SlcC Tryz.prog 97 := ⟨_, Tryz.underlying97⟩
instance : FldC Tryz.prog 211 0 0 := ⟨_, _, _, Tryz.underlying211, rfl, rfl, fun w => Tryz.sizeOf4 w⟩
instance : FldC Tryz.prog 211 2 2 := ⟨_, _, _, Tryz.underlying211, rfl, rfl, fun w => Tryz.sizeOf3 w⟩
instance : FldC Tryz.prog 37 2 2 := ⟨_, _, _, Tryz.underlying37, rfl, rfl, fun w => Tryz.sizeOf4 w⟩
instance : FldC Tryz.prog 126 0 0 := ⟨_, _, _, Tryz.underlying126, rfl, rfl, fun w => Tryz.sizeOf3 w⟩
instance : FldC Tryz.prog 126 1 1 := ⟨_, _, _, Tryz.underlying126, rfl, rfl, fun w => Tryz.sizeOf3 w⟩
instance : FldC Tryz.prog 126 2 2 := ⟨_, _, _, Tryz.underlying126, rfl, rfl, fun w => Tryz.sizeOf3 w⟩
instance : FldC Tryz.prog 126 3 3 := ⟨_, _, _, Tryz.underlying126, rfl, rfl, fun w => Tryz.sizeOf120 w⟩
instance : AggC Tryz.prog 120 := ⟨fun w => Tryz.isAgg120 w⟩
instance : SlcC Tryz.prog 120 := ⟨_, Tryz.underlying120⟩
instance : FldC Tryz.prog 124 0 0 := ⟨_, _, _, Tryz.underlying124, rfl, rfl, fun w => Tryz.sizeOf9 w⟩
instance : FldC Tryz.prog 124 1 1 := ⟨_, _, _, Tryz.underlying124, rfl, rfl, fun w => Tryz.sizeOf9 w⟩
instance : SlcC Tryz.prog 215 := ⟨_, Tryz.underlying215⟩
instance : SlcC Tryz.prog 98 := ⟨_, Tryz.underlying98⟩
instance : FldC Tryz.prog 221 0 0 := ⟨_, _, _, Tryz.underlying221, rfl, rfl, fun w => Tryz.sizeOf3 w⟩
instance : FldC Tryz.prog 221 1 1 := ⟨_, _, _, Tryz.underlying221, rfl, rfl, fun w => Tryz.sizeOf3 w⟩
instance : FldC Tryz.prog 225 3 3 := ⟨_, _, _, Tryz.underlying225, rfl, rfl, fun w => Tryz.sizeOf3 w⟩
instance : FldC Tryz.prog 225 1 1 := ⟨_, _, _, Tryz.underlying225, rfl, rfl, fun w => Tryz.sizeOf43 w⟩
instance : FldC Tryz.prog 225 0 0 := ⟨_, _, _, Tryz.underlying225, rfl, rfl, fun w => Tryz.sizeOf223 w⟩
instance : FldC Tryz.prog 146 3 3 := ⟨_, _, _, Tryz.underlying146, rfl, rfl, fun w => Tryz.sizeOf120 w⟩
instance : FldC Tryz.prog 146 4 4 := ⟨_, _, _, Tryz.underlying146, rfl, rfl, fun w => Tryz.sizeOf3 w⟩
instance : FldC Tryz.prog 236 0 0 := ⟨_, _, _, Tryz.underlying236, rfl, rfl, fun w => Tryz.sizeOf185 w⟩
instance : SlcC Tryz.prog 161 := ⟨_, Tryz.underlying161⟩
instance : FldC Tryz.prog 231 5 5 := ⟨_, _, _, Tryz.underlying231, rfl, rfl, fun w => Tryz.sizeOf4 w⟩
instance : FldC Tryz.prog 231 4 4 := ⟨_, _, _, Tryz.underlying231, rfl, rfl, fun w => Tryz.sizeOf4 w⟩
instance : FldC Tryz.prog 211 1 1 := ⟨_, _, _, Tryz.underlying211, rfl, rfl, fun w => Tryz.sizeOf9 w⟩
instance : FldC Tryz.prog 170 0 0 := ⟨_, _, _, Tryz.underlying170, rfl, rfl, fun w => Tryz.sizeOf25 w⟩
instance : FldC Tryz.prog 25 1 1 := ⟨_, _, _, Tryz.underlying25, rfl, rfl, fun w => Tryz.sizeOf5 w⟩
instance : FldC Tryz.prog 260 0 0 := ⟨_, _, _, Tryz.underlying260, rfl, rfl, fun w => Tryz.sizeOf43 w⟩
instance : FldC Tryz.prog 25 9 9 := ⟨_, _, _, Tryz.underlying25, rfl, rfl, fun w => Tryz.sizeOf3 w⟩
instance : FldC Tryz.prog 266 0 0 := ⟨_, _, _, Tryz.underlying266, rfl, rfl, fun w => Tryz.sizeOf43 w⟩
instance : FldC Tryz.prog 279 0 0 := ⟨_, _, _, Tryz.underlying279, rfl, rfl, fun w => Tryz.sizeOf9 w⟩
instance : FldC Tryz.prog 102 0 0 := ⟨_, _, _, Tryz.underlying102, rfl, rfl, fun w => Tryz.sizeOf4 w⟩
instance : FldC Tryz.prog 100 2 2 := ⟨_, _, _, Tryz.underlying100, rfl, rfl, fun w => Tryz.sizeOf9 w⟩
instance : FldC Tryz.prog 100 3 3 := ⟨_, _, _, Tryz.underlying100, rfl, rfl, fun w => Tryz.sizeOf9 w⟩
instance : FldC Tryz.prog 65 0 0 := ⟨_, _, _, Tryz.underlying65, rfl, rfl, fun w => Tryz.sizeOf4 w⟩
instance : FldC Tryz.prog 69 1 1 := ⟨_, _, _, Tryz.underlying69, rfl, rfl, fun w => Tryz.sizeOf3 w⟩
instance : FldC Tryz.prog 69 2 2 := ⟨_, _, _, Tryz.underlying69, rfl, rfl, fun w => Tryz.sizeOf3 w⟩
instance : FldC Tryz.prog 69 3 3 := ⟨_, _, _, Tryz.underlying69, rfl, rfl, fun w => Tryz.sizeOf3 w⟩
instance : FldC Tryz.prog 69 4 4 := ⟨_, _, _, Tryz.underlying69, rfl, rfl, fun w => Tryz.sizeOf3 w⟩
instance : FldC Tryz.prog 69 5 5 := ⟨_, _, _, Tryz.underlying69, rfl, rfl, fun w => Tryz.sizeOf3 w⟩
instance : FldC Tryz.prog 69 6 6 := ⟨_, _, _, Tryz.underlying69, rfl, rfl, fun w => Tryz.sizeOf3 w⟩
instance : FldC Tryz.prog 73 0 0 := ⟨_, _, _, Tryz.underlying73, rfl, rfl, fun w => Tryz.sizeOf5 w⟩
instance : FldC Tryz.prog 299 1 2 := ⟨_, _, _, Tryz.underlying299, rfl, rfl, fun w => Tryz.sizeOf3 w⟩
instance : FldC Tryz.prog 136 1 1 := ⟨_, _, _, Tryz.underlying136, rfl, rfl, fun w => Tryz.sizeOf134 w⟩
instance : AggC Tryz.prog 134 := ⟨fun w => Tryz.isAgg134 w⟩
instance : FldC Tryz.prog 299 0 0 := ⟨_, _, _, Tryz.underlying299, rfl, rfl, fun w => Tryz.sizeOf297 w⟩
instance : FldC Tryz.prog 136 0 0 := ⟨_, _, _, Tryz.underlying136, rfl, rfl, fun w => Tryz.sizeOf133 w⟩
instance : AggC Tryz.prog 133 := ⟨fun w => Tryz.isAgg133 w⟩
instance : FldC Tryz.prog 302 0 0 := ⟨_, _, _, Tryz.underlying302, rfl, rfl, fun w => Tryz.sizeOf22 w⟩
instance : FldC Tryz.prog 223 0 0 := ⟨_, _, _, Tryz.underlying223, rfl, rfl, fun w => Tryz.sizeOf4 w⟩
instance : FldC Tryz.prog 324 0 0 := ⟨_, _, _, Tryz.underlying324, rfl, rfl, fun w => Tryz.sizeOf43 w⟩
instance : FldC Tryz.prog 231 2 2 := ⟨_, _, _, Tryz.underlying231, rfl, rfl, fun w => Tryz.sizeOf78 w⟩
instance : AggC Tryz.prog 78 := ⟨fun w => Tryz.isAgg78 w⟩
instance : FldC Tryz.prog 231 3 3 := ⟨_, _, _, Tryz.underlying231, rfl, rfl, fun w => Tryz.sizeOf5 w⟩
instance : FldC Tryz.prog 231 1 1 := ⟨_, _, _, Tryz.underlying231, rfl, rfl, fun w => Tryz.sizeOf228 w⟩
instance : AggC Tryz.prog 228 := ⟨fun w => Tryz.isAgg228 w⟩
instance : AggC Tryz.prog 335 := ⟨fun w => Tryz.isAgg335 w⟩
instance : FldC Tryz.prog 245 0 0 := ⟨_, _, _, Tryz.underlying245, rfl, rfl, fun w => Tryz.sizeOf9 w⟩
instance : FldC Tryz.prog 245 1 1 := ⟨_, _, _, Tryz.underlying245, rfl, rfl, fun w => Tryz.sizeOf9 w⟩
instance : FldC Tryz.prog 346 0 0 := ⟨_, _, _, Tryz.underlying346, rfl, rfl, fun w => Tryz.sizeOf134 w⟩
instance : FldC Tryz.prog 170 1 10 := ⟨_, _, _, Tryz.underlying170, rfl, rfl, fun w => Tryz.sizeOf40 w⟩
instance : FldC Tryz.prog 170 2 11 := ⟨_, _, _, Tryz.underlying170, rfl, rfl, fun w => Tryz.sizeOf22 w⟩
instance : FldC Tryz.prog 170 3 12 := ⟨_, _, _, Tryz.underlying170, rfl, rfl, fun w => Tryz.sizeOf3 w⟩
instance : SlcC Tryz.prog 358 := ⟨_, Tryz.underlying358⟩
instance : FldC Tryz.prog 266 2 2 := ⟨_, _, _, Tryz.underlying266, rfl, rfl, fun w => Tryz.sizeOf4 w⟩
instance : FldC Tryz.prog 266 1 1 := ⟨_, _, _, Tryz.underlying266, rfl, rfl, fun w => Tryz.sizeOf4 w⟩
instance : FldC Tryz.prog 297 0 0 := ⟨_, _, _, Tryz.underlying297, rfl, rfl, fun w => Tryz.sizeOf9 w⟩
instance : FldC Tryz.prog 297 1 1 := ⟨_, _, _, Tryz.underlying297, rfl, rfl, fun w => Tryz.sizeOf22 w⟩
instance : FldC Tryz.prog 225 4 4 := ⟨_, _, _, Tryz.underlying225, rfl, rfl, fun w => Tryz.sizeOf46 w⟩
instance : AggC Tryz.prog 46 := ⟨fun w => Tryz.isAgg46 w⟩
instance : FldC Tryz.prog 308 0 0 := ⟨_, _, _, Tryz.underlying308, rfl, rfl, fun w => Tryz.sizeOf306 w⟩
instance : AggC Tryz.prog 306 := ⟨fun w => Tryz.isAgg306 w⟩
instance : FldC Tryz.prog 231 0 0 := ⟨_, _, _, Tryz.underlying231, rfl, rfl, fun w => Tryz.sizeOf227 w⟩
instance : AggC Tryz.prog 227 := ⟨fun w => Tryz.isAgg227 w⟩
instance : FldC Tryz.prog 394 0 0 := ⟨_, _, _, Tryz.underlying394, rfl, rfl, fun w => Tryz.sizeOf297 w⟩
instance : FldC Tryz.prog 394 3 4 := ⟨_, _, _, Tryz.underlying394, rfl, rfl, fun w => Tryz.sizeOf4 w⟩
instance : FldC Tryz.prog 394 1 2 := ⟨_, _, _, Tryz.underlying394, rfl, rfl, fun w => Tryz.sizeOf23 w⟩
instance : FldC Tryz.prog 399 0 0 := ⟨_, _, _, Tryz.underlying399, rfl, rfl, fun w => Tryz.sizeOf3 w⟩
instance : SlcC Tryz.prog 422 := ⟨_, Tryz.underlying422⟩
instance : AggC Tryz.prog 241 := ⟨fun w => Tryz.isAgg241 w⟩
instance : FldC Tryz.prog 136 2 2 := ⟨_, _, _, Tryz.underlying136, rfl, rfl, fun w => Tryz.sizeOf3 w⟩
instance : FldC Tryz.prog 302 1 1 := ⟨_, _, _, Tryz.underlying302, rfl, rfl, fun w => Tryz.sizeOf3 w⟩
instance : AggC Tryz.prog 70 := ⟨fun w => Tryz.isAgg70 w⟩
instance : AggC Tryz.prog 74 := ⟨fun w => Tryz.isAgg74 w⟩
instance : AggC Tryz.prog 66 := ⟨fun w => Tryz.isAgg66 w⟩
instance : AggC Tryz.prog 205 := ⟨fun w => Tryz.isAgg205 w⟩
instance : FldC Tryz.prog 346 1 1 := ⟨_, _, _, Tryz.underlying346, rfl, rfl, fun w => Tryz.sizeOf3 w⟩
instance : FldC Tryz.prog 225 2 2 := ⟨_, _, _, Tryz.underlying225, rfl, rfl, fun w => Tryz.sizeOf3 w⟩
instance : FldC Tryz.prog 394 2 3 := ⟨_, _, _, Tryz.underlying394, rfl, rfl, fun w => Tryz.sizeOf392 w⟩
instance : FldC Tryz.prog 399 1 1 := ⟨_, _, _, Tryz.underlying399, rfl, rfl, fun w => Tryz.sizeOf3 w⟩
instance : SlcC Tryz.prog 392 := ⟨_, Tryz.underlying392⟩
instance : FldC Tryz.prog 394 4 5 := ⟨_, _, _, Tryz.underlying394, rfl, rfl, fun w => Tryz.sizeOf4 w⟩
instance : AggC Tryz.prog 392 := ⟨fun w => Tryz.isAgg392 w⟩
instance : FldC Tryz.prog 399 2 2 := ⟨_, _, _, Tryz.underlying399, rfl, rfl, fun w => Tryz.sizeOf9 w⟩
instance : FldC Tryz.prog 365 0 0 := ⟨_, _, _, Tryz.underlying365, rfl, rfl, fun w => Tryz.sizeOf3 w⟩
instance : FldC Tryz.prog 365 1 1 := ⟨_, _, _, Tryz.underlying365, rfl, rfl, fun w => Tryz.sizeOf3 w⟩
instance : FldC Tryz.prog 365 2 2 := ⟨_, _, _, Tryz.underlying365, rfl, rfl, fun w => Tryz.sizeOf3 w⟩
instance : FldC Tryz.prog 154 0 0 := ⟨_, _, _, Tryz.underlying154, rfl, rfl, fun w => Tryz.sizeOf147 w⟩
instance : AggC Tryz.prog 147 := ⟨fun w => Tryz.isAgg147 w⟩
instance : FldC Tryz.prog 154 1 1 := ⟨_, _, _, Tryz.underlying154, rfl, rfl, fun w => Tryz.sizeOf152 w⟩
instance : FldC Tryz.prog 458 1 1 := ⟨_, _, _, Tryz.underlying458, rfl, rfl, fun w => Tryz.sizeOf43 w⟩
instance : SlcC Tryz.prog 429 := ⟨_, Tryz.underlying429⟩
instance : FldC Tryz.prog 152 2 0 := ⟨_, _, _, Tryz.underlying152, rfl, rfl, fun w => Tryz.sizeOf2 w⟩
instance : FldC Tryz.prog 458 0 0 := ⟨_, _, _, Tryz.underlying458, rfl, rfl, fun w => Tryz.sizeOf456 w⟩
instance : AggC Tryz.prog 456 := ⟨fun w => Tryz.isAgg456 w⟩
instance : FldC Tryz.prog 492 0 0 := ⟨_, _, _, Tryz.underlying492, rfl, rfl, fun w => Tryz.sizeOf5 w⟩
instance : FldC Tryz.prog 492 1 1 := ⟨_, _, _, Tryz.underlying492, rfl, rfl, fun w => Tryz.sizeOf5 w⟩
end Go.Proofs.YtinjbljnbiiloaaGreatDoor


/-
  DERIVED: THE SHELF's CONTRACTS AT THIS DUMP, IN PLAIN WORDS (tools/lay-plain.mjs out of 'TryzShelf.lean', which tools/lay-shelf.mjs wrote): THE SAME DECLARATIONS UNDER THE SAME NAMES: 'import', 'namespace', 'open', 'def', 'theorem' AND NOTHING ELSE: no command of the shelf's: FOR A HAND-IN. Each laying: the table of numbers ('.._ren') and one theorem, a field a fact of the dump's own or the kernel's comparison; each contract: ONE APPLICATION.
-/
namespace Go.Proofs
open Go.Shelf
def Tryz.lays137_ren : Go.Shelf.Ren := ⟨fun | 137 => 273 | 217 => 338 | 266 => 375 | n => n, fun | 9 => 9 | 5 => 5 | 3 => 3 | n => n, fun | n => n⟩
theorem Tryz.lays137 : Go.Proofs.Lays.n137 Tryz.prog Tryz.lays137_ren := {
  mixed := by kernel_rfl
  f137 := Tryz.func273.trans (congrArg some (by kernel_rfl))
  f217 := Tryz.func338.trans (congrArg some (by kernel_rfl))
  f266 := Tryz.func375.trans (congrArg some (by kernel_rfl))
  t3 := Tryz.underlying3
  a3 := Tryz.isAgg3
  z3 := Tryz.sizeOf3
  v3 := Tryz.zeroValue3
  t5 := Tryz.underlying5
  a5 := Tryz.isAgg5
  z5 := Tryz.sizeOf5
  v5 := Tryz.zeroValue5
  t9 := Tryz.underlying9
  a9 := Tryz.isAgg9
  z9 := Tryz.sizeOf9
  v9 := Tryz.zeroValue9 }
open Go.RowKit in
/-- strings.IndexByte: "IndexByte returns the index of the first instance of c in s, or -1 if c is not present in s.": IT RETURNS 'Lib.indexByte s c'; the world is as it was. (LAID: no walk: one application.) -/
theorem Tryz.strings_IndexByte (s : ByteArray) (c : Int) (w : World) :
    Calls Tryz.prog 273 #[.string s, .int .u8 c] w fun e w' => e = .returned (.int .i64 (Lib.indexByte s.data.toList c.toNat.toUInt8)) ∧ w' = w := Any.strings_IndexByte Tryz.lays137 s c w
def Tryz.lays217_ren : Go.Shelf.Ren := ⟨fun | 217 => 338 | 266 => 375 | n => n, fun | 9 => 9 | 5 => 5 | 3 => 3 | n => n, fun | n => n⟩
theorem Tryz.lays217 : Go.Proofs.Lays.n217 Tryz.prog Tryz.lays217_ren := {
  mixed := by kernel_rfl
  f217 := Tryz.func338.trans (congrArg some (by kernel_rfl))
  f266 := Tryz.func375.trans (congrArg some (by kernel_rfl))
  t3 := Tryz.underlying3
  a3 := Tryz.isAgg3
  z3 := Tryz.sizeOf3
  v3 := Tryz.zeroValue3
  t5 := Tryz.underlying5
  a5 := Tryz.isAgg5
  z5 := Tryz.sizeOf5
  v5 := Tryz.zeroValue5
  t9 := Tryz.underlying9
  a9 := Tryz.isAgg9
  z9 := Tryz.sizeOf9
  v9 := Tryz.zeroValue9 }
open Go.RowKit Go.Lib in
/-- internal/stringslite.IndexByte (what strings.IndexByte calls): IT RETURNS 'Lib.indexByte s c'; the world is as it was. (LAID: no walk: one application.) -/
theorem Tryz.stringslite_IndexByte (s : ByteArray) (c : Int) (w : World) :
    Calls Tryz.prog 338 #[.string s, .int .u8 c] w fun e w' => e = .returned (.int .i64 (Lib.indexByte s.data.toList c.toNat.toUInt8)) ∧ w' = w := Any.stringslite_IndexByte Tryz.lays217 s c w
def Tryz.lays187_ren : Go.Shelf.Ren := ⟨fun | 187 => 165 | 255 => 267 | n => n, fun | 37 => 43 | 5 => 5 | 3 => 3 | n => n, fun | n => n⟩
theorem Tryz.lays187 : Go.Proofs.Lays.n187 Tryz.prog Tryz.lays187_ren := {
  mixed := by kernel_rfl
  f187 := Tryz.func165.trans (congrArg some (by kernel_rfl))
  f255 := Tryz.func267.trans (congrArg some (by kernel_rfl))
  t3 := Tryz.underlying3
  a3 := Tryz.isAgg3
  z3 := Tryz.sizeOf3
  v3 := Tryz.zeroValue3
  t5 := Tryz.underlying5
  a5 := Tryz.isAgg5
  z5 := Tryz.sizeOf5
  v5 := Tryz.zeroValue5
  t37 := Tryz.underlying43
  a37 := Tryz.isAgg43
  z37 := Tryz.sizeOf43
  v37 := Tryz.zeroValue43 }
/-- bytes.IndexByte: "IndexByte returns the index of the first instance of c in b, or -1 if c is not present in b.": IT RETURNS 'Lib.indexByte (the bytes of b) c'; the world is as it was. 'xs': the numbers that the slice's cells hold. (LAID: no walk: one application.) -/
theorem Tryz.bytes_IndexByte (b o n c : Nat) (xs : List Int) (cv : Int) (w : World) (hx : xs.length = n) (hc : ∀ i, i < n → w.cell? ⟨b, o + i, none⟩ = some (.int .u8 (xs.getD i 0))) :
    Calls Tryz.prog 165 #[.slice (some ⟨b, o, none⟩) n c, .int .u8 cv] w fun e w' => e = .returned (.int .i64 (Lib.indexByte (Lib.bytesOf xs) cv.toNat.toUInt8)) ∧ w' = w := Any.bytes_IndexByte Tryz.lays187 b o n c xs cv w hx hc
end Go.Proofs

/-
  package slices at slices of numbers: Index, Equal, Clone, Delete.
-/
namespace Go.Proofs.YtinjbljnbiiloaaGreatDoor
open Go Go.RK


abbrev ints (l : List Int) : List Value := l.map In
/-- Where a number stands; below 0: nowhere. -/
def idxOf : List Int → Int → Int
  | [], _ => -1
  | a :: l, x => if a = x then 0 else if idxOf l x < 0 then -1 else idxOf l x + 1
theorem get_int {l : List Int} {k : Nat} {y : Int} (hk : l[k]? = some y) : (ints l)[k]? = some (In y) := by simp [hk]

end Go.Proofs.YtinjbljnbiiloaaGreatDoor


/-
  WHERE THE FIRST STANDS THAT A PREDICATE TAKES, in plain Lean.
-/
namespace Go.Proofs.YtinjbljnbiiloaaGreatDoor
open Go Go.RK

section
variable {α : Type} (p : α → Bool)
/-- Where the first stands that p takes; below 0: nowhere. -/
def idxP : List α → Int
  | [] => -1
  | a :: l => if p a then 0 else if idxP l < 0 then -1 else idxP l + 1
theorem idxP_cases (l : List α) : (idxP p l = -1 ∧ ∀ x ∈ l, p x = false) ∨ ∃ (k : Nat) (x : α), idxP p l = k ∧ l[k]? = some x ∧ p x = true ∧ ∀ y ∈ l.take k, p y = false := by
  induction l with
  | nil => exact .inl ⟨rfl, by simp⟩
  | cons a l ih =>
    unfold idxP
    cases h : p a
    · rw [if_neg (by simp)]
      rcases ih with ⟨h1, h2⟩ | ⟨k, x, h1, h2, h3, h4⟩
      · exact .inl ⟨by rw [h1]; rfl, by simpa [h] using h2⟩
      · exact .inr ⟨k + 1, x, by rw [h1, if_neg (by omega)]; omega, by simpa using h2, h3, by simpa [h] using h4⟩
    · exact .inr ⟨0, a, by simp, by simp, h, by simp⟩
variable {p}
theorem idxP_at {l : List α} {k : Nat} {x : α} (h1 : l[k]? = some x) (hx : p x = true) (h2 : ∀ y ∈ l.take k, p y = false) : idxP p l = k := by
  rcases idxP_cases p l with ⟨_, h⟩ | ⟨j, y, h, h3, h4, h5⟩
  · rw [h x (List.mem_of_getElem? h1)] at hx; cases hx
  · rw [h]
    rcases Nat.lt_trichotomy j k with e | e | e
    · rw [h2 y (List.mem_of_getElem? (show (l.take k)[j]? = some y by rw [List.getElem?_take, if_pos e]; exact h3))] at h4; cases h4
    · rw [e]
    · rw [h5 x (List.mem_of_getElem? (show (l.take j)[k]? = some x by rw [List.getElem?_take, if_pos e]; exact h1))] at hx; cases hx
theorem idxP_no {l : List α} (h : ∀ x ∈ l, p x = false) : idxP p l = -1 := by
  rcases idxP_cases p l with ⟨e, _⟩ | ⟨j, y, _, h3, h4, _⟩
  · exact e
  · rw [h y (List.mem_of_getElem? h3)] at h4; cases h4
theorem idxP_geq (l : List α) : decide (0 ≤ idxP p l) = l.any p := by
  rcases idxP_cases p l with ⟨e, h⟩ | ⟨j, y, e, h3, h4, _⟩
  · rw [e, (List.any_eq_false.2 (fun x hx => by rw [h x hx]; simp) : l.any p = false)]
    rfl
  · rw [e, (List.any_eq_true.2 ⟨y, List.mem_of_getElem? h3, h4⟩ : l.any p = true)]
    exact decide_eq_true (by omega)
theorem take_snoc_p {l : List α} {y : α} {k : Nat} (h : ∀ x ∈ l.take k, p x = false) (hk : l[k]? = some y) (hy : p y = false) : ∀ x ∈ l.take (k + 1), p x = false := by
  intro x hx
  rw [List.take_add_one, hk] at hx
  simp only [Option.toList_some, List.mem_append, List.mem_singleton] at hx
  rcases hx with hx | rfl
  · exact h x hx
  · exact hy
end
end Go.Proofs.YtinjbljnbiiloaaGreatDoor


/-
  package slices at slices of numbers: IndexFunc, DeleteFunc, Contains.
-/
namespace Go.Proofs.YtinjbljnbiiloaaGreatDoor
open Go Go.RK
end Go.Proofs.YtinjbljnbiiloaaGreatDoor


/-
  []byte OF A ROW OF BYTES, WRITTEN OUT ([]byte of a constant text): it stays where it is. No program is named here.
-/
namespace Go.RK
open Go

section
variable {P : Program} {f : Fr} {h : Heap} {d : Option Tmp} {ty : TypeId} {pos : String} {af : Array Edge} {g : Option (Nat × Bool)}
end
end Go.RK

/-
  BYTES LOOKED FOR; clean texts; numbers within bounds: packages bytes, strings, digits, front, back.
-/
namespace Go.Proofs.YtinjbljnbiiloaaGreatDoor
open Go Go.RK

theorem ixb_nat (c : UInt8) : ((c.toNat : Int)).toNat.toUInt8 = c := by simp
theorem indexByte_str {h : Heap} (s : List UInt8) (c : UInt8) :
    CallsH Tryz.prog 273 ⟨[St s, By c]⟩ h fun u h' => u = In (Lib.indexByte s c) ∧ h' = h := fun w hw =>
  (Tryz.strings_IndexByte ⟨⟨s⟩⟩ c.toNat w).mono fun e w' ⟨he, hb⟩ => ⟨⟨by rw [hb], by rw [hb], by rw [hb], by subst hb; exact Nat.le_refl _⟩, _, he, by rw [ixb_nat], by rw [hb, hw]⟩
theorem indexByte_bys {h : Heap} {v : Value} (l : List UInt8) (c : UInt8) (hr : Rd h v 1 l.length (bys l)) (h0 : 0 < l.length) :
    CallsH Tryz.prog 165 ⟨[v, By c]⟩ h fun u h' => u = In (Lib.indexByte l c) ∧ h' = h := by
  obtain ⟨A, cap, rfl, _⟩ := id hr
  obtain ⟨b, o, rfl, _, hat⟩ := Rd.at_ hr h0
  intro w hw
  subst hw
  have e : Lib.bytesOf (l.map fun x : UInt8 => (x.toNat : Int)) = l := by
    unfold Lib.bytesOf
    rw [List.map_map]
    conv => rhs; rw [← List.map_id l]
    exact List.map_congr_left fun x _ => ixb_nat x
  refine (Tryz.bytes_IndexByte b o l.length cap (l.map fun x : UInt8 => (x.toNat : Int)) c.toNat w (by simp) fun i hi => ?_).mono fun e' w' ⟨he, hb⟩ => ⟨⟨by rw [hb], by rw [hb], by rw [hb], by subst hb; exact Nat.le_refl _⟩, _, he, by rw [ixb_nat, e], by rw [hb]⟩
  rw [cell_eq]
  have := hat i (By l[i]) (by simp [hi])
  rw [this]
  simp [List.getD, hi]
def cleanB (s : List UInt8) : Bool := !s.contains 0
def withinB (l : List Int) (lo hi : Int) : Bool := decide (l.length ≤ 65535) && !l.any fun n => decide (n < lo) || decide (hi < n)
def knownI (k : UInt8) : Int := if ([66, 67, 68, 69, 72, 80, 81, 83, 88] : List UInt8).contains k then 1 else if ([70, 99, 100, 102, 112] : List UInt8).contains k then 2 else 0
end Go.Proofs.YtinjbljnbiiloaaGreatDoor


/-
  LinkNobody, run by the evaluator: nothing is known of the arguments but their numbers.
-/
namespace Go.Proofs.YtinjbljnbiiloaaGreatDoor
open Go Go.RK

theorem indexByte_lite {h : Heap} (s : List UInt8) (c : UInt8) :
    CallsH Tryz.prog 338 ⟨[St s, By c]⟩ h fun u h' => u = In (Lib.indexByte s c) ∧ h' = h := fun w hw =>
  (Tryz.stringslite_IndexByte ⟨⟨s⟩⟩ c.toNat w).mono fun e w' ⟨he, hb⟩ => ⟨⟨by rw [hb], by rw [hb], by rw [hb], by subst hb; exact Nat.le_refl _⟩, _, he, by rw [ixb_nat], by rw [hb, hw]⟩
noncomputable def natI : NatE := ixN [165] [273, 338]
theorem natI_ok [Opq] : NOk Tryz.prog natI := ixN_ok
  (fun k hk args w => by
    simp only [List.mem_cons, List.not_mem_nil, or_false] at hk
    rcases hk with rfl | rfl | rfl
    · exact Tryz.call165 args w
    · exact Tryz.call273 args w
    · exact Tryz.call338 args w)
  (fun k hk => by
    simp only [List.mem_cons, List.not_mem_nil, or_false] at hk
    subst hk
    intro h v l c hr h0
    exact indexByte_bys l c hr h0)
  (fun k hk => by
    simp only [List.mem_cons, List.not_mem_nil, or_false] at hk
    rcases hk with rfl | rfl
    · intro h s c
      exact indexByte_str s c
    · intro h s c
      exact indexByte_lite s c)
theorem ev_nm : nmB Tryz.prog = true := by kernel_rfl
set_option maxRecDepth 100000 in
theorem ev40_a : evB Tryz.prog natI 100000 6 [] = true := by rw [← evT_eq]; kernel_rfl
theorem awake40 {h : Heap} : CallsH Tryz.prog 6 ⟨[]⟩ h fun u h' => u = .bool true ∧ Ext No h h' :=
  ev_true (fun _ => .bool true) (by kernel_rfl) ev_nm (@natI_ok ⟨fun _ => .bool true, h⟩) (by kernel_rfl) ev40_a (@VaL.nil ⟨fun _ => .bool true, h⟩ _)
noncomputable def natA : NatE := nilN 6 (.bool true) natI
theorem natA_ok [Opq] : NOk Tryz.prog natA := nilN_ok natI_ok (fun args w => Tryz.call6 args w) fun g _ =>
  awake40.mono fun u h' ⟨a, x⟩ => ⟨fun σ => by rw [a]; exact .bool true, x⟩
noncomputable def natF (c : Bool) (N : NatE) : NatE := fixN 4 0 10 (.bool c) N
noncomputable def natK (c : Bool) (N : NatE) : NatE := fixN 5 10 11 (.bool c) N
noncomputable def natM (N : NatE) : NatE := fixN 9 10 11 (.agg ⟨[.chan Option.none, .chan Option.none]⟩) N
noncomputable def arg40 : List Value := [.agg ⟨opL 0 10⟩, .agg ⟨opL 10 11⟩]
set_option maxRecDepth 100000 in
theorem ev40_f : evB Tryz.prog (natF false natA) 100000 3 arg40 = true := by rw [← evT_eq]; kernel_rfl
set_option maxRecDepth 100000 in
theorem ev40_tf : evB Tryz.prog (natF true (natK false natA)) 100000 3 arg40 = true := by rw [← evT_eq]; kernel_rfl
set_option maxRecDepth 100000 in
theorem ev40_tt : evB Tryz.prog (natF true (natK true (natM natA))) 100000 3 arg40 = true := by rw [← evT_eq]; kernel_rfl
end Go.Proofs.YtinjbljnbiiloaaGreatDoor


/-
  api.Cell, rows of them, and the document's compare of them.
-/
namespace Go.Proofs.YtinjbljnbiiloaaGreatDoor
open Go Go.RK

/-- A cell: null, its bytes as they lie, its bytes. -/
structure Cel where
  null : Bool
  v : Value
  bytes : List UInt8
def Cel.cells (c : Cel) : List Value := [.bool c.null, c.v]
theorem Cel.len (c : Cel) : c.cells.length = 2 := rfl
/-- What a cell tells. -/
def Cel.pl (c : Cel) : Bool × List UInt8 := (c.null, c.bytes)
def Cel.ok (h : Heap) (c : Cel) : Prop := Rd h c.v 1 c.bytes.length (bys c.bytes) ∧ c.bytes.length ≤ reachBytes
def Cels (h : Heap) (v : Value) (l : List Cel) : Prop := Rd h v 2 l.length (l.flatMap Cel.cells) ∧ (l.length * 32 ≤ reachBytes ∧ ∃ A c, v = .slice A l.length c ∧ c ≤ maxLen) ∧ ∀ c ∈ l, c.ok h
theorem Cel.ok.ext0 {h h' : Heap} {c : Cel} (k : c.ok h) (a : Ext No h h') : c.ok h' := ⟨k.1.ext0 a, k.2⟩
theorem Cels.ext0 {h h' : Heap} {v : Value} {l : List Cel} (k : Cels h v l) (a : Ext No h h') : Cels h' v l := ⟨k.1.ext0 a, k.2.1, fun c hc => (k.2.2 c hc).ext0 a⟩
/-- The blocks that it lies in. -/
def CelsF (v : Value) (l : List Cel) (b : Nat) : Prop := (0 < l.length ∧ v.ownBlock = some b) ∨ ∃ c ∈ l, 0 < c.bytes.length ∧ c.v.ownBlock = some b
theorem Cels.lt {h : Heap} {v : Value} {l : List Cel} {b : Nat} (k : Cels h v l) (hb : CelsF v l b) : b < h.size := by
  rcases hb with ⟨h1, h2⟩ | ⟨c, hc, h1, h2⟩
  · exact k.1.lt h1 h2
  · exact (k.2.2 c hc).1.lt h1 h2
theorem Cels.ext {h h' : Heap} {S : Nat → Prop} {v : Value} {l : List Cel} (k : Cels h v l) (a : Ext S h h') (hS : ∀ b, CelsF v l b → ¬ S b) : Cels h' v l :=
  ⟨k.1.ext' a fun b h1 h2 => hS b (.inl ⟨h1, h2⟩), k.2.1, fun c hc => ⟨(k.2.2 c hc).1.ext' a fun b h1 h2 => hS b (.inr ⟨c, hc, h1, h2⟩), (k.2.2 c hc).2⟩⟩

/-- A row of a list: its slice, its cells. -/
structure Rw where
  v : Value
  l : List Cel
def Rw.pl (r : Rw) : List (Bool × List UInt8) := r.l.map Cel.pl
def Rws (h : Heap) (v : Value) (L : List Rw) : Prop := Rd h v 1 L.length (L.map Rw.v) ∧ (L.length * 24 ≤ reachBytes ∧ ∃ A c, v = .slice A L.length c ∧ c ≤ maxLen) ∧ ∀ r ∈ L, Cels h r.v r.l
def RwsF (v : Value) (L : List Rw) (b : Nat) : Prop := (0 < L.length ∧ v.ownBlock = some b) ∨ ∃ r ∈ L, CelsF r.v r.l b
theorem Rws.lt {h : Heap} {v : Value} {l : List Rw} {b : Nat} (k : Rws h v l) (hb : RwsF v l b) : b < h.size := by
  rcases hb with ⟨h1, h2⟩ | ⟨c, hc, h1⟩
  · exact k.1.lt h1 h2
  · exact (k.2.2 c hc).lt h1
theorem Rws.ext {h h' : Heap} {S : Nat → Prop} {v : Value} {l : List Rw} (k : Rws h v l) (a : Ext S h h') (hS : ∀ b, RwsF v l b → ¬ S b) : Rws h' v l :=
  ⟨k.1.ext' a fun b h1 h2 => hS b (.inl ⟨h1, h2⟩), k.2.1, fun c hc => (k.2.2 c hc).ext a fun b h1 => hS b (.inr ⟨c, hc, h1⟩)⟩
theorem Rws.ext0 {h h' : Heap} {v : Value} {l : List Rw} (k : Rws h v l) (a : Ext No h h') : Rws h' v l := k.ext a fun _ _ => nos
theorem opens_cell (w : World) : Opens Tryz.prog w 65 Cel.cells (fun c => c.ok w.heap) := by
  have h1 := opensF_cons (P := Tryz.prog) (w := w) (o := 1) (f := ⟨ "Bytes", 43, 1, false, "", "", 8⟩) rfl (opens_bytes Tryz.underlying43 (by kernel_rfl) (by kernel_rfl) Tryz.underlying5) (by kernel_rfl) (fun _ => rfl) opensF_nil
  have h2 := opensF_cons (P := Tryz.prog) (w := w) (o := 0) (f := ⟨ "Null", 4, 0, false, "", "", 0⟩) rfl (opens_bool Tryz.underlying4) (by kernel_rfl) (fun _ => rfl) h1
  exact (opens_struct Tryz.underlying65 (by kernel_rfl) h2).map (fun p => (⟨p.1, p.2.1.1, p.2.1.2⟩ : Cel)) (fun _ => rfl) (fun p q => q.2.1)
theorem opens_cells (w : World) : Opens Tryz.prog w 23 (fun p : Value × List Cel => [p.1]) (fun p => Cels w.heap p.1 p.2) :=
  (opens_slice Tryz.underlying23 (by kernel_rfl) (by decide) Cel.len (opens_cell w)).map id (fun _ => rfl) fun p q => ⟨q.1, ⟨by have := q.2.2.2.2; rwa [show Tryz.prog.bytesOf 65 = 32 by kernel_rfl] at this, q.2.2.1⟩, q.2.2.2.1⟩

theorem map_take {α β : Type} {F : α → β} {l m : List α} {k : Nat} {a b : α} (h : (l.take k).map F = (m.take k).map F) (ha : l[k]? = some a) (hb : m[k]? = some b) (e : F a = F b) : (l.take (k + 1)).map F = (m.take (k + 1)).map F := by
  rw [List.take_add_one, List.take_add_one, ha, hb, List.map_append, List.map_append, h]
  simp [e]
theorem map_ne {α β : Type} {F : α → β} {l m : List α} {k : Nat} {a b : α} (ha : l[k]? = some a) (hb : m[k]? = some b) (e : F a ≠ F b) : l.map F ≠ m.map F := fun h => e (by
  have := congrArg (·[k]?) h
  simpa [ha, hb] using this)

set_option maxHeartbeats 2000000 in
set_option maxRecDepth 100000 in
theorem cells_ref {h : Heap} {v u : Value} (l m : List Cel) (hl : Cels h v l) (hm : Cels h u m) :
    CallsH Tryz.prog 293 ⟨[v, u]⟩ h fun u h' => u = .bool (decide (l.map Cel.pl = m.map Cel.pl)) ∧ h' = h := by
  obtain ⟨hr, ⟨hlm, A, c, rfl, _⟩, ho⟩ := hl
  obtain ⟨hs, ⟨hmm, B, d, rfl, _⟩, hp⟩ := hm
  unfold reachBytes at hlm hmm
  refine calls [(0, _), (1, _)] Tryz.func293 rfl Tryz.ntmps293 rfl ⟨rfl, rfl, trivial⟩ ?_
  all_goals (refine WC.sr ?_)
  all_goals (refine Go ?_)
  all_goals (refine WC.seq ?_)
  all_goals (refine WC.sr ?_)
  all_goals (refine Go ?_)
  all_goals (refine Gs [(0, _), (1, _), (10, _)] ?_)
  all_goals (refine goC 1 2 ?_ ?_ <;> first | exact ⟨⟩ | refine Hb.mk fun hb => ?_ | skip)
  all_goals (first | (fail_if_success refine goB 1 ?_) | (
  refine goB 1 ?_
  all_goals (refine WC.sr ?_)
  all_goals (refine Go ?_)
  all_goals (refine Gt ?_)
  all_goals (first | exact ⟨by rw [decide_eq_false (fun e => by have := congrArg List.length e; simp at this; omega)], rfl⟩ | exact ⟨by rw [decide_eq_false (map_ne hc1 hc2 (by simp_all [Cel.pl]))], rfl⟩ | exact ⟨by rw [decide_eq_true (by rw [List.take_of_length_le (by omega), List.take_of_length_le (by omega)] at hn; exact hn)], rfl⟩)
  skip))
  all_goals (first | (fail_if_success refine goB 2 ?_) | (
  refine goB 2 ?_
  all_goals (refine WC.skip ?_)
  skip))
  all_goals (refine Gn ?_)
  all_goals (refine WC.seq ?_)
  all_goals (refine WC.sr ?_)
  all_goals (refine Go ?_)
  all_goals (refine WC.block ?_)
  -- loop 0: slots that turn [5], that stay [0, 1]
  all_goals (refine WC.loopG (X := Nat) (fun x => ([(5, In (x : Int))] : Fr)) [(0, _), (1, _)] (fun k h' => h' = h ∧ k ≤ l.length ∧ (l.take k).map Cel.pl = (m.take k).map Cel.pl) (fun k => l.length - k) (0) ⟨rfl, rfl, rfl, trivial⟩ (by exact ⟨rfl, Nat.zero_le _, by simp⟩) ?_)
  all_goals (rintro k _ ⟨rfl, hk, hn⟩)
  all_goals (refine WC.sub [(5, _), (0, _), (1, _)] ⟨rfl, rfl, rfl, trivial⟩ ?_)
  all_goals (refine WC.seq ?_)
  all_goals (refine WC.sr ?_)
  all_goals (refine Go ?_)
  all_goals (refine goC 3 4 ?_ ?_ <;> first | exact ⟨⟩ | refine Hb.mk fun hb => ?_ | skip)
  all_goals (first | (fail_if_success refine goB 3 ?_) | (
  refine goB 3 ?_
  all_goals (refine WC.skip ?_)
  skip))
  all_goals (first | (fail_if_success refine goB 4 ?_) | (
  refine goB 4 ?_
  all_goals (refine WC.exit ?_)
  all_goals (repeat' (with_reducible first | refine thenP_x ?_ | refine blockP_miss rfl ?_ | refine blockP_hit ?_ | refine blockP_n ?_ | refine thenP_n ?_))
  all_goals (refine Br.out (i := 1000) ?_)
  skip))
  all_goals (refine Gn ?_)
  all_goals (first | (refine Br.keep ?_) | (refine Gs [(0, _), (1, _), (5, _)] ?_))
  all_goals (first | (refine Br.keep ?_) | (refine WC.seq ?_))
  all_goals (first | (refine Br.keep ?_) | (refine WC.block ?_))
  all_goals (first | (refine Br.keep ?_) | (refine WC.seq ?_))
  all_goals (first
               | (refine Br.keep ?_)
               | (obtain ⟨b, o, hA, hbL, hat⟩ := Rd.at_ hr (by omega)
                  obtain ⟨b2, o2, hB, hb2, hat2⟩ := Rd.at_ hs (by omega)
                  obtain ⟨⟨n1, v1, s1⟩, hc1⟩ : ∃ y, l[k]? = some y := ⟨_, List.getElem?_eq_getElem (by omega)⟩
                  obtain ⟨⟨n2, v2, s2⟩, hc2⟩ : ∃ y, m[k]? = some y := ⟨_, List.getElem?_eq_getElem (by omega)⟩
                  have ok1 := (ho _ (List.mem_of_getElem? hc1)).1
                  have ok2 := (hp _ (List.mem_of_getElem? hc2)).1
                  simp only at ok1 ok2
                  have at1 := At.elem Cel.len hat hc1
                  have at2 := At.elem Cel.len hat2 hc2
                  obtain ⟨A1, k1, rfl, _⟩ := id ok1
                  obtain ⟨A2, k2, rfl, _⟩ := id ok2))
  all_goals (first | (refine Br.keep ?_) | (refine WC.drawE fol (by kernel_rfl) ?_))
  all_goals (first | (refine Br.keep ?_) | (refine WQ.stepE (ok_move rfl) rfl rfl rfl ?_))
  all_goals (first | (refine Br.keep ?_) | (refine WQ.stepE (ok_move rfl) rfl rfl rfl ?_))
  all_goals (first | (refine Br.keep ?_) | (refine WQ.stepE (ok_idxAddrA Tryz.underlying23 (fun w => Tryz.sizeOf65 w) rfl rfl rfl (by omega) (by first | rfl | assumption)) rfl rfl rfl ?_))
  all_goals (first | (refine Br.keep ?_) | (refine WQ.stepE (ok_fieldAddr rfl Tryz.underlying65 rfl (fun w => Tryz.sizeOf4 w)) rfl rfl rfl ?_))
  all_goals (first | (refine Br.keep ?_) | (refine WQ.stepE (ok_load (fun w => Tryz.isAgg4 w) rfl (by first | exact at1.get 0 rfl rfl | assumption | exact cell_blk (by assumption) rfl)) rfl rfl rfl ?_))
  all_goals (first | (refine Br.keep ?_) | (refine WQ.stepE (ok_move rfl) rfl rfl rfl ?_))
  all_goals (first | (refine Br.keep ?_) | (refine WQ.stepE (ok_move rfl) rfl rfl rfl ?_))
  all_goals (first | (refine Br.keep ?_) | (refine WQ.stepE (ok_idxAddrA Tryz.underlying23 (fun w => Tryz.sizeOf65 w) rfl rfl rfl (by omega) (by first | rfl | assumption)) rfl rfl rfl ?_))
  all_goals (first | (refine Br.keep ?_) | (refine WQ.stepE (ok_fieldAddr rfl Tryz.underlying65 rfl (fun w => Tryz.sizeOf4 w)) rfl rfl rfl ?_))
  all_goals (first | (refine Br.keep ?_) | (refine WQ.stepE (ok_load (fun w => Tryz.isAgg4 w) rfl (by first | exact at2.get 0 rfl rfl | assumption | exact cell_blk (by assumption) rfl)) rfl rfl rfl ?_))
  all_goals (first | (refine Br.keep ?_) | (first | (refine WQ.stepE (OkP.nbool_f (by rfl) (ok_neqB Tryz.underlying4 rfl rfl)) rfl rfl rfl ?_) | (refine WQ.stepE (OkP.nbool_t (by decide) (ok_neqB Tryz.underlying4 rfl rfl)) rfl rfl rfl ?_) | (refine WQ.stepE (ok_neqB Tryz.underlying4 rfl rfl) rfl rfl rfl ?_)))
  all_goals (first | (refine Br.keep ?_) | (refine WQ.stepE (ok_move rfl) rfl rfl rfl ?_))
  all_goals (first | (refine Br.keep ?_) | (try ((fail_if_success (refine WQ.part 28 (b := true) rfl (fun _ => ?_) (fun _ => ?_))); (fail_if_success (refine WQ.part 28 (b := false) rfl (fun _ => ?_) (fun _ => ?_))); (refine WQ.part 28 rfl (fun hb => ?_) (fun hb => ?_) <;> (first | replace hb := of_decide_eq_true hb | replace hb := of_decide_eq_false hb | replace hb := of_decide_eq_false (nt hb) | replace hb := of_decide_eq_true (nf hb) | skip)))))
  all_goals (first | (refine Br.keep ?_) | (first | (refine WQ.pass rfl rfl rfl ?_) | (refine WQ.stepE (ok_move rfl) rfl rfl rfl ?_)))
  all_goals (first | (refine Br.keep ?_) | (first | (refine WQ.pass rfl rfl rfl ?_) | (refine WQ.stepE (ok_move rfl) rfl rfl rfl ?_)))
  all_goals (first | (refine Br.keep ?_) | (first | (refine WQ.pass rfl rfl rfl ?_) | (refine WQ.stepE (ok_idxAddrA Tryz.underlying23 (fun w => Tryz.sizeOf65 w) rfl rfl rfl (by omega) (by first | rfl | assumption)) rfl rfl rfl ?_)))
  all_goals (first | (refine Br.keep ?_) | (first | (refine WQ.pass rfl rfl rfl ?_) | (refine WQ.stepE (ok_fieldAddr rfl Tryz.underlying65 rfl (fun w => Tryz.sizeOf43 w)) rfl rfl rfl ?_)))
  all_goals (first | (refine Br.keep ?_) | (first | (refine WQ.pass rfl rfl rfl ?_) | (refine WQ.stepE (ok_load (fun w => Tryz.isAgg43 w) rfl (by first | exact at1.get 1 rfl rfl | assumption | exact cell_blk (by assumption) rfl)) rfl rfl rfl ?_)))
  all_goals (first | (refine Br.keep ?_) | (first | (refine WQ.pass rfl rfl rfl ?_) | (refine WQ.stepE (ok_convBS Tryz.underlying43 Tryz.underlying5 Tryz.underlying9 rfl (by assumption)) rfl rfl rfl ?_)))
  all_goals (first | (refine Br.keep ?_) | (first | (refine WQ.pass rfl rfl rfl ?_) | (refine WQ.stepE (ok_move rfl) rfl rfl rfl ?_)))
  all_goals (first | (refine Br.keep ?_) | (first | (refine WQ.pass rfl rfl rfl ?_) | (refine WQ.stepE (ok_move rfl) rfl rfl rfl ?_)))
  all_goals (first | (refine Br.keep ?_) | (first | (refine WQ.pass rfl rfl rfl ?_) | (refine WQ.stepE (ok_idxAddrA Tryz.underlying23 (fun w => Tryz.sizeOf65 w) rfl rfl rfl (by omega) (by first | rfl | assumption)) rfl rfl rfl ?_)))
  all_goals (first | (refine Br.keep ?_) | (first | (refine WQ.pass rfl rfl rfl ?_) | (refine WQ.stepE (ok_fieldAddr rfl Tryz.underlying65 rfl (fun w => Tryz.sizeOf43 w)) rfl rfl rfl ?_)))
  all_goals (first | (refine Br.keep ?_) | (first | (refine WQ.pass rfl rfl rfl ?_) | (refine WQ.stepE (ok_load (fun w => Tryz.isAgg43 w) rfl (by first | exact at2.get 1 rfl rfl | assumption | exact cell_blk (by assumption) rfl)) rfl rfl rfl ?_)))
  all_goals (first | (refine Br.keep ?_) | (first | (refine WQ.pass rfl rfl rfl ?_) | (refine WQ.stepE (ok_convBS Tryz.underlying43 Tryz.underlying5 Tryz.underlying9 rfl (by assumption)) rfl rfl rfl ?_)))
  all_goals (first | (refine Br.keep ?_) | (first | (refine WQ.pass rfl rfl rfl ?_) | (first | (refine WQ.stepE (OkP.nbool_f (by first | rfl | assumption | decide) (ok_neqS rfl rfl)) rfl rfl rfl ?_) | (refine WQ.stepE (OkP.nbool_t (by first | assumption | decide) (ok_neqS rfl rfl)) rfl rfl rfl ?_) | (refine WQ.stepE (ok_neqS rfl rfl) rfl rfl rfl ?_))))
  all_goals (first | (refine Br.keep ?_) | (first | (refine WQ.stepE (ok_pick_t rfl rfl) rfl rfl rfl ?_) | (refine WQ.stepE (ok_pick_f rfl rfl) rfl rfl rfl ?_)))
  all_goals (first | (refine Br.keep ?_) | (refine WQ.nil ?_))
  all_goals (refine Gn ?_)
  all_goals (first | (refine Br.keep ?_) | (refine Gs [(0, _), (1, _), (5, _), (42, _)] ?_))
  all_goals (first | (refine Br.keep ?_) | (refine goC 5 6 ?_ ?_ <;> first | exact ⟨⟩ | refine Hb.mk fun hb => ?_ | skip))
  all_goals (first | (fail_if_success refine goB 5 ?_) | (
  refine goB 5 ?_
  all_goals (refine WC.sr ?_)
  all_goals (refine Go ?_)
  all_goals (refine Gs [(4, _)] ?_)
  all_goals (refine Gt ?_)
  all_goals (first | exact ⟨by rw [decide_eq_false (fun e => by have := congrArg List.length e; simp at this; omega)], rfl⟩ | exact ⟨by rw [decide_eq_false (map_ne hc1 hc2 (by simp_all [Cel.pl]))], rfl⟩ | exact ⟨by rw [decide_eq_true (by rw [List.take_of_length_le (by omega), List.take_of_length_le (by omega)] at hn; exact hn)], rfl⟩)
  skip))
  all_goals (first | (fail_if_success refine goB 6 ?_) | (
  refine goB 6 ?_
  all_goals (refine WC.skip ?_)
  skip))
  all_goals (refine Gn ?_)
  all_goals (first | (refine Br.keep ?_) | (refine WC.region ?_))
  all_goals (refine Go ?_)
  all_goals (first | (refine Br.keep ?_) | (exact ⟨k + 1, ⟨rfl, rfl, rfl, trivial⟩, (by exact ⟨rfl, by omega, map_take hn hc1 hc2 (by simp_all [Cel.pl])⟩), (by omega)⟩))
  all_goals (try (refine Br.mk (i := 1000) ?_))
  all_goals (refine Gn ?_)
  all_goals (refine Gs [] ?_)
  all_goals (refine WC.sr ?_)
  all_goals (refine Go ?_)
  all_goals (refine Gt ?_)
  all_goals (first | exact ⟨by rw [decide_eq_false (fun e => by have := congrArg List.length e; simp at this; omega)], rfl⟩ | exact ⟨by rw [decide_eq_false (map_ne hc1 hc2 (by simp_all [Cel.pl]))], rfl⟩ | exact ⟨by rw [decide_eq_true (by rw [List.take_of_length_le (by omega), List.take_of_length_le (by omega)] at hn; exact hn)], rfl⟩)
end Go.Proofs.YtinjbljnbiiloaaGreatDoor


/-
  api.Back, and the document's compare of two of them.
-/
namespace Go.Proofs.YtinjbljnbiiloaaGreatDoor
open Go Go.RK

structure ColD where
  nm : List UInt8
  t : Int
  a : Int
  o : Int
  s : Int
  m : Int
  f : Int
deriving DecidableEq
def ColD.sca (c : ColD) : List Sca := [.s c.nm, .i .i64 c.t, .i .i64 c.a, .i .i64 c.o, .i .i64 c.s, .i .i64 c.m, .i .i64 c.f]
def ColD.cells (c : ColD) : List Value := [St c.nm, In c.t, In c.a, In c.o, In c.s, In c.m, In c.f]
theorem ColD.len (c : ColD) : c.cells.length = 7 := rfl
theorem ColD.inj (c d : ColD) : c.sca = d.sca ↔ c = d := by cases c; cases d; simp [ColD.sca]
structure FieldD where
  k : Int
  t : List UInt8
deriving DecidableEq
def FieldD.sca (c : FieldD) : List Sca := [.i .u8 c.k, .s c.t]
def FieldD.cells (c : FieldD) : List Value := [.int .u8 c.k, St c.t]
theorem FieldD.len (c : FieldD) : c.cells.length = 2 := rfl
theorem FieldD.inj (c d : FieldD) : c.sca = d.sca ↔ c = d := by cases c; cases d; simp [FieldD.sca]
structure Bk where
  kind : Int
  status : Int
  tag : List UInt8
  name : List UInt8
  value : List UInt8
  n : Int
  m : Int
  vo : Value
  oids : List Int
  vc : Value
  cols : List ColD
  vr : Value
  row : List Cel
  vf : Value
  fields : List FieldD
def Bk.cells (b : Bk) : List Value := [.int .u8 b.kind, .int .u8 b.status, St b.tag, St b.name, St b.value, In b.n, In b.m, b.vo, b.vc, b.vr, b.vf]
structure Bk.ok (h : Heap) (b : Bk) : Prop where
  oids : Rd h b.vo 1 b.oids.length (ints b.oids) ∧ b.oids.length ≤ maxLen
  cols : Rd h b.vc 7 b.cols.length (b.cols.flatMap ColD.cells) ∧ b.cols.length ≤ maxLen
  row : Cels h b.vr b.row
  fields : Rd h b.vf 2 b.fields.length (b.fields.flatMap FieldD.cells) ∧ b.fields.length ≤ maxLen
theorem Bk.ok.ext0 {h h' : Heap} {b : Bk} (k : b.ok h) (a : Ext No h h') : b.ok h' := ⟨⟨k.1.1.ext0 a, k.1.2⟩, ⟨k.2.1.ext0 a, k.2.2⟩, k.3.ext0 a, ⟨k.4.1.ext0 a, k.4.2⟩⟩
def Bk.pl (b : Bk) := (b.kind, b.status, b.tag, b.name, b.value, b.n, b.m, b.oids, b.cols, b.row.map Cel.pl, b.fields)

set_option maxHeartbeats 2000000 in
set_option maxRecDepth 100000 in
theorem ints_ref {h : Heap} {v u : Value} (l m : List Int) (hr : Rd h v 1 l.length (ints l)) (hs : Rd h u 1 m.length (ints m)) (hl : l.length ≤ maxLen) (hm : m.length ≤ maxLen) :
    CallsH Tryz.prog 292 ⟨[v, u]⟩ h fun u h' => u = .bool (decide (l = m)) ∧ h' = h := by
  unfold maxLen at hl hm
  obtain ⟨A, c, rfl, _⟩ := id hr
  obtain ⟨B, d, rfl, _⟩ := id hs
  refine calls [(0, _), (1, _)] Tryz.func292 rfl Tryz.ntmps292 rfl ⟨rfl, rfl, trivial⟩ ?_
  all_goals (refine WC.sr ?_)
  all_goals (refine Go ?_)
  all_goals (refine WC.seq ?_)
  all_goals (refine WC.sr ?_)
  all_goals (refine Go ?_)
  all_goals (refine Gs [(0, _), (1, _), (10, _)] ?_)
  all_goals (refine goC 1 2 ?_ ?_ <;> first | exact ⟨⟩ | refine Hb.mk fun hb => ?_ | skip)
  all_goals (first | (fail_if_success refine goB 1 ?_) | (
  refine goB 1 ?_
  all_goals (refine WC.sr ?_)
  all_goals (refine Go ?_)
  all_goals (refine Gt ?_)
  all_goals (first | exact ⟨by rw [decide_eq_false (fun e => by subst e; omega)], rfl⟩ | exact ⟨by rw [decide_eq_false (fun e => by subst e; rw [hy] at hz; injection hz with hz; omega)], rfl⟩ | exact ⟨by rw [decide_eq_true (by rw [List.take_of_length_le (by omega), List.take_of_length_le (by omega)] at hn; exact hn)], rfl⟩)
  skip))
  all_goals (first | (fail_if_success refine goB 2 ?_) | (
  refine goB 2 ?_
  all_goals (refine WC.skip ?_)
  skip))
  all_goals (refine Gn ?_)
  all_goals (refine WC.seq ?_)
  all_goals (refine WC.sr ?_)
  all_goals (refine Go ?_)
  all_goals (refine WC.block ?_)
  -- loop 0: slots that turn [5], that stay [0, 1]
  all_goals (refine WC.loopG (X := Nat) (fun x => ([(5, In (x : Int))] : Fr)) [(0, _), (1, _)] (fun k h' => h' = h ∧ k ≤ l.length ∧ l.take k = m.take k) (fun k => l.length - k) (0) ⟨rfl, rfl, rfl, trivial⟩ (by exact ⟨rfl, Nat.zero_le _, by simp⟩) ?_)
  all_goals (rintro k _ ⟨rfl, hk, hn⟩)
  all_goals (refine WC.sub [(5, _), (0, _), (1, _)] ⟨rfl, rfl, rfl, trivial⟩ ?_)
  all_goals (refine WC.seq ?_)
  all_goals (refine WC.sr ?_)
  all_goals (refine Go ?_)
  all_goals (refine goC 3 4 ?_ ?_ <;> first | exact ⟨⟩ | refine Hb.mk fun hb => ?_ | skip)
  all_goals (first | (fail_if_success refine goB 3 ?_) | (
  refine goB 3 ?_
  all_goals (refine WC.skip ?_)
  skip))
  all_goals (first | (fail_if_success refine goB 4 ?_) | (
  refine goB 4 ?_
  all_goals (refine WC.exit ?_)
  all_goals (repeat' (with_reducible first | refine thenP_x ?_ | refine blockP_miss rfl ?_ | refine blockP_hit ?_ | refine blockP_n ?_ | refine thenP_n ?_))
  all_goals (refine Br.out (i := 1000) ?_)
  skip))
  all_goals (refine Gn ?_)
  all_goals (first | (refine Br.keep ?_) | (refine Gs [(0, _), (1, _), (5, _)] ?_))
  all_goals (first | (refine Br.keep ?_) | (refine WC.seq ?_))
  all_goals (first | (refine Br.keep ?_) | (refine WC.block ?_))
  all_goals (first | (refine Br.keep ?_) | (refine WC.seq ?_))
  all_goals (first
               | (refine Br.keep ?_)
               | (obtain ⟨b, o, hA, hbL, hat⟩ := Rd.at_ hr (by omega)
                  obtain ⟨b2, o2, hB, hb2, hat2⟩ := Rd.at_ hs (by omega)
                  obtain ⟨y, hy⟩ : ∃ y, l[k]? = some y := ⟨_, List.getElem?_eq_getElem (by omega)⟩
                  obtain ⟨z, hz⟩ : ∃ z, m[k]? = some z := ⟨_, List.getElem?_eq_getElem (by omega)⟩
                  have hc := hat.get (p := o + k * 1) k (get_int hy) (by omega)
                  have hc2 := hat2.get (p := o2 + k * 1) k (get_int hz) (by omega)))
  all_goals (first | (refine Br.keep ?_) | (refine WC.drawE fol (by kernel_rfl) ?_))
  all_goals (first | (refine Br.keep ?_) | (refine WQ.stepE (ok_move rfl) rfl rfl rfl ?_))
  all_goals (first | (refine Br.keep ?_) | (refine WQ.stepE (ok_move rfl) rfl rfl rfl ?_))
  all_goals (first | (refine Br.keep ?_) | (refine WQ.stepE (ok_idxAddrA Tryz.underlying22 (fun w => Tryz.sizeOf3 w) rfl rfl rfl (by omega) (by first | rfl | assumption)) rfl rfl rfl ?_))
  all_goals (first | (refine Br.keep ?_) | (refine WQ.stepE (ok_load (fun w => Tryz.isAgg3 w) rfl (by first | assumption | exact cell_blk (by assumption) rfl)) rfl rfl rfl ?_))
  all_goals (first | (refine Br.keep ?_) | (refine WQ.stepE (ok_move rfl) rfl rfl rfl ?_))
  all_goals (first | (refine Br.keep ?_) | (refine WQ.stepE (ok_move rfl) rfl rfl rfl ?_))
  all_goals (first | (refine Br.keep ?_) | (refine WQ.stepE (ok_idxAddrA Tryz.underlying22 (fun w => Tryz.sizeOf3 w) rfl rfl rfl (by omega) (by first | rfl | assumption)) rfl rfl rfl ?_))
  all_goals (first | (refine Br.keep ?_) | (refine WQ.stepE (ok_load (fun w => Tryz.isAgg3 w) rfl (by first | assumption | exact cell_blk (by assumption) rfl)) rfl rfl rfl ?_))
  all_goals (first | (refine Br.keep ?_) | (first | (refine WQ.stepE (OkP.nbool_t (by omega) (ok_neq rfl rfl)) rfl rfl rfl ?_) | (refine WQ.stepE (OkP.nbool_f (by omega) (ok_neq rfl rfl)) rfl rfl rfl ?_) | (refine WQ.stepE (ok_neq rfl rfl) rfl rfl rfl ?_)))
  all_goals (first | (refine Br.keep ?_) | (refine WQ.nil ?_))
  all_goals (refine Gn ?_)
  all_goals (first | (refine Br.keep ?_) | (refine Gs [(0, _), (1, _), (5, _), (25, _)] ?_))
  all_goals (first | (refine Br.keep ?_) | (refine goC 5 6 ?_ ?_ <;> first | exact ⟨⟩ | refine Hb.mk fun hb => ?_ | skip))
  all_goals (first | (fail_if_success refine goB 5 ?_) | (
  refine goB 5 ?_
  all_goals (refine WC.sr ?_)
  all_goals (refine Go ?_)
  all_goals (refine Gs [(4, _)] ?_)
  all_goals (refine Gt ?_)
  all_goals (first | exact ⟨by rw [decide_eq_false (fun e => by subst e; omega)], rfl⟩ | exact ⟨by rw [decide_eq_false (fun e => by subst e; rw [hy] at hz; injection hz with hz; omega)], rfl⟩ | exact ⟨by rw [decide_eq_true (by rw [List.take_of_length_le (by omega), List.take_of_length_le (by omega)] at hn; exact hn)], rfl⟩)
  skip))
  all_goals (first | (fail_if_success refine goB 6 ?_) | (
  refine goB 6 ?_
  all_goals (refine WC.skip ?_)
  skip))
  all_goals (refine Gn ?_)
  all_goals (first | (refine Br.keep ?_) | (refine WC.region ?_))
  all_goals (refine Go ?_)
  all_goals (first | (refine Br.keep ?_) | (exact ⟨k + 1, ⟨rfl, rfl, rfl, trivial⟩, (by exact ⟨rfl, by omega, by rw [List.take_add_one, List.take_add_one, hn, hy, hz, show y = z by omega]⟩), (by omega)⟩))
  all_goals (try (refine Br.mk (i := 1000) ?_))
  all_goals (refine Gn ?_)
  all_goals (refine Gs [] ?_)
  all_goals (refine WC.sr ?_)
  all_goals (refine Go ?_)
  all_goals (refine Gt ?_)
  all_goals (first | exact ⟨by rw [decide_eq_false (fun e => by subst e; omega)], rfl⟩ | exact ⟨by rw [decide_eq_false (fun e => by subst e; rw [hy] at hz; injection hz with hz; omega)], rfl⟩ | exact ⟨by rw [decide_eq_true (by rw [List.take_of_length_le (by omega), List.take_of_length_le (by omega)] at hn; exact hn)], rfl⟩)

end Go.Proofs.YtinjbljnbiiloaaGreatDoor


/-
  THE COMPARE OF ARRAYS OF TEXTS. No program is named here.
-/
namespace Go.RK
open Go

section
variable {P : Program}
variable {f : Fr} {h : Heap} {d : Option Tmp} {ty : TypeId} {pos : String} {af : Array Edge} {g : Option (Nat × Bool)}
end
end Go.RK

/-
  back.Check, of messages that may be.
-/
namespace Go.Proofs.YtinjbljnbiiloaaGreatDoor
open Go Go.RK

/-- A bound. -/
structure BndD where
  n : Int
  lo : Int
  hi : Int
def BndD.cells (b : BndD) : List Value := [In b.n, In b.lo, In b.hi]
theorem BndD.len (b : BndD) : b.cells.length = 3 := rfl
def BndD.ok (b : BndD) : Prop := b.lo ≤ b.n ∧ b.n ≤ b.hi
set_option maxHeartbeats 2000000 in
set_option maxRecDepth 100000 in
theorem indexFunc_col {h : Heap} {v : Value} (l : List ColD) (p : ColD → Bool) {fk : Nat} {fs us : List Value} (hcf : ∀ (args : Array Value) (w : World), (callFunc fk args).run Tryz.prog w = .ok (.enter fk args) w) (hr : Rd h v 7 l.length (l.flatMap ColD.cells)) (hm : l.length ≤ maxLen)
    (hp : ∀ x ∈ l, ∀ h', Ext No h h' → CallsH Tryz.prog fk ⟨fs ++ [.agg ⟨ColD.cells x⟩] ++ us⟩ h' fun u h'' => u = .bool (p x) ∧ Ext No h' h'') :
    CallsH Tryz.prog 70 ⟨[v, .func (.func fk) ⟨fs⟩ ⟨us⟩]⟩ h fun u h' => u = In (idxP p l) ∧ Ext No h h' := by
  obtain ⟨A, c, rfl, _⟩ := id hr
  unfold maxLen at hm
  refine calls [(0, _), (1, _)] Tryz.func70 rfl Tryz.ntmps70 rfl ⟨rfl, rfl, trivial⟩ ?_
  all_goals (refine WC.sr ?_)
  all_goals (refine Go ?_)
  all_goals (refine WC.seq ?_)
  all_goals (refine WC.sr ?_)
  all_goals (refine Go ?_)
  all_goals (refine WC.block ?_)
  -- loop 0: slots that turn [8], that stay [0, 1, 7]
  all_goals (refine WC.loopG (X := Nat) (fun x => ([(8, In (x : Int))] : Fr)) [(0, _), (1, _), (7, _)] (fun k h' => Ext No h h' ∧ k ≤ l.length ∧ ∀ x ∈ l.take k, p x = false) (fun k => l.length - k) (0) ⟨rfl, rfl, rfl, rfl, trivial⟩ (by exact ⟨.refl _ _, Nat.zero_le _, by simp⟩) ?_)
  all_goals (rintro k h1 ⟨hx1, hk, hn⟩)
  all_goals (refine WC.sub [(8, _), (0, _), (1, _), (7, _)] ⟨rfl, rfl, rfl, rfl, trivial⟩ ?_)
  all_goals (refine WC.sr ?_)
  all_goals (refine Go ?_)
  all_goals (refine WC.seq ?_)
  all_goals (refine goC 1 2 ?_ ?_ <;> first | exact ⟨⟩ | refine Hb.mk fun hb => ?_ | skip)
  all_goals (first | (fail_if_success refine goB 1 ?_) | (
  refine goB 1 ?_
  all_goals (refine WC.skip ?_)
  skip))
  all_goals (first | (fail_if_success refine goB 2 ?_) | (
  refine goB 2 ?_
  all_goals (refine WC.exit ?_)
  all_goals (repeat' (with_reducible first | refine thenP_x ?_ | refine blockP_miss rfl ?_ | refine blockP_hit ?_ | refine blockP_n ?_ | refine thenP_n ?_))
  all_goals (refine Br.out (i := 1000) ?_)
  skip))
  all_goals (refine Gn ?_)
  all_goals (first | (refine Br.keep ?_) | (refine WC.seq ?_))
  all_goals (first | (refine Br.keep ?_) | (refine WC.block ?_))
  all_goals (first | (refine Br.keep ?_) | (refine WC.sr ?_))
  all_goals (refine Go ?_)
  all_goals (first | (refine Br.keep ?_) | (refine WC.sr ?_))
  all_goals (first | (refine Br.keep ?_) | (refine WL.step (ok_move rfl) rfl rfl rfl ?_))
  all_goals (first | (refine Br.keep ?_) | (refine WL.step (ok_move rfl) rfl rfl rfl ?_))
  all_goals (first
               | (refine Br.keep ?_)
               | (obtain ⟨b, o, hA, hbL, hat⟩ := Rd.at_ (hr.ext0 hx1) (by omega)
                  obtain ⟨y, hy⟩ : ∃ y, l[k]? = some y := ⟨_, List.getElem?_eq_getElem (by omega)⟩
                  have hc : At h1 b (o + k * 7) (ColD.cells y) := At.elem ColD.len hat hy))
  all_goals (first | (refine Br.keep ?_) | (refine WL.step (ok_move rfl) rfl rfl rfl ?_))
  all_goals (first | (refine Br.keep ?_) | (refine WL.step (ok_idxAddrA Tryz.underlying26 (fun w => Tryz.sizeOf69 w) rfl rfl rfl (by omega) (by first | rfl | assumption)) rfl rfl rfl ?_))
  all_goals (first | (refine Br.keep ?_) | (refine WL.step (ok_loadN (fun w => Tryz.isAgg69 w) (fun w => Tryz.sizeOf69 w) rfl rfl (by assumption)) rfl rfl rfl ?_))
  all_goals (first
               | (refine Br.keep ?_)
               | (refine WL.callT (vs := [_]) rfl rfl hcf rfl (hp y (List.mem_of_getElem? hy) h1 hx1) rfl rfl rfl ?_
                  rintro _ h2 ⟨rfl, hx2⟩))
  all_goals (first | (refine Br.keep ?_) | (cases hpy : p y))
  all_goals (refine Gn ?_)
  all_goals (first | (refine Br.keep ?_) | (refine Gs [(0, _), (1, _), (5, _), (7, _), (8, _), (16, _)] ?_))
  all_goals (first | (refine Br.keep ?_) | (refine goC 3 4 ?_ ?_ <;> first | exact ⟨⟩ | refine Hb.mk fun hb => ?_ | skip))
  all_goals (first | (fail_if_success refine goB 3 ?_) | (
  refine goB 3 ?_
  all_goals (refine WC.sr ?_)
  all_goals (refine Go ?_)
  all_goals (refine Gs [(4, _)] ?_)
  all_goals (refine Gt ?_)
  all_goals (first | exact ⟨by rw [idxP_no (by rw [List.take_of_length_le (by omega)] at hn; exact hn)], hx1⟩ | exact ⟨by rw [idxP_at hy hpy hn], hx1.trans hx2⟩)
  skip))
  all_goals (first | (fail_if_success refine goB 4 ?_) | (
  refine goB 4 ?_
  all_goals (refine WC.skip ?_)
  skip))
  all_goals (refine Gn ?_)
  all_goals (first | (refine Br.keep ?_) | (refine WC.region ?_))
  all_goals (refine Go ?_)
  all_goals (first | (refine Br.keep ?_) | (exact ⟨k + 1, ⟨rfl, rfl, rfl, rfl, trivial⟩, (by exact ⟨hx1.trans hx2, by omega, take_snoc_p hn hy hpy⟩), (by omega)⟩))
  all_goals (try (refine Br.mk (i := 1000) ?_))
  all_goals (refine Gn ?_)
  all_goals (refine Gs [] ?_)
  all_goals (refine WC.sr ?_)
  all_goals (refine Go ?_)
  all_goals (refine Gt ?_)
  all_goals (first | exact ⟨by rw [idxP_no (by rw [List.take_of_length_le (by omega)] at hn; exact hn)], hx1⟩ | exact ⟨by rw [idxP_at hy hpy hn], hx1.trans hx2⟩)

set_option maxHeartbeats 2000000 in
set_option maxRecDepth 100000 in
theorem indexFunc_fld {h : Heap} {v : Value} (l : List FieldD) (p : FieldD → Bool) {fk : Nat} {fs us : List Value} (hcf : ∀ (args : Array Value) (w : World), (callFunc fk args).run Tryz.prog w = .ok (.enter fk args) w) (hr : Rd h v 2 l.length (l.flatMap FieldD.cells)) (hm : l.length ≤ maxLen)
    (hp : ∀ x ∈ l, ∀ h', Ext No h h' → CallsH Tryz.prog fk ⟨fs ++ [.agg ⟨FieldD.cells x⟩] ++ us⟩ h' fun u h'' => u = .bool (p x) ∧ Ext No h' h'') :
    CallsH Tryz.prog 71 ⟨[v, .func (.func fk) ⟨fs⟩ ⟨us⟩]⟩ h fun u h' => u = In (idxP p l) ∧ Ext No h h' := by
  obtain ⟨A, c, rfl, _⟩ := id hr
  unfold maxLen at hm
  refine calls [(0, _), (1, _)] Tryz.func71 rfl Tryz.ntmps71 rfl ⟨rfl, rfl, trivial⟩ ?_
  all_goals (refine WC.sr ?_)
  all_goals (refine Go ?_)
  all_goals (refine WC.seq ?_)
  all_goals (refine WC.sr ?_)
  all_goals (refine Go ?_)
  all_goals (refine WC.block ?_)
  -- loop 0: slots that turn [8], that stay [0, 1, 7]
  all_goals (refine WC.loopG (X := Nat) (fun x => ([(8, In (x : Int))] : Fr)) [(0, _), (1, _), (7, _)] (fun k h' => Ext No h h' ∧ k ≤ l.length ∧ ∀ x ∈ l.take k, p x = false) (fun k => l.length - k) (0) ⟨rfl, rfl, rfl, rfl, trivial⟩ (by exact ⟨.refl _ _, Nat.zero_le _, by simp⟩) ?_)
  all_goals (rintro k h1 ⟨hx1, hk, hn⟩)
  all_goals (refine WC.sub [(8, _), (0, _), (1, _), (7, _)] ⟨rfl, rfl, rfl, rfl, trivial⟩ ?_)
  all_goals (refine WC.sr ?_)
  all_goals (refine Go ?_)
  all_goals (refine WC.seq ?_)
  all_goals (refine goC 1 2 ?_ ?_ <;> first | exact ⟨⟩ | refine Hb.mk fun hb => ?_ | skip)
  all_goals (first | (fail_if_success refine goB 1 ?_) | (
  refine goB 1 ?_
  all_goals (refine WC.skip ?_)
  skip))
  all_goals (first | (fail_if_success refine goB 2 ?_) | (
  refine goB 2 ?_
  all_goals (refine WC.exit ?_)
  all_goals (repeat' (with_reducible first | refine thenP_x ?_ | refine blockP_miss rfl ?_ | refine blockP_hit ?_ | refine blockP_n ?_ | refine thenP_n ?_))
  all_goals (refine Br.out (i := 1000) ?_)
  skip))
  all_goals (refine Gn ?_)
  all_goals (first | (refine Br.keep ?_) | (refine WC.seq ?_))
  all_goals (first | (refine Br.keep ?_) | (refine WC.block ?_))
  all_goals (first | (refine Br.keep ?_) | (refine WC.sr ?_))
  all_goals (refine Go ?_)
  all_goals (first | (refine Br.keep ?_) | (refine WC.sr ?_))
  all_goals (first | (refine Br.keep ?_) | (refine WL.step (ok_move rfl) rfl rfl rfl ?_))
  all_goals (first | (refine Br.keep ?_) | (refine WL.step (ok_move rfl) rfl rfl rfl ?_))
  all_goals (first
               | (refine Br.keep ?_)
               | (obtain ⟨b, o, hA, hbL, hat⟩ := Rd.at_ (hr.ext0 hx1) (by omega)
                  obtain ⟨y, hy⟩ : ∃ y, l[k]? = some y := ⟨_, List.getElem?_eq_getElem (by omega)⟩
                  have hc : At h1 b (o + k * 2) (FieldD.cells y) := At.elem FieldD.len hat hy))
  all_goals (first | (refine Br.keep ?_) | (refine WL.step (ok_move rfl) rfl rfl rfl ?_))
  all_goals (first | (refine Br.keep ?_) | (refine WL.step (ok_idxAddrA Tryz.underlying27 (fun w => Tryz.sizeOf73 w) rfl rfl rfl (by omega) (by first | rfl | assumption)) rfl rfl rfl ?_))
  all_goals (first | (refine Br.keep ?_) | (refine WL.step (ok_loadN (fun w => Tryz.isAgg73 w) (fun w => Tryz.sizeOf73 w) rfl rfl (by assumption)) rfl rfl rfl ?_))
  all_goals (first
               | (refine Br.keep ?_)
               | (refine WL.callT (vs := [_]) rfl rfl hcf rfl (hp y (List.mem_of_getElem? hy) h1 hx1) rfl rfl rfl ?_
                  rintro _ h2 ⟨rfl, hx2⟩))
  all_goals (first | (refine Br.keep ?_) | (cases hpy : p y))
  all_goals (refine Gn ?_)
  all_goals (first | (refine Br.keep ?_) | (refine Gs [(0, _), (1, _), (5, _), (7, _), (8, _), (16, _)] ?_))
  all_goals (first | (refine Br.keep ?_) | (refine goC 3 4 ?_ ?_ <;> first | exact ⟨⟩ | refine Hb.mk fun hb => ?_ | skip))
  all_goals (first | (fail_if_success refine goB 3 ?_) | (
  refine goB 3 ?_
  all_goals (refine WC.sr ?_)
  all_goals (refine Go ?_)
  all_goals (refine Gs [(4, _)] ?_)
  all_goals (refine Gt ?_)
  all_goals (first | exact ⟨by rw [idxP_no (by rw [List.take_of_length_le (by omega)] at hn; exact hn)], hx1⟩ | exact ⟨by rw [idxP_at hy hpy hn], hx1.trans hx2⟩)
  skip))
  all_goals (first | (fail_if_success refine goB 4 ?_) | (
  refine goB 4 ?_
  all_goals (refine WC.skip ?_)
  skip))
  all_goals (refine Gn ?_)
  all_goals (first | (refine Br.keep ?_) | (refine WC.region ?_))
  all_goals (refine Go ?_)
  all_goals (first | (refine Br.keep ?_) | (exact ⟨k + 1, ⟨rfl, rfl, rfl, rfl, trivial⟩, (by exact ⟨hx1.trans hx2, by omega, take_snoc_p hn hy hpy⟩), (by omega)⟩))
  all_goals (try (refine Br.mk (i := 1000) ?_))
  all_goals (refine Gn ?_)
  all_goals (refine Gs [] ?_)
  all_goals (refine WC.sr ?_)
  all_goals (refine Go ?_)
  all_goals (refine Gt ?_)
  all_goals (first | exact ⟨by rw [idxP_no (by rw [List.take_of_length_le (by omega)] at hn; exact hn)], hx1⟩ | exact ⟨by rw [idxP_at hy hpy hn], hx1.trans hx2⟩)

set_option maxHeartbeats 2000000 in
set_option maxRecDepth 100000 in
theorem indexFunc_cel {h : Heap} {v : Value} (l : List Cel) (p : Cel → Bool) {fk : Nat} {fs us : List Value} (hcf : ∀ (args : Array Value) (w : World), (callFunc fk args).run Tryz.prog w = .ok (.enter fk args) w) (hr : Rd h v 2 l.length (l.flatMap Cel.cells)) (hm : l.length ≤ maxLen)
    (hp : ∀ x ∈ l, ∀ h', Ext No h h' → CallsH Tryz.prog fk ⟨fs ++ [.agg ⟨Cel.cells x⟩] ++ us⟩ h' fun u h'' => u = .bool (p x) ∧ Ext No h' h'') :
    CallsH Tryz.prog 69 ⟨[v, .func (.func fk) ⟨fs⟩ ⟨us⟩]⟩ h fun u h' => u = In (idxP p l) ∧ Ext No h h' := by
  obtain ⟨A, c, rfl, _⟩ := id hr
  unfold maxLen at hm
  refine calls [(0, _), (1, _)] Tryz.func69 rfl Tryz.ntmps69 rfl ⟨rfl, rfl, trivial⟩ ?_
  all_goals (refine WC.sr ?_)
  all_goals (refine Go ?_)
  all_goals (refine WC.seq ?_)
  all_goals (refine WC.sr ?_)
  all_goals (refine Go ?_)
  all_goals (refine WC.block ?_)
  -- loop 0: slots that turn [8], that stay [0, 1, 7]
  all_goals (refine WC.loopG (X := Nat) (fun x => ([(8, In (x : Int))] : Fr)) [(0, _), (1, _), (7, _)] (fun k h' => Ext No h h' ∧ k ≤ l.length ∧ ∀ x ∈ l.take k, p x = false) (fun k => l.length - k) (0) ⟨rfl, rfl, rfl, rfl, trivial⟩ (by exact ⟨.refl _ _, Nat.zero_le _, by simp⟩) ?_)
  all_goals (rintro k h1 ⟨hx1, hk, hn⟩)
  all_goals (refine WC.sub [(8, _), (0, _), (1, _), (7, _)] ⟨rfl, rfl, rfl, rfl, trivial⟩ ?_)
  all_goals (refine WC.sr ?_)
  all_goals (refine Go ?_)
  all_goals (refine WC.seq ?_)
  all_goals (refine goC 1 2 ?_ ?_ <;> first | exact ⟨⟩ | refine Hb.mk fun hb => ?_ | skip)
  all_goals (first | (fail_if_success refine goB 1 ?_) | (
  refine goB 1 ?_
  all_goals (refine WC.skip ?_)
  skip))
  all_goals (first | (fail_if_success refine goB 2 ?_) | (
  refine goB 2 ?_
  all_goals (refine WC.exit ?_)
  all_goals (repeat' (with_reducible first | refine thenP_x ?_ | refine blockP_miss rfl ?_ | refine blockP_hit ?_ | refine blockP_n ?_ | refine thenP_n ?_))
  all_goals (refine Br.out (i := 1000) ?_)
  skip))
  all_goals (refine Gn ?_)
  all_goals (first | (refine Br.keep ?_) | (refine WC.seq ?_))
  all_goals (first | (refine Br.keep ?_) | (refine WC.block ?_))
  all_goals (first | (refine Br.keep ?_) | (refine WC.sr ?_))
  all_goals (refine Go ?_)
  all_goals (first | (refine Br.keep ?_) | (refine WC.sr ?_))
  all_goals (first | (refine Br.keep ?_) | (refine WL.step (ok_move rfl) rfl rfl rfl ?_))
  all_goals (first | (refine Br.keep ?_) | (refine WL.step (ok_move rfl) rfl rfl rfl ?_))
  all_goals (first
               | (refine Br.keep ?_)
               | (obtain ⟨b, o, hA, hbL, hat⟩ := Rd.at_ (hr.ext0 hx1) (by omega)
                  obtain ⟨y, hy⟩ : ∃ y, l[k]? = some y := ⟨_, List.getElem?_eq_getElem (by omega)⟩
                  have hc : At h1 b (o + k * 2) (Cel.cells y) := At.elem Cel.len hat hy))
  all_goals (first | (refine Br.keep ?_) | (refine WL.step (ok_move rfl) rfl rfl rfl ?_))
  all_goals (first | (refine Br.keep ?_) | (refine WL.step (ok_idxAddrA Tryz.underlying23 (fun w => Tryz.sizeOf65 w) rfl rfl rfl (by omega) (by first | rfl | assumption)) rfl rfl rfl ?_))
  all_goals (first | (refine Br.keep ?_) | (refine WL.step (ok_loadN (fun w => Tryz.isAgg65 w) (fun w => Tryz.sizeOf65 w) rfl rfl (by assumption)) rfl rfl rfl ?_))
  all_goals (first
               | (refine Br.keep ?_)
               | (refine WL.callT (vs := [_]) rfl rfl hcf rfl (hp y (List.mem_of_getElem? hy) h1 hx1) rfl rfl rfl ?_
                  rintro _ h2 ⟨rfl, hx2⟩))
  all_goals (first | (refine Br.keep ?_) | (cases hpy : p y))
  all_goals (refine Gn ?_)
  all_goals (first | (refine Br.keep ?_) | (refine Gs [(0, _), (1, _), (5, _), (7, _), (8, _), (16, _)] ?_))
  all_goals (first | (refine Br.keep ?_) | (refine goC 3 4 ?_ ?_ <;> first | exact ⟨⟩ | refine Hb.mk fun hb => ?_ | skip))
  all_goals (first | (fail_if_success refine goB 3 ?_) | (
  refine goB 3 ?_
  all_goals (refine WC.sr ?_)
  all_goals (refine Go ?_)
  all_goals (refine Gs [(4, _)] ?_)
  all_goals (refine Gt ?_)
  all_goals (first | exact ⟨by rw [idxP_no (by rw [List.take_of_length_le (by omega)] at hn; exact hn)], hx1⟩ | exact ⟨by rw [idxP_at hy hpy hn], hx1.trans hx2⟩)
  skip))
  all_goals (first | (fail_if_success refine goB 4 ?_) | (
  refine goB 4 ?_
  all_goals (refine WC.skip ?_)
  skip))
  all_goals (refine Gn ?_)
  all_goals (first | (refine Br.keep ?_) | (refine WC.region ?_))
  all_goals (refine Go ?_)
  all_goals (first | (refine Br.keep ?_) | (exact ⟨k + 1, ⟨rfl, rfl, rfl, rfl, trivial⟩, (by exact ⟨hx1.trans hx2, by omega, take_snoc_p hn hy hpy⟩), (by omega)⟩))
  all_goals (try (refine Br.mk (i := 1000) ?_))
  all_goals (refine Gn ?_)
  all_goals (refine Gs [] ?_)
  all_goals (refine WC.sr ?_)
  all_goals (refine Go ?_)
  all_goals (refine Gt ?_)
  all_goals (first | exact ⟨by rw [idxP_no (by rw [List.take_of_length_le (by omega)] at hn; exact hn)], hx1⟩ | exact ⟨by rw [idxP_at hy hpy hn], hx1.trans hx2⟩)

/-- A column that may be. -/
def ColD.okB (c : ColD) : Prop := cleanB c.nm = true ∧ (0 ≤ c.t ∧ c.t ≤ 4294967295) ∧ (0 ≤ c.a ∧ c.a ≤ 65535) ∧ (0 ≤ c.o ∧ c.o ≤ 4294967295) ∧ (-32768 ≤ c.s ∧ c.s ≤ 32767) ∧ (-2147483648 ≤ c.m ∧ c.m ≤ 2147483647) ∧ (0 ≤ c.f ∧ c.f ≤ 65535)
def FieldD.okB (c : FieldD) : Prop := c.k ≠ 0 ∧ cleanB c.t = true
def Cel.okB (c : Cel) : Prop := (c.null = true → c.bytes.length = 0) ∧ c.bytes.length ≤ 1048576
end Go.Proofs.YtinjbljnbiiloaaGreatDoor


/-
  back.Check, of messages that may be: the fields of a kind; all of it.
-/
namespace Go.Proofs.YtinjbljnbiiloaaGreatDoor
open Go Go.RK

def zB (k : Int) : Bk := ⟨k, 0, [], [], [], 0, 0, .slice none 0 0, [], .slice none 0 0, [], .slice none 0 0, [], .slice none 0 0, []⟩
/-- A message with no fields but those that its body has. -/
def ofB (b : Bk) : Bk :=
  if b.kind = 83 then { zB b.kind with name := b.name, value := b.value }
  else if b.kind = 75 then { zB b.kind with n := b.n, m := b.m }
  else if b.kind = 90 then { zB b.kind with status := b.status }
  else if b.kind = 67 then { zB b.kind with tag := b.tag }
  else if b.kind = 68 then { zB b.kind with vr := b.vr, row := b.row }
  else if b.kind = 84 then { zB b.kind with vc := b.vc, cols := b.cols }
  else if b.kind = 116 then { zB b.kind with vo := b.vo, oids := b.oids }
  else if b.kind = 69 ∨ b.kind = 78 then { zB b.kind with vf := b.vf, fields := b.fields }
  else zB b.kind
theorem cels_no (h : Heap) : Cels h (.slice none 0 0) [] := ⟨Rd.nil _ _, ⟨by simp, _, _, rfl, by decide⟩, by simp⟩
theorem zB_ok (h : Heap) (k : Int) : (zB k).ok h := ⟨⟨Rd.nil _ _, by simp [zB]⟩, ⟨Rd.nil _ _, by simp [zB]⟩, cels_no h, ⟨Rd.nil _ _, by simp [zB]⟩⟩
theorem ofB_ok {h : Heap} {b : Bk} (k : b.ok h) : (ofB b).ok h := by
  obtain ⟨k1, k2, k3, k4⟩ := k
  obtain ⟨z1, z2, z3, z4⟩ := zB_ok h b.kind
  unfold ofB
  repeat' split
  all_goals first | exact ⟨z1, z2, z3, z4⟩ | exact ⟨z1, z2, k3, z4⟩ | exact ⟨z1, k2, z3, z4⟩ | exact ⟨k1, z2, z3, z4⟩ | exact ⟨z1, z2, z3, k4⟩
/-! ### Check -/
def kindsB : List UInt8 := [82, 83, 75, 90, 49, 50, 51, 110, 115, 73, 67, 68, 84, 116, 69, 78]
def Bk.stOk (b : Bk) : Prop := b.kind ≠ 90 ∨ b.status = 73 ∨ b.status = 84 ∨ b.status = 69
/-- A message that may be. -/
structure Bk.may (b : Bk) : Prop where
  kind : ∃ k : UInt8, Value.int .u8 b.kind = By k ∧ kindsB.contains k = true
  tag : cleanB b.tag = true
  name : cleanB b.name = true
  value : cleanB b.value = true
  cols : b.cols.length ≤ 65535 ∧ ∀ c ∈ b.cols, c.okB
  fields : b.fields.length ≤ 65535 ∧ ∀ f ∈ b.fields, f.okB
  row : b.row.length ≤ 65535 ∧ ∀ c ∈ b.row, c.okB
  oids : b.oids.length ≤ 65535 ∧ ∀ n ∈ b.oids, 0 ≤ n ∧ n ≤ 4294967295
  n : 0 ≤ b.n ∧ b.n ≤ 4294967295
  m : 0 ≤ b.m ∧ b.m ≤ 4294967295
  st : b.stOk
  own : (ofB b).pl = b.pl
end Go.Proofs.YtinjbljnbiiloaaGreatDoor


/-
  LISTS OF REPLIES (layer 7): whether all of a list may be, at any list.
-/
namespace Go.Proofs.YtinjbljnbiiloaaGreatDoor
open Go Go.RK

set_option maxHeartbeats 2000000 in
set_option maxRecDepth 100000 in
theorem has_col {h : Heap} {v : Value} (l : List ColD) (p : ColD → Bool) {fk : Nat} {fs us : List Value} (hcf : ∀ (args : Array Value) (w : World), (callFunc fk args).run Tryz.prog w = .ok (.enter fk args) w) (hr : Rd h v 7 l.length (l.flatMap ColD.cells)) (hm : l.length ≤ maxLen)
    (hp : ∀ x ∈ l, ∀ h', Ext No h h' → CallsH Tryz.prog fk ⟨fs ++ [.agg ⟨ColD.cells x⟩] ++ us⟩ h' fun u h'' => u = .bool (p x) ∧ Ext No h' h'') :
    CallsH Tryz.prog 23 ⟨[v, .func (.func fk) ⟨fs⟩ ⟨us⟩]⟩ h fun u h' => u = .bool (l.any p) ∧ Ext No h h' := by
  refine calls [(0, _), (1, _)] Tryz.func23 rfl Tryz.ntmps23 rfl ⟨rfl, rfl, trivial⟩ ?_
  all_goals (refine WC.sr ?_)
  all_goals (refine Go ?_)
  all_goals (refine WC.sr ?_)
  all_goals (refine Go ?_)
  all_goals (refine WL.call (vs := [_, _]) rfl (fun a w => Tryz.call70 a w) rfl (indexFunc_col l p hcf hr hm hp) rfl rfl rfl ?_
             rintro _ h1 ⟨rfl, hx1⟩)
  all_goals (refine WL.step (ok_geq rfl rfl) rfl rfl rfl ?_)
  all_goals (refine Go ?_)
  all_goals (refine Gs [(4, _)] ?_)
  all_goals (refine Gt ?_)
  all_goals (exact ⟨by rw [idxP_geq], hx1⟩)

set_option maxHeartbeats 2000000 in
set_option maxRecDepth 100000 in
theorem has_fld {h : Heap} {v : Value} (l : List FieldD) (p : FieldD → Bool) {fk : Nat} {fs us : List Value} (hcf : ∀ (args : Array Value) (w : World), (callFunc fk args).run Tryz.prog w = .ok (.enter fk args) w) (hr : Rd h v 2 l.length (l.flatMap FieldD.cells)) (hm : l.length ≤ maxLen)
    (hp : ∀ x ∈ l, ∀ h', Ext No h h' → CallsH Tryz.prog fk ⟨fs ++ [.agg ⟨FieldD.cells x⟩] ++ us⟩ h' fun u h'' => u = .bool (p x) ∧ Ext No h' h'') :
    CallsH Tryz.prog 26 ⟨[v, .func (.func fk) ⟨fs⟩ ⟨us⟩]⟩ h fun u h' => u = .bool (l.any p) ∧ Ext No h h' := by
  refine calls [(0, _), (1, _)] Tryz.func26 rfl Tryz.ntmps26 rfl ⟨rfl, rfl, trivial⟩ ?_
  all_goals (refine WC.sr ?_)
  all_goals (refine Go ?_)
  all_goals (refine WC.sr ?_)
  all_goals (refine Go ?_)
  all_goals (refine WL.call (vs := [_, _]) rfl (fun a w => Tryz.call71 a w) rfl (indexFunc_fld l p hcf hr hm hp) rfl rfl rfl ?_
             rintro _ h1 ⟨rfl, hx1⟩)
  all_goals (refine WL.step (ok_geq rfl rfl) rfl rfl rfl ?_)
  all_goals (refine Go ?_)
  all_goals (refine Gs [(4, _)] ?_)
  all_goals (refine Gt ?_)
  all_goals (exact ⟨by rw [idxP_geq], hx1⟩)

set_option maxHeartbeats 2000000 in
set_option maxRecDepth 100000 in
theorem has_cel {h : Heap} {v : Value} (l : List Cel) (p : Cel → Bool) {fk : Nat} {fs us : List Value} (hcf : ∀ (args : Array Value) (w : World), (callFunc fk args).run Tryz.prog w = .ok (.enter fk args) w) (hr : Rd h v 2 l.length (l.flatMap Cel.cells)) (hm : l.length ≤ maxLen)
    (hp : ∀ x ∈ l, ∀ h', Ext No h h' → CallsH Tryz.prog fk ⟨fs ++ [.agg ⟨Cel.cells x⟩] ++ us⟩ h' fun u h'' => u = .bool (p x) ∧ Ext No h' h'') :
    CallsH Tryz.prog 21 ⟨[v, .func (.func fk) ⟨fs⟩ ⟨us⟩]⟩ h fun u h' => u = .bool (l.any p) ∧ Ext No h h' := by
  refine calls [(0, _), (1, _)] Tryz.func21 rfl Tryz.ntmps21 rfl ⟨rfl, rfl, trivial⟩ ?_
  all_goals (refine WC.sr ?_)
  all_goals (refine Go ?_)
  all_goals (refine WC.sr ?_)
  all_goals (refine Go ?_)
  all_goals (refine WL.call (vs := [_, _]) rfl (fun a w => Tryz.call69 a w) rfl (indexFunc_cel l p hcf hr hm hp) rfl rfl rfl ?_
             rintro _ h1 ⟨rfl, hx1⟩)
  all_goals (refine WL.step (ok_geq rfl rfl) rfl rfl rfl ?_)
  all_goals (refine Go ?_)
  all_goals (refine Gs [(4, _)] ?_)
  all_goals (refine Gt ?_)
  all_goals (exact ⟨by rw [idxP_geq], hx1⟩)

def BndD.okB (b : BndD) : Bool := decide (b.lo ≤ b.n) && decide (b.n ≤ b.hi)
instance (c : ColD) : Decidable c.okB := by unfold ColD.okB; exact inferInstance
instance (c : FieldD) : Decidable c.okB := by unfold FieldD.okB; exact inferInstance
instance (c : Cel) : Decidable c.okB := by unfold Cel.okB; exact inferInstance
def oidB (n : Int) : Bool := decide (0 ≤ n) && decide (n ≤ 4294967295)
end Go.Proofs.YtinjbljnbiiloaaGreatDoor


/-
  api.Entry as it comes in; whether entries are few (without the cache's texts).
-/
namespace Go.Proofs.YtinjbljnbiiloaaGreatDoor
open Go Go.RK

abbrev COp := Int × Int × Unit
def copCells : COp → List Value := fun p => [In p.1] ++ ([In p.2.1] ++ [])
abbrev Ops (h : Heap) (v : Value) (l : List COp) : Prop := Rd h v 2 l.length (l.flatMap copCells) ∧ l.length * 16 ≤ reachBytes
theorem Ops.ext0 {h h' : Heap} {v : Value} {l : List COp} (k : Ops h v l) (a : Ext No h h') : Ops h' v l := ⟨k.1.ext0 a, k.2⟩
/-- A row of ops among others. -/
structure Ob where
  v : Value
  l : List COp
def Obs (h : Heap) (v : Value) (L : List Ob) : Prop := Rd h v 1 L.length (L.map Ob.v) ∧ L.length * 24 ≤ reachBytes ∧ ∀ r ∈ L, Ops h r.v r.l
theorem Obs.ext0 {h h' : Heap} {v : Value} {L : List Ob} (k : Obs h v L) (a : Ext No h h') : Obs h' v L := ⟨k.1.ext0 a, k.2.1, fun r hr => (k.2.2 r hr).ext0 a⟩
abbrev TOp := Bool × List UInt8 × Int × Unit
def topCells : TOp → List Value := fun p => [.bool p.1] ++ ([St p.2.1] ++ ([In p.2.2.1] ++ []))
abbrev Tops (h : Heap) (v : Value) (l : List TOp) : Prop := Rd h v 3 l.length (l.flatMap topCells) ∧ l.length ≤ maxLen
/-- An entry. -/
structure En where
  kind : Int
  hide : Bool
  src : List UInt8
  dst : List UInt8
  vg : Value
  good : List TOp
  vb : Value
  bad : List TOp
  vc : Value
  ops : List COp
  vr : Value
  reply : List UInt8
def En.cells (e : En) : List Value := [In e.kind, .bool e.hide, St e.src, St e.dst, e.vg, e.vb, e.vc, e.vr]
theorem En.len (e : En) : e.cells.length = 8 := rfl
structure En.ok (h : Heap) (e : En) : Prop where
  good : Tops h e.vg e.good
  bad : Tops h e.vb e.bad
  ops : Ops h e.vc e.ops
  reply : Rd h e.vr 1 e.reply.length (bys e.reply) ∧ e.reply.length ≤ reachBytes
theorem En.ok.ext0 {h h' : Heap} {e : En} (k : e.ok h) (a : Ext No h h') : e.ok h' := ⟨⟨k.1.1.ext0 a, k.1.2⟩, ⟨k.2.1.ext0 a, k.2.2⟩, k.3.ext0 a, ⟨k.4.1.ext0 a, k.4.2⟩⟩
theorem En.ok.one {h : Heap} {e : En} (k : e.ok h) : ∀ v ∈ e.cells, v.oneCell' = true := by
  obtain ⟨A1, c1, e1, _⟩ := k.1.1
  obtain ⟨A2, c2, e2, _⟩ := k.2.1
  obtain ⟨A3, c3, e3, _⟩ := k.3.1
  obtain ⟨A4, c4, e4, _⟩ := k.4.1
  simp [En.cells, Value.oneCell', e1, e2, e3, e4]
def Ens (h : Heap) (v : Value) (L : List En) : Prop := Rd h v 8 L.length (L.flatMap En.cells) ∧ L.length ≤ maxLen ∧ ∀ e ∈ L, e.ok h
theorem Ens.ext0 {h h' : Heap} {v : Value} {L : List En} (k : Ens h v L) (a : Ext No h h') : Ens h' v L := ⟨k.1.ext0 a, k.2.1, fun r hr => (k.2.2 r hr).ext0 a⟩
/-! ### whether they are few -/
/-- One that is too long. -/
def En.far (e : En) : Bool := decide (10 < e.good.length) || decide (10 < e.bad.length) || decide (10 < e.ops.length) || decide (300 < e.reply.length) || decide (300 < e.src.length) || decide (300 < e.dst.length)
/-- Few and short. -/
def fewE (L : List En) (n : Nat) : Bool := decide (L.length ≤ n) && !L.any En.far
end Go.Proofs.YtinjbljnbiiloaaGreatDoor


/-
  api.Back as it comes in; whether it is few.
-/
namespace Go.Proofs.YtinjbljnbiiloaaGreatDoor
open Go Go.RK

theorem opens_col (w : World) : Opens Tryz.prog w 69 ColD.cells (fun _ => True) := by
  have h7 := opensF_cons (P := Tryz.prog) (w := w) (o := 6) (f := ⟨ "Format", 3, 6, false, "", "", 56⟩) rfl (opens_int Tryz.underlying3) (by kernel_rfl) (fun _ => rfl) opensF_nil
  have h6 := opensF_cons (P := Tryz.prog) (w := w) (o := 5) (f := ⟨ "Mod", 3, 5, false, "", "", 48⟩) rfl (opens_int Tryz.underlying3) (by kernel_rfl) (fun _ => rfl) h7
  have h5 := opensF_cons (P := Tryz.prog) (w := w) (o := 4) (f := ⟨ "Size", 3, 4, false, "", "", 40⟩) rfl (opens_int Tryz.underlying3) (by kernel_rfl) (fun _ => rfl) h6
  have h4 := opensF_cons (P := Tryz.prog) (w := w) (o := 3) (f := ⟨ "OID", 3, 3, false, "", "", 32⟩) rfl (opens_int Tryz.underlying3) (by kernel_rfl) (fun _ => rfl) h5
  have h3 := opensF_cons (P := Tryz.prog) (w := w) (o := 2) (f := ⟨ "Attr", 3, 2, false, "", "", 24⟩) rfl (opens_int Tryz.underlying3) (by kernel_rfl) (fun _ => rfl) h4
  have h2 := opensF_cons (P := Tryz.prog) (w := w) (o := 1) (f := ⟨ "Table", 3, 1, false, "", "", 16⟩) rfl (opens_int Tryz.underlying3) (by kernel_rfl) (fun _ => rfl) h3
  have h1 := opensF_cons (P := Tryz.prog) (w := w) (o := 0) (f := ⟨ "Name", 9, 0, false, "", "", 0⟩) rfl (opens_string Tryz.underlying9) (by kernel_rfl) (fun _ => rfl) h2
  exact (opens_struct Tryz.underlying69 (by kernel_rfl) h1).map (fun p => (⟨p.1, p.2.1, p.2.2.1, p.2.2.2.1, p.2.2.2.2.1, p.2.2.2.2.2.1, p.2.2.2.2.2.2.1⟩ : ColD)) (fun _ => rfl) (fun _ _ => trivial)
theorem opens_fld (w : World) : Opens Tryz.prog w 73 FieldD.cells (fun f => (Lit.int .u8 f.k).wf = true) := by
  have h2 := opensF_cons (P := Tryz.prog) (w := w) (o := 1) (f := ⟨ "Text", 9, 1, false, "", "", 8⟩) rfl (opens_string Tryz.underlying9) (by kernel_rfl) (fun _ => rfl) opensF_nil
  have h1 := opensF_cons (P := Tryz.prog) (w := w) (o := 0) (f := ⟨ "Code", 5, 0, false, "", "", 0⟩) rfl (opens_int Tryz.underlying5) (by kernel_rfl) (fun _ => rfl) h2
  exact (opens_struct Tryz.underlying73 (by kernel_rfl) h1).map (fun p => (⟨p.1, p.2.1⟩ : FieldD)) (fun _ => rfl) (fun p q => q.1)
theorem wf_u8 {n : Int} (h : (Lit.int .u8 n).wf = true) : 0 ≤ n ∧ n ≤ 255 := by simpa [Lit.wf, IntKind.min, IntKind.max, IntKind.signed, IntKind.bits] using h
/-- Numbers of a reply lie where their types have them lie. -/
structure Bk.wf (b : Bk) : Prop where
  kind : 0 ≤ b.kind ∧ b.kind ≤ 255
  status : 0 ≤ b.status ∧ b.status ≤ 255
  codes : ∀ f ∈ b.fields, 0 ≤ f.k ∧ f.k ≤ 255
theorem opens_bk (w : World) : Opens Tryz.prog w 29 Bk.cells (fun b => b.ok w.heap ∧ b.wf) := by
  have h11 := opensF_cons (P := Tryz.prog) (w := w) (o := 10) (f := ⟨ "Fields", 27, 10, false, "", "", 144⟩) rfl (opens_slice Tryz.underlying27 (by kernel_rfl) (by decide) FieldD.len (opens_fld w)) (by kernel_rfl) (fun _ => rfl) opensF_nil
  have h10 := opensF_cons (P := Tryz.prog) (w := w) (o := 9) (f := ⟨ "Row", 23, 9, false, "", "", 120⟩) rfl (opens_cells w) (by kernel_rfl) (fun _ => rfl) h11
  have h9 := opensF_cons (P := Tryz.prog) (w := w) (o := 8) (f := ⟨ "Cols", 26, 8, false, "", "", 96⟩) rfl (opens_slice Tryz.underlying26 (by kernel_rfl) (by decide) ColD.len (opens_col w)) (by kernel_rfl) (fun _ => rfl) h10
  have h8 := opensF_cons (P := Tryz.prog) (w := w) (o := 7) (f := ⟨ "OIDs", 22, 7, false, "", "", 72⟩) rfl (opens_slice (sz := 1) (F := fun n : Int => [In n]) Tryz.underlying22 (by kernel_rfl) (by decide) (fun _ => rfl) (opens_int Tryz.underlying3)) (by kernel_rfl) (fun _ => rfl) h9
  have h7 := opensF_cons (P := Tryz.prog) (w := w) (o := 6) (f := ⟨ "M", 3, 6, false, "", "", 64⟩) rfl (opens_int Tryz.underlying3) (by kernel_rfl) (fun _ => rfl) h8
  have h6 := opensF_cons (P := Tryz.prog) (w := w) (o := 5) (f := ⟨ "N", 3, 5, false, "", "", 56⟩) rfl (opens_int Tryz.underlying3) (by kernel_rfl) (fun _ => rfl) h7
  have h5 := opensF_cons (P := Tryz.prog) (w := w) (o := 4) (f := ⟨ "Value", 9, 4, false, "", "", 40⟩) rfl (opens_string Tryz.underlying9) (by kernel_rfl) (fun _ => rfl) h6
  have h4 := opensF_cons (P := Tryz.prog) (w := w) (o := 3) (f := ⟨ "Name", 9, 3, false, "", "", 24⟩) rfl (opens_string Tryz.underlying9) (by kernel_rfl) (fun _ => rfl) h5
  have h3 := opensF_cons (P := Tryz.prog) (w := w) (o := 2) (f := ⟨ "Tag", 9, 2, false, "", "", 8⟩) rfl (opens_string Tryz.underlying9) (by kernel_rfl) (fun _ => rfl) h4
  have h2 := opensF_cons (P := Tryz.prog) (w := w) (o := 1) (f := ⟨ "Status", 5, 1, false, "", "", 1⟩) rfl (opens_int Tryz.underlying5) (by kernel_rfl) (fun _ => rfl) h3
  have h1 := opensF_cons (P := Tryz.prog) (w := w) (o := 0) (f := ⟨ "Kind", 5, 0, false, "", "", 0⟩) rfl (opens_int Tryz.underlying5) (by kernel_rfl) (fun _ => rfl) h2
  have h0 := opens_struct Tryz.underlying29 (by kernel_rfl) h1
  refine h0.map (fun p => (⟨p.1, p.2.1, p.2.2.1, p.2.2.2.1, p.2.2.2.2.1, p.2.2.2.2.2.1, p.2.2.2.2.2.2.1, p.2.2.2.2.2.2.2.1.1, p.2.2.2.2.2.2.2.1.2, p.2.2.2.2.2.2.2.2.1.1, p.2.2.2.2.2.2.2.2.1.2, p.2.2.2.2.2.2.2.2.2.1.1, p.2.2.2.2.2.2.2.2.2.1.2, p.2.2.2.2.2.2.2.2.2.2.1.1, p.2.2.2.2.2.2.2.2.2.2.1.2⟩ : Bk)) (fun _ => rfl) (fun p q => ?_)
  obtain ⟨q1, q2, q3, q4, q5, q6, q7, q8, q9, q10, q11, _⟩ := q
  refine ⟨⟨⟨?_, q8.2.1⟩, ⟨q9.1, q9.2.1⟩, q10, ⟨q11.1, q11.2.1⟩⟩, ⟨wf_u8 q1, wf_u8 q2, fun f hf => wf_u8 (q11.2.2.2.1 f hf)⟩⟩
  have := q8.1
  rw [flat_one] at this
  exact this

/-! ### few -/
structure Bk.few (b : Bk) : Prop where
  oids : b.oids.length ≤ 50
  cols : b.cols.length ≤ 50
  row : b.row.length ≤ 50
  fields : b.fields.length ≤ 50
  names : ∀ c ∈ b.cols, c.nm.length ≤ 300
  cells : ∀ c ∈ b.row, c.bytes.length ≤ 300
  texts : ∀ f ∈ b.fields, f.t.length ≤ 1000
  tag : b.tag.length ≤ 300
  name : b.name.length ≤ 300
  value : b.value.length ≤ 300
set_option maxHeartbeats 2000000 in
set_option maxRecDepth 100000 in
theorem bk1 {h : Heap} (c : ColD) : CallsH Tryz.prog 24 ⟨[.agg ⟨c.cells⟩]⟩ h fun u h' => u = .bool (decide (300 < c.nm.length)) ∧ Ext No h h' := by
  obtain ⟨nm, t, a, o, s, m, f⟩ := c
  dsimp only [ColD.cells]
  refine calls [(0, _)] Tryz.func24 rfl Tryz.ntmps24 rfl ⟨rfl, trivial⟩ ?_
  all_goals (refine WC.sr ?_)
  all_goals (refine WL.stepR (okE_box rfl) rfl rfl rfl ?_
             rintro _ h1 ⟨b1, rfl, hg1, hb1, hx1⟩)
  all_goals (refine Go ?_)
  all_goals (refine WC.sr ?_)
  all_goals (refine Go ?_)
  all_goals (refine Ld ?_)
  all_goals (refine Go ?_)
  all_goals (refine Gs [(2, _)] ?_)
  all_goals (refine Gt ?_)
  all_goals (exact ⟨congrArg Value.bool (decide_eq_decide.2 (by omega)), hx1⟩)
set_option maxHeartbeats 2000000 in
set_option maxRecDepth 100000 in
theorem bk2 {h h0 : Heap} (c : Cel) (hk : c.ok h0) : CallsH Tryz.prog 25 ⟨[.agg ⟨c.cells⟩]⟩ h fun u h' => u = .bool (decide (300 < c.bytes.length)) ∧ Ext No h h' := by
  obtain ⟨nl, v, bs⟩ := c
  obtain ⟨A, cc, e, _⟩ := hk.1
  simp only at e
  subst e
  dsimp only [Cel.cells]
  refine calls [(0, _)] Tryz.func25 rfl Tryz.ntmps25 rfl ⟨rfl, trivial⟩ ?_
  all_goals (refine WC.sr ?_)
  all_goals (refine WL.stepR (okE_box rfl) rfl rfl rfl ?_
             rintro _ h1 ⟨b1, rfl, hg1, hb1, hx1⟩)
  all_goals (refine Go ?_)
  all_goals (refine WC.sr ?_)
  all_goals (refine Go ?_)
  all_goals (refine Ld ?_)
  all_goals (refine Go ?_)
  all_goals (refine Gs [(2, _)] ?_)
  all_goals (refine Gt ?_)
  all_goals (exact ⟨congrArg Value.bool (decide_eq_decide.2 (by omega)), hx1⟩)
set_option maxHeartbeats 2000000 in
set_option maxRecDepth 100000 in
theorem bk3 {h : Heap} (c : FieldD) : CallsH Tryz.prog 27 ⟨[.agg ⟨c.cells⟩]⟩ h fun u h' => u = .bool (decide (1000 < c.t.length)) ∧ Ext No h h' := by
  obtain ⟨k, t⟩ := c
  dsimp only [FieldD.cells]
  refine calls [(0, _)] Tryz.func27 rfl Tryz.ntmps27 rfl ⟨rfl, trivial⟩ ?_
  all_goals (refine WC.sr ?_)
  all_goals (refine WL.stepR (okE_box rfl) rfl rfl rfl ?_
             rintro _ h1 ⟨b1, rfl, hg1, hb1, hx1⟩)
  all_goals (refine Go ?_)
  all_goals (refine WC.sr ?_)
  all_goals (refine Go ?_)
  all_goals (refine Ld ?_)
  all_goals (refine Go ?_)
  all_goals (refine Gs [(2, _)] ?_)
  all_goals (refine Gt ?_)
  all_goals (exact ⟨congrArg Value.bool (decide_eq_decide.2 (by omega)), hx1⟩)
theorem any_le {α : Type} {l : List α} {f : α → Nat} {n : Nat} (h : (l.any fun x => decide (n < f x)) = false) : ∀ x ∈ l, f x ≤ n := fun x hx => by
  have := List.any_eq_false.1 h x hx
  simpa using this
end Go.Proofs.YtinjbljnbiiloaaGreatDoor


/-
  REPLIES (layer 7): back.Same and back.Check, of any reply that is short.
-/
namespace Go.Proofs.YtinjbljnbiiloaaGreatDoor
open Go Go.RK

theorem _root_.Go.RK.CallsH.dec {P : Program} {k : FuncId} {args : Array Value} {h : Heap} {p : Prop} [Decidable p] {K : Heap → Prop} (hc : CallsH P k args h fun u h' => u = .bool (decide p) ∧ K h') :
    CallsH P k args h fun u h' => ((u = .bool true ∧ p) ∨ (u = .bool false ∧ ¬p)) ∧ K h' := hc.mono fun v h' q => by
  by_cases e : p
  · exact ⟨.inl ⟨by rw [q.1, decide_eq_true e], e⟩, q.2⟩
  · exact ⟨.inr ⟨by rw [q.1, decide_eq_false e], e⟩, q.2⟩
theorem _root_.Go.RK.CallsH.bl {P : Program} {k : FuncId} {args : Array Value} {h : Heap} {b : Bool} {K : Heap → Prop} (hc : CallsH P k args h fun u h' => u = .bool b ∧ K h') :
    CallsH P k args h fun u h' => ((u = .bool true ∧ b = true) ∨ (u = .bool false ∧ b = false)) ∧ K h' := hc.mono fun v h' q => by
  cases b
  · exact ⟨.inr ⟨q.1, rfl⟩, q.2⟩
  · exact ⟨.inl ⟨q.1, rfl⟩, q.2⟩
end Go.Proofs.YtinjbljnbiiloaaGreatDoor


