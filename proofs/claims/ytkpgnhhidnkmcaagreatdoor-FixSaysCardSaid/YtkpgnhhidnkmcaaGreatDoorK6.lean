/-
  MAPS; small steps between pieces of code. No program is named here.
-/
import Derived.Test.YtkpgnhhidnkmcaaGreatDoorK5
import Derived.MapKept
namespace Go.RK
open Go Go.MapKept

/-! ### what stands round a piece of code -/
structure Br (i : Nat) (p : Prop) : Prop where
  out : p
theorem Br.keep {i : Nat} {p : Prop} (h : Br i p) : Br i p := h
section
variable {P : Program} {n : Env} {Q : Post} {f : Fr} {h : Heap} {K : Fr → Heap → Prop}
theorem thenP_n (hk : K f h) : thenP K Q .normal f h := hk
theorem thenP_x {i : Nat} (hk : Q (.exit i) f h) : thenP K Q (.exit i) f h := hk
theorem thenP_r (hk : Q .ret f h) : thenP K Q .ret f h := hk
theorem blockP_n {id : Nat} (hk : Q .normal f h) : blockP id Q .normal f h := hk
theorem blockP_r {id : Nat} (hk : Q .ret f h) : blockP id Q .ret f h := hk
theorem blockP_hit {id : Nat} (hk : Q .normal f h) : blockP id Q (.exit id) f h := by simp only [blockP, if_true]; exact hk
theorem blockP_miss {id i : Nat} (hne : Nat.beq i id = false) (hk : Q (.exit i) f h) : blockP id Q (.exit i) f h := by
  have e : i ≠ id := fun e => by rw [e, Nat.beq_refl] at hne; cases hne
  simp only [blockP, if_neg e]
  exact hk
theorem WC.condB {c : Operand} {x y : Code} {b : Bool} (i j : Nat) (hc : f.ev c = some (.bool b)) (ht : b = true → Br i (WC P n x Q f h)) (hf : b = false → Br j (WC P n y Q f h)) : WC P n (.cond c x y) Q f h :=
  .cond hc (fun e => (ht e).out) (fun e => (hf e).out)
theorem WC.condB_t {c : Operand} {x y : Code} (i : Nat) (hc : f.ev c = some (.bool true)) (ht : Br i (WC P n x Q f h)) : WC P n (.cond c x y) Q f h := .cond_t hc ht.out
theorem WC.condB_f {c : Operand} {x y : Code} (j : Nat) (hc : f.ev c = some (.bool false)) (hf : Br j (WC P n y Q f h)) : WC P n (.cond c x y) Q f h := .cond_f hc hf.out
theorem WC.loopG {X : Type} {c : Code} (G : X → Fr) (fx : Fr) (I : X → Heap → Prop) (μ : X → Nat) (x0 : X) (hs : SubL (G x0 ++ fx) f) (h0 : I x0 h)
    (round : ∀ x h, I x h → WC P n c (thenP (fun f' h' => ∃ x', SubL (G x' ++ fx) f' ∧ I x' h' ∧ μ x' < μ x) Q) (G x ++ fx) h) : WC P n (.loop c) Q f h :=
  .loop (fun x => G x ++ fx) I μ x0 hs h0 round
theorem retP_i {fn : Func} {R : Value → Heap → Prop} (vs : List Value) (hr : ResL P h f fn.results.toList vs) (hR : R (tup vs) h) : retP P fn R .ret f h := ⟨vs, hr, hR⟩
theorem retP_1 {fn : Func} {R : Value → Heap → Prop} (v : Value) (hr : ResL P h f fn.results.toList [v]) (hR : R v h) : retP P fn R .ret f h := ⟨[v], hr, hR⟩
theorem retP_2 {fn : Func} {R : Value → Heap → Prop} (v u : Value) (hr : ResL P h f fn.results.toList [v, u]) (hR : R (.tuple ⟨[v, u]⟩) h) : retP P fn R .ret f h := ⟨[v, u], hr, hR⟩
theorem retP_3 {fn : Func} {R : Value → Heap → Prop} (v u x : Value) (hr : ResL P h f fn.results.toList [v, u, x]) (hR : R (.tuple ⟨[v, u, x]⟩) h) : retP P fn R .ret f h := ⟨[v, u, x], hr, hR⟩
theorem retP_0 {fn : Func} {R : Value → Heap → Prop} (hr : ResL P h f fn.results.toList []) (hR : R (.tuple ⟨[]⟩) h) : retP P fn R .ret f h := ⟨[], hr, hR⟩
theorem retP_n {fn : Func} {R : Value → Heap → Prop} (vs : List Value) (hr : ResL P h f fn.results.toList vs) (hR : R (tup vs) h) : retP P fn R .normal f h := ⟨vs, hr, hR⟩
theorem Rd.at_ {A : Option Addr} {k c sz : Nat} {xs : List Value} (r : Rd h (.slice A k c) sz k xs) (hn : 0 < k) : ∃ b o, A = some ⟨b, o, Option.none⟩ ∧ b < h.size ∧ At h b o xs := by
  obtain ⟨A', c', e, _, _, hp⟩ := r
  injection e with e1 e2 e3
  subst e1
  exact hp hn
theorem At.get {b o p : Nat} {vs : List Value} {v : Value} (ha : At h b o vs) (j : Nat) (hj : vs[j]? = some v) (hp : p = o + j) : cell h ⟨b, p, Option.none⟩ = some v := by subst hp; exact ha j v hj
theorem ok_idxAddrA {d : Option Tmp} {ty : TypeId} {pos : String} {af : Array Edge} {g : Option (Nat × Bool)} {t e : TypeId} {x y : Operand} {A : Option Addr} {b o l c sz k : Nat} {kd : IntKind} {i : Int} (hu : P.underlying t = some (.slice e)) (hz : ∀ w, (sizeOf e).run P w = .ok sz w)
    (hx : f.ev x = some (.slice A l c)) (hy : f.ev y = some (.int kd i)) (hi : i = (k : Int)) (hk : k < l) (hA : A = some ⟨b, o, Option.none⟩) :
    OkP P f ⟨d, .indexAddr t x y, ty, pos, af, g⟩ h (.pointer (some ⟨b, o + k * sz, Option.none⟩)) := by
  subst hA
  subst hi
  exact ok_idxAddr hu hz hx hy ⟨by omega, by omega⟩
end

/-! ### maps -/
structure KeyEnc (κ : Type) (d : TypeDesc) (enc : κ → Value) : Prop where
  key : ∀ k, IsKey d (enc k)
  inj : ∀ a b, enc a = enc b → a = b
theorem keyS : KeyEnc (List UInt8) .string St := ⟨fun _ => trivial, fun a b e => by
  simp only [St, Value.string.injEq, ByteArray.mk.injEq, Array.mk.injEq] at e
  exact e⟩
theorem keyI : KeyEnc Int (.int .i64) In := ⟨fun _ => rfl, fun a b e => by simpa [In] using e⟩

section
variable {κ : Type} [DecidableEq κ]
def alook (es : List (κ × Value)) (k : κ) : Option Value := (es.find? fun p => decide (p.1 = k)).map (·.2)
def aput (es : List (κ × Value)) (k : κ) (v : Value) : List (κ × Value) :=
  if (alook es k).isSome then es.map (fun p => if p.1 = k then (k, v) else p) else es ++ [(k, v)]
def adel (es : List (κ × Value)) (k : κ) : List (κ × Value) := es.filter fun p => decide (p.1 ≠ k)
end
/-- Block m is a map that holds es. -/
def Mp {κ : Type} (_d : TypeDesc) (enc : κ → Value) (h : Heap) (m : Nat) (es : List (κ × Value)) : Prop :=
  ∃ arr clock, h[m]? = some (.map arr clock) ∧ Stamped arr clock ∧ arr.toList.map (fun e => (e.key, e.val)) = es.map fun p => (enc p.1, p.2)

section
variable {κ : Type} [DecidableEq κ] {d : TypeDesc} {enc : κ → Value} {h h' : Heap} {m : Nat} {es : List (κ × Value)}
omit [DecidableEq κ] in
theorem Mp.lt (hm : Mp d enc h m es) : m < h.size := by
  obtain ⟨arr, clock, hb, _⟩ := hm
  exact lt_of_some hb
omit [DecidableEq κ] in
theorem Mp.ext {S : Nat → Prop} (hm : Mp d enc h m es) (a : Ext S h h') (hS : ¬ S m) : Mp d enc h' m es := by
  obtain ⟨arr, clock, hb, r⟩ := hm
  exact ⟨arr, clock, a.obj hb hS, r⟩
omit [DecidableEq κ] in
theorem Mp.new (h : Heap) : Mp d enc (h.push (.map #[] 0)) h.size ([] : List (κ × Value)) := ⟨#[], 0, push_new _ _, stamped_empty 0, rfl⟩
omit [DecidableEq κ] in
theorem nodup_of_map {l : List κ} (h1 : (l.map enc).Nodup) : l.Nodup := by
  induction l with
  | nil => simp
  | cons a l ih =>
    simp only [List.map_cons, List.nodup_cons, List.mem_map, not_exists, not_and] at h1 ⊢
    exact ⟨fun ha => h1.1 a ha rfl, ih h1.2⟩
omit [DecidableEq κ] in
theorem Mp.nodup (_E : KeyEnc κ d enc) (hm : Mp d enc h m es) : (es.map (·.1)).Nodup := by
  obtain ⟨arr, clock, hb, hs, he⟩ := hm
  have h1 : (arr.toList.map (·.key)).Nodup := hs.2.2
  have h2 : arr.toList.map (·.key) = (es.map (·.1)).map enc := by
    have := congrArg (List.map (·.1)) he
    simpa [List.map_map, Function.comp_def] using this
  rw [h2] at h1
  exact nodup_of_map h1
omit [DecidableEq κ] in
theorem Mp.keys (E : KeyEnc κ d enc) {arr : Array MapEntry} (he : arr.toList.map (fun e => (e.key, e.val)) = es.map fun p => (enc p.1, p.2)) : ∀ x ∈ arr.toList, IsKey d x.key := by
  intro x hx
  have : (x.key, x.val) ∈ arr.toList.map (fun e => (e.key, e.val)) := List.mem_map.2 ⟨x, hx, rfl⟩
  rw [he] at this
  obtain ⟨p, _, hp⟩ := List.mem_map.1 this
  simp only [Prod.mk.injEq] at hp
  rw [← hp.1]
  exact E.key _
/-- What is found at a key. -/
theorem find_alook (E : KeyEnc κ d enc) {l : List MapEntry} (he : l.map (fun e => (e.key, e.val)) = es.map fun p => (enc p.1, p.2)) (k : κ) :
    (Instr.findNow d (enc k) l 0 = some none ∧ alook es k = Option.none ∧ ∀ x ∈ l, x.key ≠ enc k) ∨
    ∃ j v e, Instr.findNow d (enc k) l 0 = some (some (j, v)) ∧ alook es k = some v ∧ l[j]? = some e ∧ e.key = enc k ∧ e.val = v ∧ j < l.length := by
  have key : ∀ (l : List MapEntry) (es : List (κ × Value)) (i : Nat), l.map (fun e => (e.key, e.val)) = es.map (fun p => (enc p.1, p.2)) →
      (Instr.findNow d (enc k) l i = some none ∧ alook es k = Option.none ∧ ∀ x ∈ l, x.key ≠ enc k) ∨
      ∃ j v e, Instr.findNow d (enc k) l i = some (some (i + j, v)) ∧ alook es k = some v ∧ l[j]? = some e ∧ e.key = enc k ∧ e.val = v ∧ j < l.length := by
    intro l
    induction l with
    | nil =>
      intro es i he
      have : es = [] := by simpa using he.symm
      subst this
      exact .inl ⟨rfl, rfl, by simp⟩
    | cons e l ih =>
      intro es i he
      cases es with
      | nil => simp at he
      | cons p es =>
        simp only [List.map_cons, List.cons.injEq, Prod.mk.injEq] at he
        obtain ⟨⟨hk, hv⟩, he⟩ := he
        obtain ⟨r, hr, hiff⟩ := sameNow_of_keys (E.key k) (show IsKey d e.key by rw [hk]; exact E.key _)
        cases r with
        | true =>
          have e1 : enc k = e.key := hiff.1 rfl
          have e2 : p.1 = k := E.inj _ _ (by rw [← hk, e1])
          exact .inr ⟨0, e.val, e, by simp [Instr.findNow, hr], by simp [alook, e2, hv], rfl, e1.symm, rfl, by simp⟩
        | false =>
          have e1 : e.key ≠ enc k := fun q => by have := hiff.2 q.symm; cases this
          have e2 : p.1 ≠ k := fun q => e1 (by rw [hk, q])
          rcases ih es (i + 1) he with ⟨h1, h2, h3⟩ | ⟨j, v, e', h1, h2, h3, h4, h5, h6⟩
          · exact .inl ⟨by simp [Instr.findNow, hr, h1], by simpa [alook, e2] using h2, fun x hx => by
              rcases List.mem_cons.1 hx with rfl | hx
              · exact e1
              · exact h3 x hx⟩
          · exact .inr ⟨j + 1, v, e', by simp [Instr.findNow, hr, h1]; omega, by simpa [alook, e2] using h2, by simpa using h3, h4, h5, by simp; omega⟩
  have := key l es 0 he
  simpa using this

variable {P : Program} {f : Fr} {dd : Option Tmp} {ty : TypeId} {pos : String} {af : Array Edge} {g : Option (Nat × Bool)}
omit [DecidableEq κ] in
theorem ok_lenM {t k e : TypeId} {x : Operand} {ts : Array TypeId} (hts : ts = #[t]) (hu : P.underlying t = some (.map k e)) (hx : f.ev x = some (.map (some m))) (hm : Mp d enc h m es) :
    OkP P f ⟨dd, .call { callee := .builtin .len, args := #[x], argTypes := ts }, ty, pos, af, g⟩ h (In es.length) :=
  fun ρ w ha hw => by
    subst hts
    subst hw
    obtain ⟨arr, clock, hb, _, he⟩ := hm
    have hl : arr.size = es.length := by have := congrArg List.length he; simpa using this
    simp [execOp, resolve, invoke, builtin, ha _ _ hx, Builtin.len_, run_underlying hu, MapKept.run_getObj_map hb, goInt, hl]
theorem ok_lenM0 {t k e : TypeId} {x : Operand} {ts : Array TypeId} (hts : ts = #[t]) (hu : P.underlying t = some (.map k e)) (hx : f.ev x = some (.map Option.none)) :
    OkP P f ⟨dd, .call { callee := .builtin .len, args := #[x], argTypes := ts }, ty, pos, af, g⟩ h (In 0) :=
  fun ρ w ha hw => by
    subst hts
    simp [execOp, resolve, invoke, builtin, ha _ _ hx, Builtin.len_, run_underlying hu, goInt]
theorem ok_lookup {t kt et : TypeId} {x y : Operand} {k : κ} {v : Value} (E : KeyEnc κ d enc) (hu : P.underlying t = some (.map kt et)) (hd : P.underlying kt = some d) (hx : f.ev x = some (.map (some m))) (hy : f.ev y = some (enc k)) (hm : Mp d enc h m es) (hv : alook es k = some v) :
    OkP P f ⟨dd, .lookup t x y true, ty, pos, af, g⟩ h (.tuple ⟨[v, .bool true]⟩) ∧ OkP P f ⟨dd, .lookup t x y false, ty, pos, af, g⟩ h v := by
  have key : ∀ (ρ : Operand → Value) (w : World) (c : Bool), Agrees ρ f → w.heap = h → (execOp ρ ⟨dd, .lookup t x y c, ty, pos, af, g⟩).run P w = .ok (.value (if c then .tuple ⟨[v, .bool true]⟩ else v)) w := by
    intro ρ w c ha hw
    subst hw
    obtain ⟨arr, clock, hb, _, he⟩ := hm
    rcases find_alook E he k with ⟨h1, h2, _⟩ | ⟨j, v', e, h1, h2, _⟩
    · rw [hv] at h2; cases h2
    · rw [hv] at h2; injection h2 with h2; subst h2
      simp [execOp, ha _ _ hx, ha _ _ hy, Instr.lookup, run_underlying hu, MapKept.run_getObj_map hb, run_checkKey hd (E.key k), run_findKey hd h1]
  exact ⟨fun ρ w ha hw => key ρ w true ha hw, fun ρ w ha hw => key ρ w false ha hw⟩
theorem ok_lookup_no {t kt et : TypeId} {x y : Operand} {k : κ} {z : Value} (E : KeyEnc κ d enc) (hu : P.underlying t = some (.map kt et)) (hd : P.underlying kt = some d) (hz : ∀ w, (zeroValue et).run P w = .ok z w) (hx : f.ev x = some (.map (some m))) (hy : f.ev y = some (enc k)) (hm : Mp d enc h m es) (hv : alook es k = Option.none) :
    OkP P f ⟨dd, .lookup t x y true, ty, pos, af, g⟩ h (.tuple ⟨[z, .bool false]⟩) ∧ OkP P f ⟨dd, .lookup t x y false, ty, pos, af, g⟩ h z := by
  have key : ∀ (ρ : Operand → Value) (w : World) (c : Bool), Agrees ρ f → w.heap = h → (execOp ρ ⟨dd, .lookup t x y c, ty, pos, af, g⟩).run P w = .ok (.value (if c then .tuple ⟨[z, .bool false]⟩ else z)) w := by
    intro ρ w c ha hw
    subst hw
    obtain ⟨arr, clock, hb, _, he⟩ := hm
    rcases find_alook E he k with ⟨h1, h2, _⟩ | ⟨j, v', e, h1, h2, _⟩
    · simp [execOp, ha _ _ hx, ha _ _ hy, Instr.lookup, run_underlying hu, MapKept.run_getObj_map hb, run_checkKey hd (E.key k), run_findKey hd h1, hz]
    · rw [hv] at h2; cases h2
  exact ⟨fun ρ w ha hw => key ρ w true ha hw, fun ρ w ha hw => key ρ w false ha hw⟩
omit [DecidableEq κ] in
theorem ok_lookup_nil {t kt et : TypeId} {x y : Operand} {k : κ} {z : Value} (E : KeyEnc κ d enc) (hu : P.underlying t = some (.map kt et)) (hd : P.underlying kt = some d) (hz : ∀ w, (zeroValue et).run P w = .ok z w) (hx : f.ev x = some (.map Option.none)) (hy : f.ev y = some (enc k)) :
    OkP P f ⟨dd, .lookup t x y true, ty, pos, af, g⟩ h (.tuple ⟨[z, .bool false]⟩) ∧ OkP P f ⟨dd, .lookup t x y false, ty, pos, af, g⟩ h z := by
  have key : ∀ (ρ : Operand → Value) (w : World) (c : Bool), Agrees ρ f → w.heap = h → (execOp ρ ⟨dd, .lookup t x y c, ty, pos, af, g⟩).run P w = .ok (.value (if c then .tuple ⟨[z, .bool false]⟩ else z)) w := by
    intro ρ w c ha hw
    have h1 : Instr.findNow d (enc k) [] 0 = some Option.none := rfl
    simp [execOp, ha _ _ hx, ha _ _ hy, Instr.lookup, run_underlying hu, run_checkKey hd (E.key k), run_findKey hd h1, hz]
  exact ⟨fun ρ w ha hw => key ρ w true ha hw, fun ρ w ha hw => key ρ w false ha hw⟩

theorem map_aput {arr : Array MapEntry} (E : KeyEnc κ d enc) (he : arr.toList.map (fun e => (e.key, e.val)) = es.map fun p => (enc p.1, p.2)) (hnd : (arr.toList.map (·.key)).Nodup) {k : κ} {v v0 : Value} {j : Nat} {e : MapEntry} (hv : alook es k = some v0) (hj : arr.toList[j]? = some e) (hk : e.key = enc k) :
    (arr.modify j fun e => { e with key := enc k, val := v }).toList.map (fun e => (e.key, e.val)) = (aput es k v).map fun p => (enc p.1, p.2) := by
  unfold aput
  rw [hv]
  simp only [Option.isSome_some, if_true, List.map_map]
  apply List.ext_getElem?
  intro i
  have h0 : arr.toList[i]?.map (fun e => (e.key, e.val)) = es[i]?.map (fun p => (enc p.1, p.2)) := by
    have := congrArg (fun l => l[i]?) he
    simpa using this
  simp only [List.getElem?_map, Array.getElem?_toList, Array.getElem?_modify, Function.comp_def] at h0 hj ⊢
  by_cases e1 : j = i
  · subst e1
    rw [if_pos rfl, hj]
    rw [hj] at h0
    cases hp : es[j]? with
    | none => rw [hp] at h0; cases h0
    | some p =>
      rw [hp] at h0
      simp only [Option.map_some, Option.some.injEq, Prod.mk.injEq] at h0 ⊢
      have : p.1 = k := E.inj _ _ (by rw [← h0.1, hk])
      rw [if_pos this]
      exact ⟨rfl, rfl⟩
  · rw [if_neg e1]
    cases hp : es[i]? with
    | none => rw [hp] at h0; simpa using h0
    | some p =>
      rw [hp] at h0
      cases ha : arr[i]? with
      | none => rw [ha] at h0; cases h0
      | some a =>
        rw [ha] at h0
        simp only [Option.map_some, Option.some.injEq, Prod.mk.injEq] at h0 ⊢
        have : p.1 ≠ k := fun q => by
          have ha' : arr.toList[i]? = some a := by simpa using ha
          have hj' : arr.toList[j]? = some e := by simpa using hj
          have hki : a.key = e.key := by rw [h0.1, q, hk]
          have h1 : (arr.toList.map (·.key))[i]? = some a.key := by simp [ha]
          have h2 : (arr.toList.map (·.key))[j]? = some a.key := by simp [hj, hki]
          have hi := (List.getElem?_eq_some_iff.1 h1).1
          exact e1 (((List.getElem?_inj hi hnd).1 (h1.trans h2.symm)).symm)
        rw [if_neg this]
        exact h0
theorem ok_mapUpdate {t kt et : TypeId} {x y z : Operand} {k : κ} {v : Value} (E : KeyEnc κ d enc) (hu : P.underlying t = some (.map kt et)) (hd : P.underlying kt = some d) (hx : f.ev x = some (.map (some m))) (hy : f.ev y = some (enc k)) (hz : f.ev z = some v) (hm : Mp d enc h m es) :
    OkR P f ⟨dd, .mapUpdate t x y z, ty, pos, af, g⟩ h (fun _ h' => Mp d enc h' m (aput es k v) ∧ Ext (fun b => b = m) h h') :=
  fun ρ w ha hw => by
    subst hw
    obtain ⟨arr, clock, hb, hs, he⟩ := hm
    rcases find_alook E he k with ⟨h1, h2, h3⟩ | ⟨j, v0, e, h1, h2, h3, h4, h5, h6⟩
    · refine ⟨undef, { w with heap := w.heap.setIfInBounds m (.map (arr.push { key := enc k, val := v, born := clock }) (clock + 1)) }, ⟨rfl, rfl, rfl, trivial⟩, ⟨⟨_, _, set_new hb, stamped_push hs h3, ?_⟩, .set _ _ _ rfl⟩, .inr ⟨?_, rfl⟩⟩
      · simp [aput, h2, he]
      · simp [execOp, ha _ _ hx, ha _ _ hy, ha _ _ hz, Instr.mapUpdate, run_underlying hu, MapKept.run_getObj_map hb, run_checkKey hd (E.key k), run_findKey hd h1, MapKept.run_setObj_map _ hb]
    · have hj : arr[j]? = some e := by simpa using h3
      have hkey : ∀ e', arr[j]? = some e' → ({ e' with key := enc k, val := v } : MapEntry).key = e'.key := fun e' he' => by rw [hj] at he'; cases he'; exact h4.symm
      refine ⟨undef, { w with heap := w.heap.setIfInBounds m (.map (arr.modify j fun e => { e with key := enc k, val := v }) clock) }, ⟨rfl, rfl, rfl, trivial⟩, ⟨⟨_, _, set_new hb, stamped_modify hs _ _ (fun _ _ => rfl) (fun e' _ he' => hkey e' he'), map_aput E he hs.2.2 h2 h3 h4⟩, .set _ _ _ rfl⟩, .inr ⟨?_, rfl⟩⟩
      simp [execOp, ha _ _ hx, ha _ _ hy, ha _ _ hz, Instr.mapUpdate, run_underlying hu, MapKept.run_getObj_map hb, run_checkKey hd (E.key k), run_findKey hd h1, hj, h4, run_keyThatStays (E.key k), MapKept.run_setObj_map _ hb]
theorem map_adel {arr : Array MapEntry} (E : KeyEnc κ d enc) (he : arr.toList.map (fun e => (e.key, e.val)) = es.map fun p => (enc p.1, p.2)) (hnd : (arr.toList.map (·.key)).Nodup) {k : κ} {j : Nat} {e : MapEntry} (hj : arr.toList[j]? = some e) (hk : e.key = enc k) :
    (arr.eraseIdxIfInBounds j).toList.map (fun e => (e.key, e.val)) = (adel es k).map fun p => (enc p.1, p.2) := by
  have hlt : j < arr.size := by simpa using (List.getElem?_eq_some_iff.1 hj).1
  unfold Array.eraseIdxIfInBounds
  rw [dif_pos hlt, Array.toList_eraseIdx]
  have key : ∀ (l : List MapEntry) (es : List (κ × Value)) (j : Nat), l.map (fun e => (e.key, e.val)) = es.map (fun p => (enc p.1, p.2)) → (l.map (·.key)).Nodup → l[j]? = some e →
      (l.eraseIdx j).map (fun e => (e.key, e.val)) = (adel es k).map fun p => (enc p.1, p.2) := by
    intro l
    induction l with
    | nil => intro es j _ _ h1; simp at h1
    | cons a l ih =>
      intro es j he hnd h1
      cases es with
      | nil => simp at he
      | cons p es =>
        simp only [List.map_cons, List.cons.injEq, Prod.mk.injEq, List.nodup_cons] at he hnd
        cases j with
        | zero =>
          simp only [List.getElem?_cons_zero, Option.some.injEq] at h1
          subst h1
          have e2 : p.1 = k := E.inj _ _ (by rw [← he.1.1, hk])
          have e3 : adel es k = es := List.filter_eq_self.2 fun q hq => by
            simp only [decide_eq_true_eq]
            intro e4
            have : (enc q.1, q.2) ∈ es.map (fun p => (enc p.1, p.2)) := List.mem_map.2 ⟨q, hq, rfl⟩
            rw [← he.2] at this
            obtain ⟨x, hx, hx2⟩ := List.mem_map.1 this
            simp only [Prod.mk.injEq] at hx2
            exact hnd.1 (List.mem_map.2 ⟨x, hx, by rw [hx2.1, e4, ← hk]⟩)
          simp only [List.eraseIdx_cons_zero, adel, List.filter_cons, e2, ne_eq, not_true_eq_false, decide_false, Bool.false_eq_true, if_false]
          simp only [adel, ne_eq] at e3
          rw [e3]; exact he.2
        | succ j =>
          simp only [List.getElem?_cons_succ] at h1
          have e2 : p.1 ≠ k := fun q => by
            have : a.key = e.key := by rw [he.1.1, q, hk]
            exact hnd.1 (List.mem_map.2 ⟨e, List.mem_of_getElem? h1, this.symm⟩)
          simp only [List.eraseIdx_cons_succ, List.map_cons, adel, List.filter_cons, ne_eq, e2, not_false_eq_true, decide_true, if_true, List.cons.injEq, Prod.mk.injEq]
          exact ⟨he.1, by simpa [adel] using ih es j he.2 hnd.2 h1⟩
  exact key arr.toList es j he hnd hj
theorem ok_delete {t kt et : TypeId} {x y : Operand} {ts : Array TypeId} {k : κ} {s : TypeId} (hts : ts = #[t, s]) (E : KeyEnc κ d enc) (hu : P.underlying t = some (.map kt et)) (hd : P.underlying kt = some d) (hx : f.ev x = some (.map (some m))) (hy : f.ev y = some (enc k)) (hm : Mp d enc h m es) :
    OkR P f ⟨dd, .call { callee := .builtin .delete, args := #[x, y], argTypes := ts }, ty, pos, af, g⟩ h (fun _ h' => Mp d enc h' m (adel es k) ∧ Ext (fun b => b = m) h h') :=
  fun ρ w ha hw => by
    subst hw
    subst hts
    obtain ⟨arr, clock, hb, hs, he⟩ := hm
    rcases find_alook E he k with ⟨h1, h2, h3⟩ | ⟨j, v0, e, h1, h2, h3, h4, h5, h6⟩
    · refine ⟨.tuple #[], { w with heap := w.heap.setIfInBounds m (.map arr clock) }, ⟨rfl, rfl, rfl, trivial⟩, ⟨⟨_, _, set_new hb, hs, ?_⟩, .set _ _ _ rfl⟩, .inl ?_⟩
      · have e3 : adel es k = es := List.filter_eq_self.2 fun q hq => by
          simp only [decide_eq_true_eq]
          intro e4
          have : (enc q.1, q.2) ∈ es.map (fun p => (enc p.1, p.2)) := List.mem_map.2 ⟨q, hq, rfl⟩
          rw [← he] at this
          obtain ⟨x, hx, hx2⟩ := List.mem_map.1 this
          simp only [Prod.mk.injEq] at hx2
          exact h3 x hx (by rw [hx2.1, e4])
        rw [e3, he]
      · simp [execOp, resolve, invoke, builtin, ha _ _ hx, ha _ _ hy, Builtin.delete_, run_underlying hu, MapKept.run_getObj_map hb, run_checkKey hd (E.key k), run_findKey hd h1, MapKept.run_setObj_map _ hb]
    · refine ⟨.tuple #[], { w with heap := w.heap.setIfInBounds m (.map (arr.eraseIdxIfInBounds j) clock) }, ⟨rfl, rfl, rfl, trivial⟩, ⟨⟨_, _, set_new hb, stamped_erase hs j, map_adel E he hs.2.2 h3 h4⟩, .set _ _ _ rfl⟩, .inl ?_⟩
      simp [execOp, resolve, invoke, builtin, ha _ _ hx, ha _ _ hy, Builtin.delete_, run_underlying hu, MapKept.run_getObj_map hb, run_checkKey hd (E.key k), run_findKey hd h1, MapKept.run_setObj_map _ hb]
end

section
variable {κ : Type} [DecidableEq κ]
theorem alook_aput_same (es : List (κ × Value)) (k : κ) (v : Value) : alook (aput es k v) k = some v := by
  unfold aput
  split
  · rename_i hs
    induction es with
    | nil => simp [alook] at hs
    | cons p es ih =>
      by_cases e : p.1 = k
      · simp [alook, e]
      · simp only [alook, List.map_cons, List.find?_cons, e, if_false, decide_false] at hs ih ⊢
        exact ih hs
  · rename_i hs
    have h0 : es.find? (fun p => decide (p.1 = k)) = Option.none := by
      cases e : es.find? (fun p => decide (p.1 = k)) with
      | none => rfl
      | some p => simp [alook, e] at hs
    simp [alook, List.find?_append, h0]
theorem alook_aput_other (es : List (κ × Value)) {k j : κ} (v : Value) (hne : j ≠ k) : alook (aput es k v) j = alook es j := by
  unfold aput
  split
  · rename_i hs
    clear hs
    induction es with
    | nil => rfl
    | cons p es ih =>
      simp only [alook, List.map_cons, List.find?_cons] at ih ⊢
      by_cases e : p.1 = k
      · have e1 : decide (k = j) = false := by simp [Ne.symm hne]
        have e2 : decide (p.1 = j) = false := by rw [e]; exact e1
        simp only [e, if_true, e1]
        exact ih
      · simp only [if_neg e]
        cases decide (p.1 = j)
        · exact ih
        · rfl
  · have : ([(k, v)] : List (κ × Value)).find? (fun p => decide (p.1 = j)) = Option.none := by simp [Ne.symm hne]
    simp [alook, List.find?_append, this]
theorem alook_adel_same (es : List (κ × Value)) (k : κ) : alook (adel es k) k = Option.none := by
  induction es with
  | nil => rfl
  | cons p es ih =>
    by_cases e : p.1 = k
    · simp only [alook, adel, List.filter_cons, e] at ih ⊢
      simp
    · simp only [alook, adel, List.filter_cons] at ih ⊢
      simp only [ne_eq, e, not_false_eq_true, decide_true, if_true, List.find?_cons, decide_false]
      exact ih
theorem alook_adel_other (es : List (κ × Value)) {k j : κ} (hne : j ≠ k) : alook (adel es k) j = alook es j := by
  unfold alook adel
  rw [List.find?_filter]
  congr 2
  funext p
  by_cases e : p.1 = j
  · simp [e, hne]
  · simp [e]
theorem length_aput (es : List (κ × Value)) (k : κ) (v : Value) : (aput es k v).length = es.length + if (alook es k).isSome then 0 else 1 := by
  unfold aput
  split <;> simp [*]
end
end Go.RK
