/-
  STRUCTS OF ONE-CELL FIELDS: their compare; bytes among the arguments; lists of things that lie in rows. No program is named here.
-/
import Derived.Test.YtkpgnhhidnkmcaaGreatDoorK11
import Derived.Test.YtkpgnhhidnkmcaaGreatDoorK8
import Derived.ChangeKeysEq
namespace Go.RK
open Go

inductive Sca where
  | i (k : IntKind) (n : Int)
  | s (l : List UInt8)
  | b (v : Bool)
deriving DecidableEq
inductive Kd where
  | i (k : IntKind)
  | s
  | b
def Sca.kd : Sca → Kd
  | .i k _ => .i k
  | .s _ => .s
  | .b _ => .b
def Sca.val : Sca → Value
  | .i k n => .int k n
  | .s l => St l
  | .b v => .bool v
def Kd.ok (P : Program) (t : TypeId) : Kd → Bool
  | .i k => match P.underlying t with | some (.int k') => k == k' | _ => false
  | .s => match P.underlying t with | some .string => true | _ => false
  | .b => match P.underlying t with | some .bool => true | _ => false
def flatsB (P : Program) : Nat → List Field → List Kd → Bool
  | _, [], [] => true
  | o, f :: fs, k :: ks => f.name != "_" && f.offset == o && P.plainKey f.type && k.ok P f.type && flatsB P (o + 1) fs ks
  | _, _, _ => false
def flatB (P : Program) (t : TypeId) (ks : List Kd) : Bool :=
  (match P.underlying t with | some (.struct fs) => flatsB P 0 fs.toList ks | _ => false) && !P.stoodInHeld t && !P.eqGuardType P.depth t

section
variable {P : Program}
theorem run_eq_sca (w : World) (d : Nat) {t : TypeId} {k : Kd} (hk : k.ok P t = true) {a b : Sca} (ha : a.kd = k) (hb : b.kd = k) : (Op.equalIn (d + 1) t a.val b.val).run P w = .ok (decide (a = b)) w := by
  subst ha
  cases a <;> cases b <;> simp only [Sca.kd] at hb <;> try (cases hb)
  · rename_i k n m
    simp only [Kd.ok, Sca.kd] at hk
    split at hk
    · rename_i hu
      show (Op.equalIn (d + 1) t (.int _ _) (.int _ _)).run P w = _
      rw [run_equalIn_int w d t _ _ _ _ hu]
      simp [beq_dec]
    · cases hk
  · rename_i l m
    simp only [Kd.ok, Sca.kd] at hk
    split at hk
    · rename_i hu
      show (Op.equalIn (d + 1) t (.string _) (.string _)).run P w = _
      rw [run_equalIn_string w d t _ _ hu]
      simp [beq_dec]
    · cases hk
  · rename_i l m
    simp only [Kd.ok, Sca.kd] at hk
    split at hk
    · rename_i hu
      show (Op.equalIn (d + 1) t (.bool _) (.bool _)).run P w = _
      rw [run_equalIn_bool' w d t _ _ hu]
      simp [beq_dec]
    · cases hk
theorem run_eqFields_flat (w : World) (d : Nat) (xs ys : Array Value) : ∀ (fs : List Field) (ks : List Kd) (o : Nat) (us vs : List Sca), flatsB P o fs ks = true → us.map Sca.kd = ks → vs.map Sca.kd = ks →
    (∀ (j : Nat) (a : Sca), us[j]? = some a → xs[o + j]? = some a.val) → (∀ (j : Nat) (a : Sca), vs[j]? = some a → ys[o + j]? = some a.val) →
    (Op.eqFields (d + 1) xs ys fs).run P w = .ok (decide (us = vs)) w
  | [], [], o, us, vs, _, ha, hb, _, _ => by
    obtain rfl : us = [] := by simpa using ha
    obtain rfl : vs = [] := by simpa using hb
    simp [Op.eqFields]
  | f :: fs, k :: ks, o, us, vs, hf, ha, hb, hx, hy => by
    simp only [flatsB, Bool.and_eq_true, bne_iff_ne, beq_iff_eq] at hf
    obtain ⟨⟨⟨⟨h1, h2⟩, h3⟩, h4⟩, h5⟩ := hf
    cases us with
    | nil => simp at ha
    | cons a us =>
      cases vs with
      | nil => simp at hb
      | cons b vs =>
        simp only [List.map_cons, List.cons.injEq] at ha hb
        have p1 := hx 0 a rfl
        have p2 := hy 0 b rfl
        rw [Nat.add_zero, ← h2] at p1 p2
        have r1 := run_part_plain (P := P) (w := w) h3 p1
        have r2 := run_part_plain (P := P) (w := w) h3 p2
        have r3 := run_eq_sca (P := P) w d h4 ha.1 hb.1
        have ih := run_eqFields_flat w d xs ys fs ks (o + 1) us vs h5 ha.2 hb.2 (fun j c hj => by
          have := hx (j + 1) c (by simpa using hj)
          rwa [show o + (j + 1) = o + 1 + j by omega] at this) (fun j c hj => by
          have := hy (j + 1) c (by simpa using hj)
          rwa [show o + (j + 1) = o + 1 + j by omega] at this)
        simp only [Op.eqFields, h1, ne_eq, not_false_eq_true, if_true, Sem.run_bind, r1, r2, r3, Result.andThen_ok]
        by_cases e : a = b
        · simp [e, ih]
        · simp [e]
  | [], _ :: _, _, _, _, hf, _, _, _, _ => by simp [flatsB] at hf
  | _ :: _, [], _, _, _, hf, _, _, _, _ => by simp [flatsB] at hf
theorem run_eq_flat (w : World) {t : TypeId} {ks : List Kd} (hF : flatB P t ks = true) {us vs : List Sca} (ha : us.map Sca.kd = ks) (hb : vs.map Sca.kd = ks) :
    (Op.equalIn 10000 t (.agg ⟨us.map Sca.val⟩) (.agg ⟨vs.map Sca.val⟩)).run P w = .ok (decide (us = vs)) w := by
  simp only [flatB, Bool.and_eq_true, Bool.not_eq_true'] at hF
  obtain ⟨⟨h1, h2⟩, h3⟩ := hF
  split at h1
  · rename_i fs hu
    have hfs : P.fieldsOf t = fs := by simp [Program.fieldsOf, hu]
    have := run_equalIn_struct (P := P) w 9999 t ⟨us.map Sca.val⟩ ⟨vs.map Sca.val⟩ (by rw [hfs]; exact hu) h2
    rw [show (10000 : Nat) = 9999 + 1 from rfl, this, hfs]
    exact run_eqFields_flat w 9998 _ _ fs.toList ks 0 us vs h1 ha hb (fun j a hj => by simp [hj]) (fun j a hj => by simp [hj])
  · cases h1
variable {f : Fr} {h : Heap} {d : Option Tmp} {ty : TypeId} {pos : String} {af : Array Edge} {g : Option (Nat × Bool)}
theorem ok_eqlF {t t2 : TypeId} {x y : Operand} {us vs : List Sca} (ks : List Kd) (hF : flatB P t ks = true) (ha : us.map Sca.kd = ks) (hb : vs.map Sca.kd = ks) (hx : f.ev x = some (.agg ⟨us.map Sca.val⟩)) (hy : f.ev y = some (.agg ⟨vs.map Sca.val⟩)) :
    OkP P f ⟨d, .binOp .eql t x y t2, ty, pos, af, g⟩ h (.bool (decide (us = vs))) := fun ρ w hag _ => by
  have hg : P.eqGuardType P.depth t = false := by
    simp only [flatB, Bool.and_eq_true, Bool.not_eq_true'] at hF
    exact hF.2
  have r1 := run_eqGuard_agg (P := P) w .eql t x y ⟨us.map Sca.val⟩ ⟨vs.map Sca.val⟩ hg
  have r2 := run_eql_struct (P := P) w t ⟨us.map Sca.val⟩ ⟨vs.map Sca.val⟩
  rw [run_eq_flat w hF ha hb] at r2
  simp only [execOp, hag _ _ hx, hag _ _ hy, Sem.run_bind, r1, r2, Result.andThen_ok, Sem.run_pure]
theorem ok_neqF {t t2 : TypeId} {x y : Operand} {us vs : List Sca} (ks : List Kd) (hF : flatB P t ks = true) (ha : us.map Sca.kd = ks) (hb : vs.map Sca.kd = ks) (hx : f.ev x = some (.agg ⟨us.map Sca.val⟩)) (hy : f.ev y = some (.agg ⟨vs.map Sca.val⟩)) :
    OkP P f ⟨d, .binOp .neq t x y t2, ty, pos, af, g⟩ h (.bool (!decide (us = vs))) := fun ρ w hag _ => by
  have hg : P.eqGuardType P.depth t = false := by
    simp only [flatB, Bool.and_eq_true, Bool.not_eq_true'] at hF
    exact hF.2
  have r1 := run_eqGuard_agg (P := P) w .neq t x y ⟨us.map Sca.val⟩ ⟨vs.map Sca.val⟩ hg
  have r2 := run_neq_struct (P := P) w t ⟨us.map Sca.val⟩ ⟨vs.map Sca.val⟩
  rw [run_eq_flat w hF ha hb] at r2
  simp only [execOp, hag _ _ hx, hag _ _ hy, Sem.run_bind, r1, r2, Result.andThen_ok, Sem.run_pure]

/-! ### what lies where -/
theorem Rd.ext' {h h' : Heap} {S : Nat → Prop} {v : Value} {sz n : Nat} {xs : List Value} (r : Rd h v sz n xs) (a : Ext S h h') (hS : ∀ b, 0 < n → v.ownBlock = some b → ¬ S b) : Rd h' v sz n xs := by
  obtain ⟨A, c, rfl, hc, hl, hp⟩ := r
  refine ⟨A, c, rfl, hc, hl, fun hn => ?_⟩
  obtain ⟨b, o, rfl, hb, hat⟩ := hp hn
  exact ⟨b, o, rfl, Nat.lt_of_lt_of_le hb a.size, hat.ext a (hS b hn rfl)⟩
theorem Rd.lt {h : Heap} {v : Value} {sz n b : Nat} {xs : List Value} (r : Rd h v sz n xs) (hn : 0 < n) (hb : v.ownBlock = some b) : b < h.size := by
  obtain ⟨A, c, rfl, hc, hl, hp⟩ := r
  obtain ⟨b', o, rfl, hb', _⟩ := hp hn
  simp only [Value.ownBlock, Option.some.injEq] at hb
  exact hb ▸ hb'
theorem Own.lt {h : Heap} {v : Value} {e : TypeId} {sz n k : Nat} {xs : List Value} (ho : Own h v e sz n xs) (hk : v.ownBlock = some k) : k < h.size := by
  obtain ⟨_, ⟨rfl, _⟩ | ⟨g, cap, cur, rfl, hg, _⟩⟩ := ho
  · cases hk
  · simp only [Value.ownBlock, Option.some.injEq] at hk
    exact hk ▸ lt_of_some hg

theorem Own.cap {h : Heap} {v : Value} {e : TypeId} {sz n : Nat} {xs : List Value} (ho : Own h v e sz n xs) : ∃ A c, v = .slice A n c ∧ c ≤ maxLen := by
  obtain ⟨_, ⟨rfl, rfl⟩ | ⟨g, cap, cur, rfl, hg, hn, hm, _⟩⟩ := ho
  · exact ⟨_, _, rfl, by decide⟩
  · exact ⟨_, _, rfl, hm⟩

theorem Own.cap' {h : Heap} {v : Value} {e : TypeId} {sz n : Nat} {xs : List Value} (ho : Own h v e sz n xs) : ∃ A c, v = .slice A n c ∧ c ≤ maxLen := ho.cap
theorem At.pre {h : Heap} {b o : Nat} {xs ys : List Value} (a : At h b o (xs ++ ys)) : At h b o xs := fun j v hj => a j v (by rw [List.getElem?_append_left (List.getElem?_eq_some_iff.1 hj).1]; exact hj)

/-! ### bytes among the arguments -/
variable {w : World} {t : TypeId}
theorem Opens.map' {α β : Type} {F : α → List Value} {Q : α → Prop} (o : Opens P w t F Q) (g : α → β) {F' : β → List Value} {Q' : β → Prop} (hF : ∀ a, Q a → F a = F' (g a) ∧ Q' (g a)) : Opens P w t F' Q' := by
  intro H enc base spare held fuel cs x h hz
  obtain ⟨a, rfl, q⟩ := o H enc base spare held fuel cs x h hz
  exact ⟨g a, (hF a q).1, (hF a q).2⟩
theorem opens_byte (ht : P.underlying t = some (.int .u8)) : Opens P w t (fun b : UInt8 => [By b]) (fun _ => True) :=
  (opens_int ht).map' (fun n => UInt8.ofNat n.toNat) fun n hn => by
    have h1 : 0 ≤ n ∧ n ≤ 255 := by simpa [Lit.wf, IntKind.signed, IntKind.bits, IntKind.max, IntKind.min] using hn
    refine ⟨?_, trivial⟩
    have : (UInt8.ofNat n.toNat).toNat = n.toNat := by simp; omega
    unfold By
    rw [this]
    simp; omega
theorem flat_one {α : Type} (F : α → Value) (l : List α) : l.flatMap (fun b => [F b]) = l.map F := by
  induction l with
  | nil => rfl
  | cons a l ih => simp [ih]
theorem opens_bytes {e : TypeId} (ht : P.underlying t = some (.slice e)) (hc : P.cellsOf e = 1) (hb : P.bytesOf e = 1) (he : P.underlying e = some (.int .u8)) :
    Opens P w t (fun p : Value × List UInt8 => [p.1]) (fun p => Rd w.heap p.1 1 p.2.length (bys p.2) ∧ p.2.length ≤ reachBytes) :=
  (opens_slice ht hc (by decide) (fun _ => rfl) (opens_byte he)).map id (fun _ => rfl) fun p q => ⟨by have := q.1; rw [flat_one] at this; exact this, by simpa [hb] using q.2.2.2.2⟩

end
end Go.RK
