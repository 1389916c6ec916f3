/-
  SEVERAL TEXTS IN ONE: IxB, Cell, Back, K17, BkChk, BkChk2, Hv9, K28, Hv10, Hv1, Cl, Hv2, Hv3, Hv4.
-/
import Derived.Test.YtdjjpbbhcidaaaaGreatDoorPServeNobody1
import Derived.Lib.IndexAny
import Derived.Lib.IndexLaws
import Derived.ChangeKeysEq
/-
  BYTES LOOKED FOR; clean texts; numbers within bounds: packages bytes, strings, digits, front, back.
-/
namespace Go.Proofs.YtdjjpbbhcidaaaaGreatDoor
open Go Go.RK

theorem ixb_nat (c : UInt8) : ((c.toNat : Int)).toNat.toUInt8 = c := by simp
theorem indexByte_str {h : Heap} (s : List UInt8) (c : UInt8) :
    CallsH Tryz.prog 192 ⟨[St s, By c]⟩ h fun u h' => u = In (Lib.indexByte s c) ∧ h' = h := fun w hw =>
  (Tryz.strings_IndexByte ⟨⟨s⟩⟩ c.toNat w).mono fun e w' ⟨he, hb⟩ => ⟨⟨by rw [hb], by rw [hb], by rw [hb], by subst hb; exact Nat.le_refl _⟩, _, he, by rw [ixb_nat], by rw [hb, hw]⟩
theorem indexByte_bys {h : Heap} {v : Value} (l : List UInt8) (c : UInt8) (hr : Rd h v 1 l.length (bys l)) (h0 : 0 < l.length) :
    CallsH Tryz.prog 86 ⟨[v, By c]⟩ h fun u h' => u = In (Lib.indexByte l c) ∧ h' = h := by
  obtain ⟨A, cap, rfl, _⟩ := id hr
  obtain ⟨b, o, rfl, _, hat⟩ := Rd.at_ hr h0
  intro w hw
  subst hw
  have e : Lib.bytesOf (l.map fun x : UInt8 => (x.toNat : Int)) = l := by
    unfold Lib.bytesOf
    rw [List.map_map]
    conv => rhs; rw [← List.map_id l]
    exact List.map_congr_left fun x _ => ixb_nat x
  refine (Tryz.bytes_IndexByte b o l.length cap (l.map fun x : UInt8 => (x.toNat : Int)) c.toNat w (by simp) fun i hi => ?_).mono fun e' w' ⟨he, hb⟩ => ⟨⟨by rw [hb], by rw [hb], by rw [hb], by subst hb; exact Nat.le_refl _⟩, _, he, by rw [ixb_nat, e], by rw [hb]⟩
  rw [cell_eq]
  have := hat i (By l[i]) (by simp [hi])
  rw [this]
  simp [List.getD, hi]
def cleanB (s : List UInt8) : Bool := !s.contains 0
set_option maxHeartbeats 2000000 in
set_option maxRecDepth 100000 in
theorem clean_any {h : Heap} (s : List UInt8) : CallsH Tryz.prog 143 ⟨[St s]⟩ h fun u h' => u = .bool (cleanB s) ∧ h' = h := by
  refine calls [(0, _)] Tryz.func143 rfl Tryz.ntmps143 rfl ⟨rfl, trivial⟩ ?_
  all_goals (refine WC.sr ?_)
  all_goals (refine Go ?_)
  all_goals (refine WC.sr ?_)
  all_goals (refine Go ?_)
  all_goals (refine WL.call (vs := [_, _]) rfl (fun a w => Tryz.call192 a w) rfl (indexByte_str s 0) rfl rfl rfl ?_
             rintro _ hz ⟨rfl, _⟩
             subst hz)
  all_goals (refine WL.step (ok_lss rfl rfl) rfl rfl rfl ?_)
  all_goals (refine Go ?_)
  all_goals (refine Gs [(2, _)] ?_)
  all_goals (refine Gt ?_)
  all_goals (exact ⟨by unfold cleanB; rw [Lib.contains_iff_indexByte]; exact congrArg Value.bool (by rw [← decide_not]; exact decide_eq_decide.2 (by omega)), rfl⟩)
def withinB (l : List Int) (lo hi : Int) : Bool := decide (l.length ≤ 65535) && !l.any fun n => decide (n < lo) || decide (hi < n)
def knownI (k : UInt8) : Int := if ([66, 67, 68, 69, 72, 80, 81, 83, 88] : List UInt8).contains k then 1 else if ([70, 99, 100, 102, 112] : List UInt8).contains k then 2 else 0
end Go.Proofs.YtdjjpbbhcidaaaaGreatDoor


/-
  api.Cell, rows of them, and the document's compare of them.
-/
namespace Go.Proofs.YtdjjpbbhcidaaaaGreatDoor
open Go Go.RK

/-- A cell: null, its bytes as they lie, its bytes. -/
structure Cel where
  null : Bool
  v : Value
  bytes : List UInt8
def Cel.cells (c : Cel) : List Value := [.bool c.null, c.v]
theorem Cel.len (c : Cel) : c.cells.length = 2 := rfl
/-- What a cell tells. -/
def Cel.pl (c : Cel) : Bool × List UInt8 := (c.null, c.bytes)
def Cel.ok (h : Heap) (c : Cel) : Prop := Rd h c.v 1 c.bytes.length (bys c.bytes) ∧ c.bytes.length ≤ reachBytes
def Cels (h : Heap) (v : Value) (l : List Cel) : Prop := Rd h v 2 l.length (l.flatMap Cel.cells) ∧ (l.length * 32 ≤ reachBytes ∧ ∃ A c, v = .slice A l.length c ∧ c ≤ maxLen) ∧ ∀ c ∈ l, c.ok h
theorem Cel.ok.ext0 {h h' : Heap} {c : Cel} (k : c.ok h) (a : Ext No h h') : c.ok h' := ⟨k.1.ext0 a, k.2⟩
theorem Cels.ext0 {h h' : Heap} {v : Value} {l : List Cel} (k : Cels h v l) (a : Ext No h h') : Cels h' v l := ⟨k.1.ext0 a, k.2.1, fun c hc => (k.2.2 c hc).ext0 a⟩
/-- The blocks that it lies in. -/
def CelsF (v : Value) (l : List Cel) (b : Nat) : Prop := (0 < l.length ∧ v.ownBlock = some b) ∨ ∃ c ∈ l, 0 < c.bytes.length ∧ c.v.ownBlock = some b
theorem Cels.lt {h : Heap} {v : Value} {l : List Cel} {b : Nat} (k : Cels h v l) (hb : CelsF v l b) : b < h.size := by
  rcases hb with ⟨h1, h2⟩ | ⟨c, hc, h1, h2⟩
  · exact k.1.lt h1 h2
  · exact (k.2.2 c hc).1.lt h1 h2
theorem Cels.ext {h h' : Heap} {S : Nat → Prop} {v : Value} {l : List Cel} (k : Cels h v l) (a : Ext S h h') (hS : ∀ b, CelsF v l b → ¬ S b) : Cels h' v l :=
  ⟨k.1.ext' a fun b h1 h2 => hS b (.inl ⟨h1, h2⟩), k.2.1, fun c hc => ⟨(k.2.2 c hc).1.ext' a fun b h1 h2 => hS b (.inr ⟨c, hc, h1, h2⟩), (k.2.2 c hc).2⟩⟩

/-- A row of a list: its slice, its cells. -/
structure Rw where
  v : Value
  l : List Cel
def Rw.pl (r : Rw) : List (Bool × List UInt8) := r.l.map Cel.pl
def Rws (h : Heap) (v : Value) (L : List Rw) : Prop := Rd h v 1 L.length (L.map Rw.v) ∧ (L.length * 24 ≤ reachBytes ∧ ∃ A c, v = .slice A L.length c ∧ c ≤ maxLen) ∧ ∀ r ∈ L, Cels h r.v r.l
def RwsF (v : Value) (L : List Rw) (b : Nat) : Prop := (0 < L.length ∧ v.ownBlock = some b) ∨ ∃ r ∈ L, CelsF r.v r.l b
theorem Rws.lt {h : Heap} {v : Value} {l : List Rw} {b : Nat} (k : Rws h v l) (hb : RwsF v l b) : b < h.size := by
  rcases hb with ⟨h1, h2⟩ | ⟨c, hc, h1⟩
  · exact k.1.lt h1 h2
  · exact (k.2.2 c hc).lt h1
theorem Rws.ext {h h' : Heap} {S : Nat → Prop} {v : Value} {l : List Rw} (k : Rws h v l) (a : Ext S h h') (hS : ∀ b, RwsF v l b → ¬ S b) : Rws h' v l :=
  ⟨k.1.ext' a fun b h1 h2 => hS b (.inl ⟨h1, h2⟩), k.2.1, fun c hc => (k.2.2 c hc).ext a fun b h1 => hS b (.inr ⟨c, hc, h1⟩)⟩
theorem Rws.ext0 {h h' : Heap} {v : Value} {l : List Rw} (k : Rws h v l) (a : Ext No h h') : Rws h' v l := k.ext a fun _ _ => nos
end Go.Proofs.YtdjjpbbhcidaaaaGreatDoor


/-
  api.Back, and the document's compare of two of them.
-/
namespace Go.Proofs.YtdjjpbbhcidaaaaGreatDoor
open Go Go.RK

structure ColD where
  nm : List UInt8
  t : Int
  a : Int
  o : Int
  s : Int
  m : Int
  f : Int
deriving DecidableEq
def ColD.sca (c : ColD) : List Sca := [.s c.nm, .i .i64 c.t, .i .i64 c.a, .i .i64 c.o, .i .i64 c.s, .i .i64 c.m, .i .i64 c.f]
def ColD.cells (c : ColD) : List Value := [St c.nm, In c.t, In c.a, In c.o, In c.s, In c.m, In c.f]
theorem ColD.len (c : ColD) : c.cells.length = 7 := rfl
theorem ColD.inj (c d : ColD) : c.sca = d.sca ↔ c = d := by cases c; cases d; simp [ColD.sca]
structure FieldD where
  k : Int
  t : List UInt8
deriving DecidableEq
def FieldD.sca (c : FieldD) : List Sca := [.i .u8 c.k, .s c.t]
def FieldD.cells (c : FieldD) : List Value := [.int .u8 c.k, St c.t]
theorem FieldD.len (c : FieldD) : c.cells.length = 2 := rfl
theorem FieldD.inj (c d : FieldD) : c.sca = d.sca ↔ c = d := by cases c; cases d; simp [FieldD.sca]
structure Bk where
  kind : Int
  status : Int
  tag : List UInt8
  name : List UInt8
  value : List UInt8
  n : Int
  m : Int
  vo : Value
  oids : List Int
  vc : Value
  cols : List ColD
  vr : Value
  row : List Cel
  vf : Value
  fields : List FieldD
def Bk.cells (b : Bk) : List Value := [.int .u8 b.kind, .int .u8 b.status, St b.tag, St b.name, St b.value, In b.n, In b.m, b.vo, b.vc, b.vr, b.vf]
structure Bk.ok (h : Heap) (b : Bk) : Prop where
  oids : Rd h b.vo 1 b.oids.length (ints b.oids) ∧ b.oids.length ≤ maxLen
  cols : Rd h b.vc 7 b.cols.length (b.cols.flatMap ColD.cells) ∧ b.cols.length ≤ maxLen
  row : Cels h b.vr b.row
  fields : Rd h b.vf 2 b.fields.length (b.fields.flatMap FieldD.cells) ∧ b.fields.length ≤ maxLen
theorem Bk.ok.ext0 {h h' : Heap} {b : Bk} (k : b.ok h) (a : Ext No h h') : b.ok h' := ⟨⟨k.1.1.ext0 a, k.1.2⟩, ⟨k.2.1.ext0 a, k.2.2⟩, k.3.ext0 a, ⟨k.4.1.ext0 a, k.4.2⟩⟩
def Bk.pl (b : Bk) := (b.kind, b.status, b.tag, b.name, b.value, b.n, b.m, b.oids, b.cols, b.row.map Cel.pl, b.fields)

end Go.Proofs.YtdjjpbbhcidaaaaGreatDoor


/-
  THE COMPARE OF ARRAYS OF TEXTS. No program is named here.
-/
namespace Go.RK
open Go

section
variable {P : Program}
theorem run_eqItems_str (w : World) (d : Nat) {e : TypeId} (he : P.underlying e = some .string) (hp : P.plainKey e = true) (xs ys : Array Value) : ∀ (us vs : List (List UInt8)) (o : Nat), vs.length = us.length →
    (∀ (j : Nat) (a : List UInt8), us[j]? = some a → xs[o + j]? = some (St a)) → (∀ (j : Nat) (a : List UInt8), vs[j]? = some a → ys[o + j]? = some (St a)) →
    (Op.eqItems (d + 1) e 1 xs ys (List.range' o us.length)).run P w = .ok (decide (us = vs)) w
  | [], vs, o, hl, _, _ => by
    obtain rfl : vs = [] := List.eq_nil_of_length_eq_zero hl
    simp [Op.eqItems]
  | a :: us, [], o, hl, _, _ => by simp at hl
  | a :: us, b :: vs, o, hl, hx, hy => by
    have p1 := hx 0 a rfl
    have p2 := hy 0 b rfl
    rw [Nat.add_zero] at p1 p2
    have r1 := run_part_plain (P := P) (w := w) hp p1
    have r2 := run_part_plain (P := P) (w := w) hp p2
    have r3 : (Op.equalIn (d + 1) e (St a) (St b)).run P w = .ok (decide (a = b)) w := by
      show (Op.equalIn (d + 1) e (.string _) (.string _)).run P w = _
      rw [run_equalIn_string w d e _ _ he]
      simp [beq_dec]
    have ih := run_eqItems_str w d he hp xs ys us vs (o + 1) (by simpa using hl) (fun j c hj => by
      have := hx (j + 1) c (by simpa using hj)
      rwa [show o + (j + 1) = o + 1 + j by omega] at this) (fun j c hj => by
      have := hy (j + 1) c (by simpa using hj)
      rwa [show o + (j + 1) = o + 1 + j by omega] at this)
    rw [List.length_cons, List.range'_succ]
    simp only [Op.eqItems, Nat.mul_one, Sem.run_bind, r1, r2, r3, Result.andThen_ok]
    by_cases h : a = b
    · simp [h, ih]
    · simp [h]
variable {f : Fr} {h : Heap} {d : Option Tmp} {ty : TypeId} {pos : String} {af : Array Edge} {g : Option (Nat × Bool)}
theorem ok_eqlA {t t2 e : TypeId} {x y : Operand} {n : Nat} {i : TypeInfo} {us vs : List (List UInt8)} (hu : P.underlying t = some (.array n e)) (hi : P.info? e = some i) (he : P.underlying e = some .string) (hp : P.plainKey e = true) (h1 : P.cellsOf e = 1) (hg : P.eqGuardType P.depth t = false)
    (hl : us.length = n) (hl2 : vs.length = n) (hx : f.ev x = some (.agg ⟨us.map St⟩)) (hy : f.ev y = some (.agg ⟨vs.map St⟩)) :
    OkP P f ⟨d, .binOp .eql t x y t2, ty, pos, af, g⟩ h (.bool (decide (us = vs))) := fun ρ w hag _ => by
  have r1 := run_eqGuard_agg (P := P) w .eql t x y ⟨us.map St⟩ ⟨vs.map St⟩ hg
  have r2 := run_eql_struct (P := P) w t ⟨us.map St⟩ ⟨vs.map St⟩
  rw [show (10000 : Nat) = 9999 + 1 from rfl, run_equalIn_array w 9999 _ _ hu hi, h1, List.range_eq_range', ← hl] at r2
  rw [run_eqItems_str w 9998 he hp _ _ us vs 0 (by omega) (fun j a hj => by simp [hj]) (fun j a hj => by simp [hj])] at r2
  simp only [execOp, hag _ _ hx, hag _ _ hy, Sem.run_bind, r1, r2, Result.andThen_ok, Sem.run_pure]
end
end Go.RK

/-
  back.Check, of messages that may be.
-/
namespace Go.Proofs.YtdjjpbbhcidaaaaGreatDoor
open Go Go.RK

/-- A bound. -/
structure BndD where
  n : Int
  lo : Int
  hi : Int
def BndD.cells (b : BndD) : List Value := [In b.n, In b.lo, In b.hi]
theorem BndD.len (b : BndD) : b.cells.length = 3 := rfl
def BndD.ok (b : BndD) : Prop := b.lo ≤ b.n ∧ b.n ≤ b.hi
set_option maxHeartbeats 2000000 in
set_option maxRecDepth 100000 in
theorem indexFunc_bnd {h : Heap} {v : Value} (l : List BndD) (p : BndD → Bool) {fk : Nat} {fs us : List Value} (hcf : ∀ (args : Array Value) (w : World), (callFunc fk args).run Tryz.prog w = .ok (.enter fk args) w) (hr : Rd h v 3 l.length (l.flatMap BndD.cells)) (hm : l.length ≤ maxLen)
    (hp : ∀ x ∈ l, ∀ h', Ext No h h' → CallsH Tryz.prog fk ⟨fs ++ [.agg ⟨BndD.cells x⟩] ++ us⟩ h' fun u h'' => u = .bool (p x) ∧ Ext No h' h'') :
    CallsH Tryz.prog 262 ⟨[v, .func (.func fk) ⟨fs⟩ ⟨us⟩]⟩ h fun u h' => u = In (idxP p l) ∧ Ext No h h' := by
  obtain ⟨A, c, rfl, _⟩ := id hr
  unfold maxLen at hm
  refine calls [(0, _), (1, _)] Tryz.func262 rfl Tryz.ntmps262 rfl ⟨rfl, rfl, trivial⟩ ?_
  all_goals (refine WC.sr ?_)
  all_goals (refine Go ?_)
  all_goals (refine WC.seq ?_)
  all_goals (refine WC.sr ?_)
  all_goals (refine Go ?_)
  all_goals (refine WC.block ?_)
  -- loop 0: slots that turn [8], that stay [0, 1, 7]
  all_goals (refine WC.loopG (X := Nat) (fun x => ([(8, In (x : Int))] : Fr)) [(0, _), (1, _), (7, _)] (fun k h' => Ext No h h' ∧ k ≤ l.length ∧ ∀ x ∈ l.take k, p x = false) (fun k => l.length - k) (0) ⟨rfl, rfl, rfl, rfl, trivial⟩ (by exact ⟨.refl _ _, Nat.zero_le _, by simp⟩) ?_)
  all_goals (rintro k h1 ⟨hx1, hk, hn⟩)
  all_goals (refine WC.sub [(8, _), (0, _), (1, _), (7, _)] ⟨rfl, rfl, rfl, rfl, trivial⟩ ?_)
  all_goals (refine WC.sr ?_)
  all_goals (refine Go ?_)
  all_goals (refine WC.seq ?_)
  all_goals (refine goC 1 2 ?_ ?_ <;> first | exact ⟨⟩ | refine Hb.mk fun hb => ?_ | skip)
  all_goals (first | (fail_if_success refine goB 1 ?_) | (
  refine goB 1 ?_
  all_goals (refine WC.skip ?_)
  skip))
  all_goals (first | (fail_if_success refine goB 2 ?_) | (
  refine goB 2 ?_
  all_goals (refine WC.exit ?_)
  all_goals (repeat' (with_reducible first | refine thenP_x ?_ | refine blockP_miss rfl ?_ | refine blockP_hit ?_ | refine blockP_n ?_ | refine thenP_n ?_))
  all_goals (refine Br.out (i := 1000) ?_)
  skip))
  all_goals (refine Gn ?_)
  all_goals (first | (refine Br.keep ?_) | (refine WC.seq ?_))
  all_goals (first | (refine Br.keep ?_) | (refine WC.block ?_))
  all_goals (first | (refine Br.keep ?_) | (refine WC.sr ?_))
  all_goals (refine Go ?_)
  all_goals (first | (refine Br.keep ?_) | (refine WC.sr ?_))
  all_goals (first | (refine Br.keep ?_) | (refine WL.step (ok_move rfl) rfl rfl rfl ?_))
  all_goals (first | (refine Br.keep ?_) | (refine WL.step (ok_move rfl) rfl rfl rfl ?_))
  all_goals (first
               | (refine Br.keep ?_)
               | (obtain ⟨b, o, hA, hbL, hat⟩ := Rd.at_ (hr.ext0 hx1) (by omega)
                  obtain ⟨y, hy⟩ : ∃ y, l[k]? = some y := ⟨_, List.getElem?_eq_getElem (by omega)⟩
                  have hc : At h1 b (o + k * 3) (BndD.cells y) := At.elem BndD.len hat hy))
  all_goals (first | (refine Br.keep ?_) | (refine WL.step (ok_move rfl) rfl rfl rfl ?_))
  all_goals (first | (refine Br.keep ?_) | (refine WL.step (ok_idxAddrA Tryz.underlying314 (fun w => Tryz.sizeOf287 w) rfl rfl rfl (by omega) (by first | rfl | assumption)) rfl rfl rfl ?_))
  all_goals (first | (refine Br.keep ?_) | (refine WL.step (ok_loadN (fun w => Tryz.isAgg287 w) (fun w => Tryz.sizeOf287 w) rfl rfl (by assumption)) rfl rfl rfl ?_))
  all_goals (first
               | (refine Br.keep ?_)
               | (refine WL.callT (vs := [_]) rfl rfl hcf rfl (hp y (List.mem_of_getElem? hy) h1 hx1) rfl rfl rfl ?_
                  rintro _ h2 ⟨rfl, hx2⟩))
  all_goals (first | (refine Br.keep ?_) | (cases hpy : p y))
  all_goals (refine Gn ?_)
  all_goals (first | (refine Br.keep ?_) | (refine Gs [(0, _), (1, _), (5, _), (7, _), (8, _), (16, _)] ?_))
  all_goals (first | (refine Br.keep ?_) | (refine goC 3 4 ?_ ?_ <;> first | exact ⟨⟩ | refine Hb.mk fun hb => ?_ | skip))
  all_goals (first | (fail_if_success refine goB 3 ?_) | (
  refine goB 3 ?_
  all_goals (refine WC.sr ?_)
  all_goals (refine Go ?_)
  all_goals (refine Gs [(4, _)] ?_)
  all_goals (refine Gt ?_)
  all_goals (first | exact ⟨by rw [idxP_no (by rw [List.take_of_length_le (by omega)] at hn; exact hn)], hx1⟩ | exact ⟨by rw [idxP_at hy hpy hn], hx1.trans hx2⟩)
  skip))
  all_goals (first | (fail_if_success refine goB 4 ?_) | (
  refine goB 4 ?_
  all_goals (refine WC.skip ?_)
  skip))
  all_goals (refine Gn ?_)
  all_goals (first | (refine Br.keep ?_) | (refine WC.region ?_))
  all_goals (refine Go ?_)
  all_goals (first | (refine Br.keep ?_) | (exact ⟨k + 1, ⟨rfl, rfl, rfl, rfl, trivial⟩, (by exact ⟨hx1.trans hx2, by omega, take_snoc_p hn hy hpy⟩), (by omega)⟩))
  all_goals (try (refine Br.mk (i := 1000) ?_))
  all_goals (refine Gn ?_)
  all_goals (refine Gs [] ?_)
  all_goals (refine WC.sr ?_)
  all_goals (refine Go ?_)
  all_goals (refine Gt ?_)
  all_goals (first | exact ⟨by rw [idxP_no (by rw [List.take_of_length_le (by omega)] at hn; exact hn)], hx1⟩ | exact ⟨by rw [idxP_at hy hpy hn], hx1.trans hx2⟩)

set_option maxHeartbeats 2000000 in
set_option maxRecDepth 100000 in
theorem indexFunc_col {h : Heap} {v : Value} (l : List ColD) (p : ColD → Bool) {fk : Nat} {fs us : List Value} (hcf : ∀ (args : Array Value) (w : World), (callFunc fk args).run Tryz.prog w = .ok (.enter fk args) w) (hr : Rd h v 7 l.length (l.flatMap ColD.cells)) (hm : l.length ≤ maxLen)
    (hp : ∀ x ∈ l, ∀ h', Ext No h h' → CallsH Tryz.prog fk ⟨fs ++ [.agg ⟨ColD.cells x⟩] ++ us⟩ h' fun u h'' => u = .bool (p x) ∧ Ext No h' h'') :
    CallsH Tryz.prog 231 ⟨[v, .func (.func fk) ⟨fs⟩ ⟨us⟩]⟩ h fun u h' => u = In (idxP p l) ∧ Ext No h h' := by
  obtain ⟨A, c, rfl, _⟩ := id hr
  unfold maxLen at hm
  refine calls [(0, _), (1, _)] Tryz.func231 rfl Tryz.ntmps231 rfl ⟨rfl, rfl, trivial⟩ ?_
  all_goals (refine WC.sr ?_)
  all_goals (refine Go ?_)
  all_goals (refine WC.seq ?_)
  all_goals (refine WC.sr ?_)
  all_goals (refine Go ?_)
  all_goals (refine WC.block ?_)
  -- loop 0: slots that turn [8], that stay [0, 1, 7]
  all_goals (refine WC.loopG (X := Nat) (fun x => ([(8, In (x : Int))] : Fr)) [(0, _), (1, _), (7, _)] (fun k h' => Ext No h h' ∧ k ≤ l.length ∧ ∀ x ∈ l.take k, p x = false) (fun k => l.length - k) (0) ⟨rfl, rfl, rfl, rfl, trivial⟩ (by exact ⟨.refl _ _, Nat.zero_le _, by simp⟩) ?_)
  all_goals (rintro k h1 ⟨hx1, hk, hn⟩)
  all_goals (refine WC.sub [(8, _), (0, _), (1, _), (7, _)] ⟨rfl, rfl, rfl, rfl, trivial⟩ ?_)
  all_goals (refine WC.sr ?_)
  all_goals (refine Go ?_)
  all_goals (refine WC.seq ?_)
  all_goals (refine goC 1 2 ?_ ?_ <;> first | exact ⟨⟩ | refine Hb.mk fun hb => ?_ | skip)
  all_goals (first | (fail_if_success refine goB 1 ?_) | (
  refine goB 1 ?_
  all_goals (refine WC.skip ?_)
  skip))
  all_goals (first | (fail_if_success refine goB 2 ?_) | (
  refine goB 2 ?_
  all_goals (refine WC.exit ?_)
  all_goals (repeat' (with_reducible first | refine thenP_x ?_ | refine blockP_miss rfl ?_ | refine blockP_hit ?_ | refine blockP_n ?_ | refine thenP_n ?_))
  all_goals (refine Br.out (i := 1000) ?_)
  skip))
  all_goals (refine Gn ?_)
  all_goals (first | (refine Br.keep ?_) | (refine WC.seq ?_))
  all_goals (first | (refine Br.keep ?_) | (refine WC.block ?_))
  all_goals (first | (refine Br.keep ?_) | (refine WC.sr ?_))
  all_goals (refine Go ?_)
  all_goals (first | (refine Br.keep ?_) | (refine WC.sr ?_))
  all_goals (first | (refine Br.keep ?_) | (refine WL.step (ok_move rfl) rfl rfl rfl ?_))
  all_goals (first | (refine Br.keep ?_) | (refine WL.step (ok_move rfl) rfl rfl rfl ?_))
  all_goals (first
               | (refine Br.keep ?_)
               | (obtain ⟨b, o, hA, hbL, hat⟩ := Rd.at_ (hr.ext0 hx1) (by omega)
                  obtain ⟨y, hy⟩ : ∃ y, l[k]? = some y := ⟨_, List.getElem?_eq_getElem (by omega)⟩
                  have hc : At h1 b (o + k * 7) (ColD.cells y) := At.elem ColD.len hat hy))
  all_goals (first | (refine Br.keep ?_) | (refine WL.step (ok_move rfl) rfl rfl rfl ?_))
  all_goals (first | (refine Br.keep ?_) | (refine WL.step (ok_idxAddrA Tryz.underlying90 (fun w => Tryz.sizeOf179 w) rfl rfl rfl (by omega) (by first | rfl | assumption)) rfl rfl rfl ?_))
  all_goals (first | (refine Br.keep ?_) | (refine WL.step (ok_loadN (fun w => Tryz.isAgg179 w) (fun w => Tryz.sizeOf179 w) rfl rfl (by assumption)) rfl rfl rfl ?_))
  all_goals (first
               | (refine Br.keep ?_)
               | (refine WL.callT (vs := [_]) rfl rfl hcf rfl (hp y (List.mem_of_getElem? hy) h1 hx1) rfl rfl rfl ?_
                  rintro _ h2 ⟨rfl, hx2⟩))
  all_goals (first | (refine Br.keep ?_) | (cases hpy : p y))
  all_goals (refine Gn ?_)
  all_goals (first | (refine Br.keep ?_) | (refine Gs [(0, _), (1, _), (5, _), (7, _), (8, _), (16, _)] ?_))
  all_goals (first | (refine Br.keep ?_) | (refine goC 3 4 ?_ ?_ <;> first | exact ⟨⟩ | refine Hb.mk fun hb => ?_ | skip))
  all_goals (first | (fail_if_success refine goB 3 ?_) | (
  refine goB 3 ?_
  all_goals (refine WC.sr ?_)
  all_goals (refine Go ?_)
  all_goals (refine Gs [(4, _)] ?_)
  all_goals (refine Gt ?_)
  all_goals (first | exact ⟨by rw [idxP_no (by rw [List.take_of_length_le (by omega)] at hn; exact hn)], hx1⟩ | exact ⟨by rw [idxP_at hy hpy hn], hx1.trans hx2⟩)
  skip))
  all_goals (first | (fail_if_success refine goB 4 ?_) | (
  refine goB 4 ?_
  all_goals (refine WC.skip ?_)
  skip))
  all_goals (refine Gn ?_)
  all_goals (first | (refine Br.keep ?_) | (refine WC.region ?_))
  all_goals (refine Go ?_)
  all_goals (first | (refine Br.keep ?_) | (exact ⟨k + 1, ⟨rfl, rfl, rfl, rfl, trivial⟩, (by exact ⟨hx1.trans hx2, by omega, take_snoc_p hn hy hpy⟩), (by omega)⟩))
  all_goals (try (refine Br.mk (i := 1000) ?_))
  all_goals (refine Gn ?_)
  all_goals (refine Gs [] ?_)
  all_goals (refine WC.sr ?_)
  all_goals (refine Go ?_)
  all_goals (refine Gt ?_)
  all_goals (first | exact ⟨by rw [idxP_no (by rw [List.take_of_length_le (by omega)] at hn; exact hn)], hx1⟩ | exact ⟨by rw [idxP_at hy hpy hn], hx1.trans hx2⟩)

set_option maxHeartbeats 2000000 in
set_option maxRecDepth 100000 in
theorem indexFunc_fld {h : Heap} {v : Value} (l : List FieldD) (p : FieldD → Bool) {fk : Nat} {fs us : List Value} (hcf : ∀ (args : Array Value) (w : World), (callFunc fk args).run Tryz.prog w = .ok (.enter fk args) w) (hr : Rd h v 2 l.length (l.flatMap FieldD.cells)) (hm : l.length ≤ maxLen)
    (hp : ∀ x ∈ l, ∀ h', Ext No h h' → CallsH Tryz.prog fk ⟨fs ++ [.agg ⟨FieldD.cells x⟩] ++ us⟩ h' fun u h'' => u = .bool (p x) ∧ Ext No h' h'') :
    CallsH Tryz.prog 234 ⟨[v, .func (.func fk) ⟨fs⟩ ⟨us⟩]⟩ h fun u h' => u = In (idxP p l) ∧ Ext No h h' := by
  obtain ⟨A, c, rfl, _⟩ := id hr
  unfold maxLen at hm
  refine calls [(0, _), (1, _)] Tryz.func234 rfl Tryz.ntmps234 rfl ⟨rfl, rfl, trivial⟩ ?_
  all_goals (refine WC.sr ?_)
  all_goals (refine Go ?_)
  all_goals (refine WC.seq ?_)
  all_goals (refine WC.sr ?_)
  all_goals (refine Go ?_)
  all_goals (refine WC.block ?_)
  -- loop 0: slots that turn [8], that stay [0, 1, 7]
  all_goals (refine WC.loopG (X := Nat) (fun x => ([(8, In (x : Int))] : Fr)) [(0, _), (1, _), (7, _)] (fun k h' => Ext No h h' ∧ k ≤ l.length ∧ ∀ x ∈ l.take k, p x = false) (fun k => l.length - k) (0) ⟨rfl, rfl, rfl, rfl, trivial⟩ (by exact ⟨.refl _ _, Nat.zero_le _, by simp⟩) ?_)
  all_goals (rintro k h1 ⟨hx1, hk, hn⟩)
  all_goals (refine WC.sub [(8, _), (0, _), (1, _), (7, _)] ⟨rfl, rfl, rfl, rfl, trivial⟩ ?_)
  all_goals (refine WC.sr ?_)
  all_goals (refine Go ?_)
  all_goals (refine WC.seq ?_)
  all_goals (refine goC 1 2 ?_ ?_ <;> first | exact ⟨⟩ | refine Hb.mk fun hb => ?_ | skip)
  all_goals (first | (fail_if_success refine goB 1 ?_) | (
  refine goB 1 ?_
  all_goals (refine WC.skip ?_)
  skip))
  all_goals (first | (fail_if_success refine goB 2 ?_) | (
  refine goB 2 ?_
  all_goals (refine WC.exit ?_)
  all_goals (repeat' (with_reducible first | refine thenP_x ?_ | refine blockP_miss rfl ?_ | refine blockP_hit ?_ | refine blockP_n ?_ | refine thenP_n ?_))
  all_goals (refine Br.out (i := 1000) ?_)
  skip))
  all_goals (refine Gn ?_)
  all_goals (first | (refine Br.keep ?_) | (refine WC.seq ?_))
  all_goals (first | (refine Br.keep ?_) | (refine WC.block ?_))
  all_goals (first | (refine Br.keep ?_) | (refine WC.sr ?_))
  all_goals (refine Go ?_)
  all_goals (first | (refine Br.keep ?_) | (refine WC.sr ?_))
  all_goals (first | (refine Br.keep ?_) | (refine WL.step (ok_move rfl) rfl rfl rfl ?_))
  all_goals (first | (refine Br.keep ?_) | (refine WL.step (ok_move rfl) rfl rfl rfl ?_))
  all_goals (first
               | (refine Br.keep ?_)
               | (obtain ⟨b, o, hA, hbL, hat⟩ := Rd.at_ (hr.ext0 hx1) (by omega)
                  obtain ⟨y, hy⟩ : ∃ y, l[k]? = some y := ⟨_, List.getElem?_eq_getElem (by omega)⟩
                  have hc : At h1 b (o + k * 2) (FieldD.cells y) := At.elem FieldD.len hat hy))
  all_goals (first | (refine Br.keep ?_) | (refine WL.step (ok_move rfl) rfl rfl rfl ?_))
  all_goals (first | (refine Br.keep ?_) | (refine WL.step (ok_idxAddrA Tryz.underlying88 (fun w => Tryz.sizeOf152 w) rfl rfl rfl (by omega) (by first | rfl | assumption)) rfl rfl rfl ?_))
  all_goals (first | (refine Br.keep ?_) | (refine WL.step (ok_loadN (fun w => Tryz.isAgg152 w) (fun w => Tryz.sizeOf152 w) rfl rfl (by assumption)) rfl rfl rfl ?_))
  all_goals (first
               | (refine Br.keep ?_)
               | (refine WL.callT (vs := [_]) rfl rfl hcf rfl (hp y (List.mem_of_getElem? hy) h1 hx1) rfl rfl rfl ?_
                  rintro _ h2 ⟨rfl, hx2⟩))
  all_goals (first | (refine Br.keep ?_) | (cases hpy : p y))
  all_goals (refine Gn ?_)
  all_goals (first | (refine Br.keep ?_) | (refine Gs [(0, _), (1, _), (5, _), (7, _), (8, _), (16, _)] ?_))
  all_goals (first | (refine Br.keep ?_) | (refine goC 3 4 ?_ ?_ <;> first | exact ⟨⟩ | refine Hb.mk fun hb => ?_ | skip))
  all_goals (first | (fail_if_success refine goB 3 ?_) | (
  refine goB 3 ?_
  all_goals (refine WC.sr ?_)
  all_goals (refine Go ?_)
  all_goals (refine Gs [(4, _)] ?_)
  all_goals (refine Gt ?_)
  all_goals (first | exact ⟨by rw [idxP_no (by rw [List.take_of_length_le (by omega)] at hn; exact hn)], hx1⟩ | exact ⟨by rw [idxP_at hy hpy hn], hx1.trans hx2⟩)
  skip))
  all_goals (first | (fail_if_success refine goB 4 ?_) | (
  refine goB 4 ?_
  all_goals (refine WC.skip ?_)
  skip))
  all_goals (refine Gn ?_)
  all_goals (first | (refine Br.keep ?_) | (refine WC.region ?_))
  all_goals (refine Go ?_)
  all_goals (first | (refine Br.keep ?_) | (exact ⟨k + 1, ⟨rfl, rfl, rfl, rfl, trivial⟩, (by exact ⟨hx1.trans hx2, by omega, take_snoc_p hn hy hpy⟩), (by omega)⟩))
  all_goals (try (refine Br.mk (i := 1000) ?_))
  all_goals (refine Gn ?_)
  all_goals (refine Gs [] ?_)
  all_goals (refine WC.sr ?_)
  all_goals (refine Go ?_)
  all_goals (refine Gt ?_)
  all_goals (first | exact ⟨by rw [idxP_no (by rw [List.take_of_length_le (by omega)] at hn; exact hn)], hx1⟩ | exact ⟨by rw [idxP_at hy hpy hn], hx1.trans hx2⟩)

set_option maxHeartbeats 2000000 in
set_option maxRecDepth 100000 in
theorem indexFunc_cel {h : Heap} {v : Value} (l : List Cel) (p : Cel → Bool) {fk : Nat} {fs us : List Value} (hcf : ∀ (args : Array Value) (w : World), (callFunc fk args).run Tryz.prog w = .ok (.enter fk args) w) (hr : Rd h v 2 l.length (l.flatMap Cel.cells)) (hm : l.length ≤ maxLen)
    (hp : ∀ x ∈ l, ∀ h', Ext No h h' → CallsH Tryz.prog fk ⟨fs ++ [.agg ⟨Cel.cells x⟩] ++ us⟩ h' fun u h'' => u = .bool (p x) ∧ Ext No h' h'') :
    CallsH Tryz.prog 190 ⟨[v, .func (.func fk) ⟨fs⟩ ⟨us⟩]⟩ h fun u h' => u = In (idxP p l) ∧ Ext No h h' := by
  obtain ⟨A, c, rfl, _⟩ := id hr
  unfold maxLen at hm
  refine calls [(0, _), (1, _)] Tryz.func190 rfl Tryz.ntmps190 rfl ⟨rfl, rfl, trivial⟩ ?_
  all_goals (refine WC.sr ?_)
  all_goals (refine Go ?_)
  all_goals (refine WC.seq ?_)
  all_goals (refine WC.sr ?_)
  all_goals (refine Go ?_)
  all_goals (refine WC.block ?_)
  -- loop 0: slots that turn [8], that stay [0, 1, 7]
  all_goals (refine WC.loopG (X := Nat) (fun x => ([(8, In (x : Int))] : Fr)) [(0, _), (1, _), (7, _)] (fun k h' => Ext No h h' ∧ k ≤ l.length ∧ ∀ x ∈ l.take k, p x = false) (fun k => l.length - k) (0) ⟨rfl, rfl, rfl, rfl, trivial⟩ (by exact ⟨.refl _ _, Nat.zero_le _, by simp⟩) ?_)
  all_goals (rintro k h1 ⟨hx1, hk, hn⟩)
  all_goals (refine WC.sub [(8, _), (0, _), (1, _), (7, _)] ⟨rfl, rfl, rfl, rfl, trivial⟩ ?_)
  all_goals (refine WC.sr ?_)
  all_goals (refine Go ?_)
  all_goals (refine WC.seq ?_)
  all_goals (refine goC 1 2 ?_ ?_ <;> first | exact ⟨⟩ | refine Hb.mk fun hb => ?_ | skip)
  all_goals (first | (fail_if_success refine goB 1 ?_) | (
  refine goB 1 ?_
  all_goals (refine WC.skip ?_)
  skip))
  all_goals (first | (fail_if_success refine goB 2 ?_) | (
  refine goB 2 ?_
  all_goals (refine WC.exit ?_)
  all_goals (repeat' (with_reducible first | refine thenP_x ?_ | refine blockP_miss rfl ?_ | refine blockP_hit ?_ | refine blockP_n ?_ | refine thenP_n ?_))
  all_goals (refine Br.out (i := 1000) ?_)
  skip))
  all_goals (refine Gn ?_)
  all_goals (first | (refine Br.keep ?_) | (refine WC.seq ?_))
  all_goals (first | (refine Br.keep ?_) | (refine WC.block ?_))
  all_goals (first | (refine Br.keep ?_) | (refine WC.sr ?_))
  all_goals (refine Go ?_)
  all_goals (first | (refine Br.keep ?_) | (refine WC.sr ?_))
  all_goals (first | (refine Br.keep ?_) | (refine WL.step (ok_move rfl) rfl rfl rfl ?_))
  all_goals (first | (refine Br.keep ?_) | (refine WL.step (ok_move rfl) rfl rfl rfl ?_))
  all_goals (first
               | (refine Br.keep ?_)
               | (obtain ⟨b, o, hA, hbL, hat⟩ := Rd.at_ (hr.ext0 hx1) (by omega)
                  obtain ⟨y, hy⟩ : ∃ y, l[k]? = some y := ⟨_, List.getElem?_eq_getElem (by omega)⟩
                  have hc : At h1 b (o + k * 2) (Cel.cells y) := At.elem Cel.len hat hy))
  all_goals (first | (refine Br.keep ?_) | (refine WL.step (ok_move rfl) rfl rfl rfl ?_))
  all_goals (first | (refine Br.keep ?_) | (refine WL.step (ok_idxAddrA Tryz.underlying32 (fun w => Tryz.sizeOf211 w) rfl rfl rfl (by omega) (by first | rfl | assumption)) rfl rfl rfl ?_))
  all_goals (first | (refine Br.keep ?_) | (refine WL.step (ok_loadN (fun w => Tryz.isAgg211 w) (fun w => Tryz.sizeOf211 w) rfl rfl (by assumption)) rfl rfl rfl ?_))
  all_goals (first
               | (refine Br.keep ?_)
               | (refine WL.callT (vs := [_]) rfl rfl hcf rfl (hp y (List.mem_of_getElem? hy) h1 hx1) rfl rfl rfl ?_
                  rintro _ h2 ⟨rfl, hx2⟩))
  all_goals (first | (refine Br.keep ?_) | (cases hpy : p y))
  all_goals (refine Gn ?_)
  all_goals (first | (refine Br.keep ?_) | (refine Gs [(0, _), (1, _), (5, _), (7, _), (8, _), (16, _)] ?_))
  all_goals (first | (refine Br.keep ?_) | (refine goC 3 4 ?_ ?_ <;> first | exact ⟨⟩ | refine Hb.mk fun hb => ?_ | skip))
  all_goals (first | (fail_if_success refine goB 3 ?_) | (
  refine goB 3 ?_
  all_goals (refine WC.sr ?_)
  all_goals (refine Go ?_)
  all_goals (refine Gs [(4, _)] ?_)
  all_goals (refine Gt ?_)
  all_goals (first | exact ⟨by rw [idxP_no (by rw [List.take_of_length_le (by omega)] at hn; exact hn)], hx1⟩ | exact ⟨by rw [idxP_at hy hpy hn], hx1.trans hx2⟩)
  skip))
  all_goals (first | (fail_if_success refine goB 4 ?_) | (
  refine goB 4 ?_
  all_goals (refine WC.skip ?_)
  skip))
  all_goals (refine Gn ?_)
  all_goals (first | (refine Br.keep ?_) | (refine WC.region ?_))
  all_goals (refine Go ?_)
  all_goals (first | (refine Br.keep ?_) | (exact ⟨k + 1, ⟨rfl, rfl, rfl, rfl, trivial⟩, (by exact ⟨hx1.trans hx2, by omega, take_snoc_p hn hy hpy⟩), (by omega)⟩))
  all_goals (try (refine Br.mk (i := 1000) ?_))
  all_goals (refine Gn ?_)
  all_goals (refine Gs [] ?_)
  all_goals (refine WC.sr ?_)
  all_goals (refine Go ?_)
  all_goals (refine Gt ?_)
  all_goals (first | exact ⟨by rw [idxP_no (by rw [List.take_of_length_le (by omega)] at hn; exact hn)], hx1⟩ | exact ⟨by rw [idxP_at hy hpy hn], hx1.trans hx2⟩)

set_option maxHeartbeats 2000000 in
set_option maxRecDepth 100000 in
theorem everyf_col {h : Heap} {b : Nat} {t : TypeId} (x : ColD) {fk : Nat} (hcf : ∀ (args : Array Value) (w : World), (callFunc fk args).run Tryz.prog w = .ok (.enter fk args) w) (hb : h[b]? = some (.cells ⟨[.func (.func fk) ⟨[]⟩ ⟨[]⟩]⟩ t (0, 0)))
    (hp : ∀ h', Ext No h h' → CallsH Tryz.prog fk ⟨[.agg ⟨ColD.cells x⟩]⟩ h' fun u h'' => u = .bool true ∧ Ext No h' h'') :
    CallsH Tryz.prog 194 ⟨[.agg ⟨ColD.cells x⟩, .pointer (some ⟨b, 0, none⟩)]⟩ h fun u h' => u = .bool false ∧ Ext No h h' := by
  refine calls [(0, _), (1, _)] Tryz.func194 rfl Tryz.ntmps194 rfl ⟨rfl, rfl, trivial⟩ ?_
  all_goals (refine WC.sr ?_)
  all_goals (refine WL.stepR (okE_box rfl) rfl rfl rfl ?_
             rintro _ h1 ⟨b1, rfl, hg1, hb1, hx1⟩)
  all_goals (refine Go ?_)
  all_goals (refine WC.sr ?_)
  all_goals (refine WL.ld rfl (by first | exact cell_blk (hx1.obj hb nos) rfl | assumption | exact cell_blk (by assumption) rfl) rfl rfl rfl ?_)
  all_goals (refine WL.step (ok_loadN (fun w => Tryz.isAgg179 w) (fun w => Tryz.sizeOf179 w) rfl rfl (by exact At.of_block hb1)) rfl rfl rfl ?_)
  all_goals (refine WL.callT (vs := [_]) rfl rfl hcf rfl (hp _ hx1) rfl rfl rfl ?_
             rintro _ h2 ⟨rfl, hx2⟩)
  all_goals (refine Go ?_)
  all_goals (refine Gs [(3, _)] ?_)
  all_goals (refine Gt ?_)
  all_goals (exact ⟨rfl, hx1.trans hx2⟩)
set_option maxHeartbeats 2000000 in
set_option maxRecDepth 100000 in
theorem every_col {h : Heap} {v : Value} (l : List ColD) (hr : Rd h v 7 l.length (l.flatMap ColD.cells)) (hl : l.length ≤ 65535) {fk : Nat} (hcf : ∀ (args : Array Value) (w : World), (callFunc fk args).run Tryz.prog w = .ok (.enter fk args) w)
    (hp : ∀ x ∈ l, ∀ h', Ext No h h' → CallsH Tryz.prog fk ⟨[.agg ⟨ColD.cells x⟩]⟩ h' fun u h'' => u = .bool true ∧ Ext No h' h'') :
    CallsH Tryz.prog 148 ⟨[v, .func (.func fk) ⟨[]⟩ ⟨[]⟩]⟩ h fun u h' => u = .bool true ∧ Ext No h h' := by
  have hcon : ∀ {h' : Heap} {b : Nat} {t : TypeId}, Ext No h h' → h'[b]? = some (.cells ⟨[.func (.func fk) ⟨[]⟩ ⟨[]⟩]⟩ t (0, 0)) → CallsH Tryz.prog 193 ⟨[v, .func (.func 194) ⟨[]⟩ ⟨[.pointer (some ⟨b, 0, none⟩)]⟩]⟩ h' fun u h'' => u = .bool false ∧ Ext No h' h'' := by
    intro h' b t hx hb
    refine calls [(0, _), (1, _)] Tryz.func193 rfl Tryz.ntmps193 rfl ⟨rfl, rfl, trivial⟩ ?_
    all_goals (refine WC.sr ?_)
    all_goals (refine Go ?_)
    all_goals (refine WC.sr ?_)
    all_goals (refine Go ?_)
    all_goals (refine WL.call (vs := [_, _]) rfl (fun a w => Tryz.call231 a w) rfl (indexFunc_col l (fun _ => false) (fun a w => Tryz.call194 a w) (fs := []) (us := [.pointer (some ⟨b, 0, none⟩)]) (hr.ext0 hx) (by unfold maxLen; omega) (fun x hxl h2 hx2 => everyf_col x hcf (hx2.obj hb nos) (fun h3 hx3 => hp x hxl h3 ((hx.trans hx2).trans hx3)))) rfl rfl rfl ?_
               rintro _ h1 ⟨rfl, hx1⟩)
    all_goals (rw [idxP_no (fun _ _ => rfl)])
    all_goals (refine Go ?_)
    all_goals (refine Gs [(4, _)] ?_)
    all_goals (refine Gt ?_)
    all_goals (exact ⟨rfl, hx1⟩)
  obtain ⟨A, c, rfl, _⟩ := id hr
  refine calls [(0, _), (1, _)] Tryz.func148 rfl Tryz.ntmps148 rfl ⟨rfl, rfl, trivial⟩ ?_
  all_goals (refine WC.sr ?_)
  all_goals (refine WL.stepR (okE_box rfl) rfl rfl rfl ?_
             rintro _ h1 ⟨b1, rfl, hg1, hb1, hx1⟩)
  all_goals (refine Go ?_)
  all_goals (refine WC.sr ?_)
  all_goals (refine Go ?_)
  all_goals (refine goP 8 ?_ ?_ <;> first | exact ⟨⟩ | refine Hb.mk fun hb => ?_ | skip)
  all_goals (refine Gg ?_)
  all_goals (first | (refine WL.pass rfl rfl rfl ?_) | (refine WL.step (ok_makeFunc (vs := []) (us := [_]) rfl rfl) rfl rfl rfl ?_))
  all_goals (first
               | (refine WL.pass rfl rfl rfl ?_)
               | (refine WL.call (vs := [_, _]) rfl (fun a w => Tryz.call193 a w) rfl (hcon hx1 hb1) rfl rfl rfl ?_
                  rintro _ h2 ⟨rfl, hx2⟩))
  all_goals (refine Gg ?_)
  all_goals (refine Go ?_)
  all_goals (refine Gs [(4, _)] ?_)
  all_goals (refine Gt ?_)
  all_goals (exact ⟨rfl, hx1.trans hx2⟩)

set_option maxHeartbeats 2000000 in
set_option maxRecDepth 100000 in
theorem everyf_fld {h : Heap} {b : Nat} {t : TypeId} (x : FieldD) {fk : Nat} (hcf : ∀ (args : Array Value) (w : World), (callFunc fk args).run Tryz.prog w = .ok (.enter fk args) w) (hb : h[b]? = some (.cells ⟨[.func (.func fk) ⟨[]⟩ ⟨[]⟩]⟩ t (0, 0)))
    (hp : ∀ h', Ext No h h' → CallsH Tryz.prog fk ⟨[.agg ⟨FieldD.cells x⟩]⟩ h' fun u h'' => u = .bool true ∧ Ext No h' h'') :
    CallsH Tryz.prog 197 ⟨[.agg ⟨FieldD.cells x⟩, .pointer (some ⟨b, 0, none⟩)]⟩ h fun u h' => u = .bool false ∧ Ext No h h' := by
  refine calls [(0, _), (1, _)] Tryz.func197 rfl Tryz.ntmps197 rfl ⟨rfl, rfl, trivial⟩ ?_
  all_goals (refine WC.sr ?_)
  all_goals (refine WL.stepR (okE_box rfl) rfl rfl rfl ?_
             rintro _ h1 ⟨b1, rfl, hg1, hb1, hx1⟩)
  all_goals (refine Go ?_)
  all_goals (refine WC.sr ?_)
  all_goals (refine WL.ld rfl (by first | exact cell_blk (hx1.obj hb nos) rfl | assumption | exact cell_blk (by assumption) rfl) rfl rfl rfl ?_)
  all_goals (refine WL.step (ok_loadN (fun w => Tryz.isAgg152 w) (fun w => Tryz.sizeOf152 w) rfl rfl (by exact At.of_block hb1)) rfl rfl rfl ?_)
  all_goals (refine WL.callT (vs := [_]) rfl rfl hcf rfl (hp _ hx1) rfl rfl rfl ?_
             rintro _ h2 ⟨rfl, hx2⟩)
  all_goals (refine Go ?_)
  all_goals (refine Gs [(3, _)] ?_)
  all_goals (refine Gt ?_)
  all_goals (exact ⟨rfl, hx1.trans hx2⟩)
set_option maxHeartbeats 2000000 in
set_option maxRecDepth 100000 in
theorem every_fld {h : Heap} {v : Value} (l : List FieldD) (hr : Rd h v 2 l.length (l.flatMap FieldD.cells)) (hl : l.length ≤ 65535) {fk : Nat} (hcf : ∀ (args : Array Value) (w : World), (callFunc fk args).run Tryz.prog w = .ok (.enter fk args) w)
    (hp : ∀ x ∈ l, ∀ h', Ext No h h' → CallsH Tryz.prog fk ⟨[.agg ⟨FieldD.cells x⟩]⟩ h' fun u h'' => u = .bool true ∧ Ext No h' h'') :
    CallsH Tryz.prog 150 ⟨[v, .func (.func fk) ⟨[]⟩ ⟨[]⟩]⟩ h fun u h' => u = .bool true ∧ Ext No h h' := by
  have hcon : ∀ {h' : Heap} {b : Nat} {t : TypeId}, Ext No h h' → h'[b]? = some (.cells ⟨[.func (.func fk) ⟨[]⟩ ⟨[]⟩]⟩ t (0, 0)) → CallsH Tryz.prog 196 ⟨[v, .func (.func 197) ⟨[]⟩ ⟨[.pointer (some ⟨b, 0, none⟩)]⟩]⟩ h' fun u h'' => u = .bool false ∧ Ext No h' h'' := by
    intro h' b t hx hb
    refine calls [(0, _), (1, _)] Tryz.func196 rfl Tryz.ntmps196 rfl ⟨rfl, rfl, trivial⟩ ?_
    all_goals (refine WC.sr ?_)
    all_goals (refine Go ?_)
    all_goals (refine WC.sr ?_)
    all_goals (refine Go ?_)
    all_goals (refine WL.call (vs := [_, _]) rfl (fun a w => Tryz.call234 a w) rfl (indexFunc_fld l (fun _ => false) (fun a w => Tryz.call197 a w) (fs := []) (us := [.pointer (some ⟨b, 0, none⟩)]) (hr.ext0 hx) (by unfold maxLen; omega) (fun x hxl h2 hx2 => everyf_fld x hcf (hx2.obj hb nos) (fun h3 hx3 => hp x hxl h3 ((hx.trans hx2).trans hx3)))) rfl rfl rfl ?_
               rintro _ h1 ⟨rfl, hx1⟩)
    all_goals (rw [idxP_no (fun _ _ => rfl)])
    all_goals (refine Go ?_)
    all_goals (refine Gs [(4, _)] ?_)
    all_goals (refine Gt ?_)
    all_goals (exact ⟨rfl, hx1⟩)
  obtain ⟨A, c, rfl, _⟩ := id hr
  refine calls [(0, _), (1, _)] Tryz.func150 rfl Tryz.ntmps150 rfl ⟨rfl, rfl, trivial⟩ ?_
  all_goals (refine WC.sr ?_)
  all_goals (refine WL.stepR (okE_box rfl) rfl rfl rfl ?_
             rintro _ h1 ⟨b1, rfl, hg1, hb1, hx1⟩)
  all_goals (refine Go ?_)
  all_goals (refine WC.sr ?_)
  all_goals (refine Go ?_)
  all_goals (refine goP 8 ?_ ?_ <;> first | exact ⟨⟩ | refine Hb.mk fun hb => ?_ | skip)
  all_goals (refine Gg ?_)
  all_goals (first | (refine WL.pass rfl rfl rfl ?_) | (refine WL.step (ok_makeFunc (vs := []) (us := [_]) rfl rfl) rfl rfl rfl ?_))
  all_goals (first
               | (refine WL.pass rfl rfl rfl ?_)
               | (refine WL.call (vs := [_, _]) rfl (fun a w => Tryz.call196 a w) rfl (hcon hx1 hb1) rfl rfl rfl ?_
                  rintro _ h2 ⟨rfl, hx2⟩))
  all_goals (refine Gg ?_)
  all_goals (refine Go ?_)
  all_goals (refine Gs [(4, _)] ?_)
  all_goals (refine Gt ?_)
  all_goals (exact ⟨rfl, hx1.trans hx2⟩)

set_option maxHeartbeats 2000000 in
set_option maxRecDepth 100000 in
theorem everyf_cel {h : Heap} {b : Nat} {t : TypeId} (x : Cel) {fk : Nat} (hcf : ∀ (args : Array Value) (w : World), (callFunc fk args).run Tryz.prog w = .ok (.enter fk args) w) (hb : h[b]? = some (.cells ⟨[.func (.func fk) ⟨[]⟩ ⟨[]⟩]⟩ t (0, 0)))
    (hp : ∀ h', Ext No h h' → CallsH Tryz.prog fk ⟨[.agg ⟨Cel.cells x⟩]⟩ h' fun u h'' => u = .bool true ∧ Ext No h' h'') :
    CallsH Tryz.prog 198 ⟨[.agg ⟨Cel.cells x⟩, .pointer (some ⟨b, 0, none⟩)]⟩ h fun u h' => u = .bool false ∧ Ext No h h' := by
  refine calls [(0, _), (1, _)] Tryz.func198 rfl Tryz.ntmps198 rfl ⟨rfl, rfl, trivial⟩ ?_
  all_goals (refine WC.sr ?_)
  all_goals (refine WL.stepR (okE_box rfl) rfl rfl rfl ?_
             rintro _ h1 ⟨b1, rfl, hg1, hb1, hx1⟩)
  all_goals (refine Go ?_)
  all_goals (refine WC.sr ?_)
  all_goals (refine WL.ld rfl (by first | exact cell_blk (hx1.obj hb nos) rfl | assumption | exact cell_blk (by assumption) rfl) rfl rfl rfl ?_)
  all_goals (refine WL.step (ok_loadN (fun w => Tryz.isAgg211 w) (fun w => Tryz.sizeOf211 w) rfl rfl (by exact At.of_block hb1)) rfl rfl rfl ?_)
  all_goals (refine WL.callT (vs := [_]) rfl rfl hcf rfl (hp _ hx1) rfl rfl rfl ?_
             rintro _ h2 ⟨rfl, hx2⟩)
  all_goals (refine Go ?_)
  all_goals (refine Gs [(3, _)] ?_)
  all_goals (refine Gt ?_)
  all_goals (exact ⟨rfl, hx1.trans hx2⟩)
set_option maxHeartbeats 2000000 in
set_option maxRecDepth 100000 in
theorem every_cel {h : Heap} {v : Value} (l : List Cel) (hr : Rd h v 2 l.length (l.flatMap Cel.cells)) (hl : l.length ≤ 65535) {fk : Nat} (hcf : ∀ (args : Array Value) (w : World), (callFunc fk args).run Tryz.prog w = .ok (.enter fk args) w)
    (hp : ∀ x ∈ l, ∀ h', Ext No h h' → CallsH Tryz.prog fk ⟨[.agg ⟨Cel.cells x⟩]⟩ h' fun u h'' => u = .bool true ∧ Ext No h' h'') :
    CallsH Tryz.prog 152 ⟨[v, .func (.func fk) ⟨[]⟩ ⟨[]⟩]⟩ h fun u h' => u = .bool true ∧ Ext No h h' := by
  have hcon : ∀ {h' : Heap} {b : Nat} {t : TypeId}, Ext No h h' → h'[b]? = some (.cells ⟨[.func (.func fk) ⟨[]⟩ ⟨[]⟩]⟩ t (0, 0)) → CallsH Tryz.prog 140 ⟨[v, .func (.func 198) ⟨[]⟩ ⟨[.pointer (some ⟨b, 0, none⟩)]⟩]⟩ h' fun u h'' => u = .bool false ∧ Ext No h' h'' := by
    intro h' b t hx hb
    refine calls [(0, _), (1, _)] Tryz.func140 rfl Tryz.ntmps140 rfl ⟨rfl, rfl, trivial⟩ ?_
    all_goals (refine WC.sr ?_)
    all_goals (refine Go ?_)
    all_goals (refine WC.sr ?_)
    all_goals (refine Go ?_)
    all_goals (refine WL.call (vs := [_, _]) rfl (fun a w => Tryz.call190 a w) rfl (indexFunc_cel l (fun _ => false) (fun a w => Tryz.call198 a w) (fs := []) (us := [.pointer (some ⟨b, 0, none⟩)]) (hr.ext0 hx) (by unfold maxLen; omega) (fun x hxl h2 hx2 => everyf_cel x hcf (hx2.obj hb nos) (fun h3 hx3 => hp x hxl h3 ((hx.trans hx2).trans hx3)))) rfl rfl rfl ?_
               rintro _ h1 ⟨rfl, hx1⟩)
    all_goals (rw [idxP_no (fun _ _ => rfl)])
    all_goals (refine Go ?_)
    all_goals (refine Gs [(4, _)] ?_)
    all_goals (refine Gt ?_)
    all_goals (exact ⟨rfl, hx1⟩)
  obtain ⟨A, c, rfl, _⟩ := id hr
  refine calls [(0, _), (1, _)] Tryz.func152 rfl Tryz.ntmps152 rfl ⟨rfl, rfl, trivial⟩ ?_
  all_goals (refine WC.sr ?_)
  all_goals (refine WL.stepR (okE_box rfl) rfl rfl rfl ?_
             rintro _ h1 ⟨b1, rfl, hg1, hb1, hx1⟩)
  all_goals (refine Go ?_)
  all_goals (refine WC.sr ?_)
  all_goals (refine Go ?_)
  all_goals (refine goP 8 ?_ ?_ <;> first | exact ⟨⟩ | refine Hb.mk fun hb => ?_ | skip)
  all_goals (refine Gg ?_)
  all_goals (first | (refine WL.pass rfl rfl rfl ?_) | (refine WL.step (ok_makeFunc (vs := []) (us := [_]) rfl rfl) rfl rfl rfl ?_))
  all_goals (first
               | (refine WL.pass rfl rfl rfl ?_)
               | (refine WL.call (vs := [_, _]) rfl (fun a w => Tryz.call140 a w) rfl (hcon hx1 hb1) rfl rfl rfl ?_
                  rintro _ h2 ⟨rfl, hx2⟩))
  all_goals (refine Gg ?_)
  all_goals (refine Go ?_)
  all_goals (refine Gs [(4, _)] ?_)
  all_goals (refine Gt ?_)
  all_goals (exact ⟨rfl, hx1.trans hx2⟩)

set_option maxHeartbeats 2000000 in
set_option maxRecDepth 100000 in
theorem equal_col {h : Heap} {v w : Value} (l : List ColD) (hr : Rd h v 7 l.length (l.flatMap ColD.cells)) (hs : Rd h w 7 l.length (l.flatMap ColD.cells)) (hm : l.length ≤ maxLen) :
    CallsH Tryz.prog 200 ⟨[v, w]⟩ h fun u h' => u = .bool true ∧ h' = h := by
  obtain ⟨A, c, rfl, _⟩ := id hr
  obtain ⟨B, d, rfl, _⟩ := id hs
  unfold maxLen at hm
  refine calls [(0, _), (1, _)] Tryz.func200 rfl Tryz.ntmps200 rfl ⟨rfl, rfl, trivial⟩ ?_
  all_goals (refine WC.sr ?_)
  all_goals (refine Go ?_)
  all_goals (refine WC.seq ?_)
  all_goals (refine WC.sr ?_)
  all_goals (refine Go ?_)
  all_goals (refine Gs [(0, _), (1, _), (10, _)] ?_)
  all_goals (refine goC 1 2 ?_ ?_ <;> first | exact ⟨⟩ | refine Hb.mk fun hb => ?_ | skip)
  all_goals (first | (fail_if_success refine goB 1 ?_) | (
  refine goB 1 ?_
  all_goals (refine WC.sr ?_)
  all_goals (refine Go ?_)
  all_goals (refine Gt ?_)
  all_goals (exact ⟨rfl, rfl⟩)
  skip))
  all_goals (first | (fail_if_success refine goB 2 ?_) | (
  refine goB 2 ?_
  all_goals (refine WC.skip ?_)
  skip))
  all_goals (refine Gn ?_)
  all_goals (refine WC.seq ?_)
  all_goals (refine WC.sr ?_)
  all_goals (refine Go ?_)
  all_goals (refine WC.block ?_)
  -- loop 0: slots that turn [13], that stay [0, 1, 12]
  all_goals (refine WC.loopG (X := Nat) (fun x => ([(13, In (x : Int))] : Fr)) [(0, _), (1, _), (12, _)] (fun k h' => h' = h ∧ k ≤ l.length) (fun k => l.length - k) (0) ⟨rfl, rfl, rfl, rfl, trivial⟩ (by exact ⟨rfl, Nat.zero_le _⟩) ?_)
  all_goals (rintro k h9 ⟨hz, hk⟩
             subst h9)
  all_goals (refine WC.sub [(13, _), (0, _), (1, _), (12, _)] ⟨rfl, rfl, rfl, rfl, trivial⟩ ?_)
  all_goals (refine WC.sr ?_)
  all_goals (refine Go ?_)
  all_goals (refine WC.seq ?_)
  all_goals (refine goC 3 4 ?_ ?_ <;> first | exact ⟨⟩ | refine Hb.mk fun hb => ?_ | skip)
  all_goals (first | (fail_if_success refine goB 3 ?_) | (
  refine goB 3 ?_
  all_goals (refine WC.skip ?_)
  skip))
  all_goals (first | (fail_if_success refine goB 4 ?_) | (
  refine goB 4 ?_
  all_goals (refine WC.exit ?_)
  all_goals (repeat' (with_reducible first | refine thenP_x ?_ | refine blockP_miss rfl ?_ | refine blockP_hit ?_ | refine blockP_n ?_ | refine thenP_n ?_))
  all_goals (refine Br.out (i := 1000) ?_)
  skip))
  all_goals (refine Gn ?_)
  all_goals (first | (refine Br.keep ?_) | (refine WC.seq ?_))
  all_goals (first | (refine Br.keep ?_) | (refine WC.block ?_))
  all_goals (first | (refine Br.keep ?_) | (refine WC.sr ?_))
  all_goals (first
               | (refine Br.keep ?_)
               | (obtain ⟨bL, oL, hA, hbL, hat⟩ := Rd.at_ hr (by omega)
                  obtain ⟨bM, oM, hB, hbM, hbt⟩ := Rd.at_ hs (by omega)
                  obtain ⟨y, hy⟩ : ∃ y, l[k]? = some y := ⟨_, List.getElem?_eq_getElem (by omega)⟩
                  have at1 : At h bL (oL + k * 7) (ColD.cells y) := At.elem ColD.len hat hy
                  have at2 : At h bM (oM + k * 7) (ColD.cells y) := At.elem ColD.len hbt hy))
  all_goals (first | (refine Br.keep ?_) | (refine WL.step (ok_move rfl) rfl rfl rfl ?_))
  all_goals (refine Go ?_)
  all_goals (first | (refine Br.keep ?_) | (refine WC.seq ?_))
  all_goals (first | (refine Br.keep ?_) | (refine WC.drawE fol (by kernel_rfl) ?_))
  all_goals (first | (refine Br.keep ?_) | (refine WQ.stepE (ok_move rfl) rfl rfl rfl ?_))
  all_goals (first | (refine Br.keep ?_) | (refine WQ.stepE (ok_move rfl) rfl rfl rfl ?_))
  all_goals (first | (refine Br.keep ?_) | (refine WQ.stepE (ok_idxAddrA Tryz.underlying90 (fun w => Tryz.sizeOf179 w) rfl rfl rfl (by omega) (by first | rfl | assumption)) rfl rfl rfl ?_))
  all_goals (first | (refine Br.keep ?_) | (refine WQ.stepE (ok_loadN (fun w => Tryz.isAgg179 w) (fun w => Tryz.sizeOf179 w) rfl rfl (by assumption)) rfl rfl rfl ?_))
  all_goals (first | (refine Br.keep ?_) | (refine WQ.stepE (ok_move rfl) rfl rfl rfl ?_))
  all_goals (first | (refine Br.keep ?_) | (refine WQ.stepE (ok_move rfl) rfl rfl rfl ?_))
  all_goals (first | (refine Br.keep ?_) | (refine WQ.stepE (ok_idxAddrA Tryz.underlying90 (fun w => Tryz.sizeOf179 w) rfl rfl rfl (by omega) (by first | rfl | assumption)) rfl rfl rfl ?_))
  all_goals (first | (refine Br.keep ?_) | (refine WQ.stepE (ok_loadN (fun w => Tryz.isAgg179 w) (fun w => Tryz.sizeOf179 w) rfl rfl (by assumption)) rfl rfl rfl ?_))
  all_goals (first | (refine Br.keep ?_) | (refine WQ.stepE (OkP.nbool_f rfl (ok_neqF (us := y.sca) (vs := y.sca) ([.s, .i .i64, .i .i64, .i .i64, .i .i64, .i .i64, .i .i64]) (by kernel_rfl) rfl rfl rfl rfl)) rfl rfl rfl ?_))
  all_goals (first | (refine Br.keep ?_) | (refine WQ.nil ?_))
  all_goals (refine Gn ?_)
  all_goals (first | (refine Br.keep ?_) | (refine Gs [(0, _), (1, _), (12, _), (13, _), (24, _)] ?_))
  all_goals (first | (refine Br.keep ?_) | (refine goC 5 6 ?_ ?_ <;> first | exact ⟨⟩ | refine Hb.mk fun hb => ?_ | skip))
  all_goals (first | (fail_if_success refine goB 5 ?_) | (
  refine goB 5 ?_
  all_goals (refine WC.sr ?_)
  all_goals (refine Go ?_)
  all_goals (refine Gs [(4, _)] ?_)
  all_goals (refine Gt ?_)
  all_goals (exact ⟨rfl, rfl⟩)
  skip))
  all_goals (first | (fail_if_success refine goB 6 ?_) | (
  refine goB 6 ?_
  all_goals (refine WC.skip ?_)
  skip))
  all_goals (refine Gn ?_)
  all_goals (first | (refine Br.keep ?_) | (refine WC.region ?_))
  all_goals (refine Go ?_)
  all_goals (first | (refine Br.keep ?_) | (exact ⟨k + 1, ⟨rfl, rfl, rfl, rfl, trivial⟩, (by exact ⟨rfl, by omega⟩), (by omega)⟩))
  all_goals (try (refine Br.mk (i := 1000) ?_))
  all_goals (refine Gn ?_)
  all_goals (refine Gs [] ?_)
  all_goals (refine WC.sr ?_)
  all_goals (refine Go ?_)
  all_goals (refine Gt ?_)
  all_goals (exact ⟨rfl, rfl⟩)

set_option maxHeartbeats 2000000 in
set_option maxRecDepth 100000 in
theorem equal_fld {h : Heap} {v w : Value} (l : List FieldD) (hr : Rd h v 2 l.length (l.flatMap FieldD.cells)) (hs : Rd h w 2 l.length (l.flatMap FieldD.cells)) (hm : l.length ≤ maxLen) :
    CallsH Tryz.prog 201 ⟨[v, w]⟩ h fun u h' => u = .bool true ∧ h' = h := by
  obtain ⟨A, c, rfl, _⟩ := id hr
  obtain ⟨B, d, rfl, _⟩ := id hs
  unfold maxLen at hm
  refine calls [(0, _), (1, _)] Tryz.func201 rfl Tryz.ntmps201 rfl ⟨rfl, rfl, trivial⟩ ?_
  all_goals (refine WC.sr ?_)
  all_goals (refine Go ?_)
  all_goals (refine WC.seq ?_)
  all_goals (refine WC.sr ?_)
  all_goals (refine Go ?_)
  all_goals (refine Gs [(0, _), (1, _), (10, _)] ?_)
  all_goals (refine goC 1 2 ?_ ?_ <;> first | exact ⟨⟩ | refine Hb.mk fun hb => ?_ | skip)
  all_goals (first | (fail_if_success refine goB 1 ?_) | (
  refine goB 1 ?_
  all_goals (refine WC.sr ?_)
  all_goals (refine Go ?_)
  all_goals (refine Gt ?_)
  all_goals (exact ⟨rfl, rfl⟩)
  skip))
  all_goals (first | (fail_if_success refine goB 2 ?_) | (
  refine goB 2 ?_
  all_goals (refine WC.skip ?_)
  skip))
  all_goals (refine Gn ?_)
  all_goals (refine WC.seq ?_)
  all_goals (refine WC.sr ?_)
  all_goals (refine Go ?_)
  all_goals (refine WC.block ?_)
  -- loop 0: slots that turn [13], that stay [0, 1, 12]
  all_goals (refine WC.loopG (X := Nat) (fun x => ([(13, In (x : Int))] : Fr)) [(0, _), (1, _), (12, _)] (fun k h' => h' = h ∧ k ≤ l.length) (fun k => l.length - k) (0) ⟨rfl, rfl, rfl, rfl, trivial⟩ (by exact ⟨rfl, Nat.zero_le _⟩) ?_)
  all_goals (rintro k h9 ⟨hz, hk⟩
             subst h9)
  all_goals (refine WC.sub [(13, _), (0, _), (1, _), (12, _)] ⟨rfl, rfl, rfl, rfl, trivial⟩ ?_)
  all_goals (refine WC.sr ?_)
  all_goals (refine Go ?_)
  all_goals (refine WC.seq ?_)
  all_goals (refine goC 3 4 ?_ ?_ <;> first | exact ⟨⟩ | refine Hb.mk fun hb => ?_ | skip)
  all_goals (first | (fail_if_success refine goB 3 ?_) | (
  refine goB 3 ?_
  all_goals (refine WC.skip ?_)
  skip))
  all_goals (first | (fail_if_success refine goB 4 ?_) | (
  refine goB 4 ?_
  all_goals (refine WC.exit ?_)
  all_goals (repeat' (with_reducible first | refine thenP_x ?_ | refine blockP_miss rfl ?_ | refine blockP_hit ?_ | refine blockP_n ?_ | refine thenP_n ?_))
  all_goals (refine Br.out (i := 1000) ?_)
  skip))
  all_goals (refine Gn ?_)
  all_goals (first | (refine Br.keep ?_) | (refine WC.seq ?_))
  all_goals (first | (refine Br.keep ?_) | (refine WC.block ?_))
  all_goals (first | (refine Br.keep ?_) | (refine WC.sr ?_))
  all_goals (first
               | (refine Br.keep ?_)
               | (obtain ⟨bL, oL, hA, hbL, hat⟩ := Rd.at_ hr (by omega)
                  obtain ⟨bM, oM, hB, hbM, hbt⟩ := Rd.at_ hs (by omega)
                  obtain ⟨y, hy⟩ : ∃ y, l[k]? = some y := ⟨_, List.getElem?_eq_getElem (by omega)⟩
                  have at1 : At h bL (oL + k * 2) (FieldD.cells y) := At.elem FieldD.len hat hy
                  have at2 : At h bM (oM + k * 2) (FieldD.cells y) := At.elem FieldD.len hbt hy))
  all_goals (first | (refine Br.keep ?_) | (refine WL.step (ok_move rfl) rfl rfl rfl ?_))
  all_goals (refine Go ?_)
  all_goals (first | (refine Br.keep ?_) | (refine WC.seq ?_))
  all_goals (first | (refine Br.keep ?_) | (refine WC.drawE fol (by kernel_rfl) ?_))
  all_goals (first | (refine Br.keep ?_) | (refine WQ.stepE (ok_move rfl) rfl rfl rfl ?_))
  all_goals (first | (refine Br.keep ?_) | (refine WQ.stepE (ok_move rfl) rfl rfl rfl ?_))
  all_goals (first | (refine Br.keep ?_) | (refine WQ.stepE (ok_idxAddrA Tryz.underlying88 (fun w => Tryz.sizeOf152 w) rfl rfl rfl (by omega) (by first | rfl | assumption)) rfl rfl rfl ?_))
  all_goals (first | (refine Br.keep ?_) | (refine WQ.stepE (ok_loadN (fun w => Tryz.isAgg152 w) (fun w => Tryz.sizeOf152 w) rfl rfl (by assumption)) rfl rfl rfl ?_))
  all_goals (first | (refine Br.keep ?_) | (refine WQ.stepE (ok_move rfl) rfl rfl rfl ?_))
  all_goals (first | (refine Br.keep ?_) | (refine WQ.stepE (ok_move rfl) rfl rfl rfl ?_))
  all_goals (first | (refine Br.keep ?_) | (refine WQ.stepE (ok_idxAddrA Tryz.underlying88 (fun w => Tryz.sizeOf152 w) rfl rfl rfl (by omega) (by first | rfl | assumption)) rfl rfl rfl ?_))
  all_goals (first | (refine Br.keep ?_) | (refine WQ.stepE (ok_loadN (fun w => Tryz.isAgg152 w) (fun w => Tryz.sizeOf152 w) rfl rfl (by assumption)) rfl rfl rfl ?_))
  all_goals (first | (refine Br.keep ?_) | (refine WQ.stepE (OkP.nbool_f rfl (ok_neqF (us := y.sca) (vs := y.sca) ([.i .u8, .s]) (by kernel_rfl) rfl rfl rfl rfl)) rfl rfl rfl ?_))
  all_goals (first | (refine Br.keep ?_) | (refine WQ.nil ?_))
  all_goals (refine Gn ?_)
  all_goals (first | (refine Br.keep ?_) | (refine Gs [(0, _), (1, _), (12, _), (13, _), (24, _)] ?_))
  all_goals (first | (refine Br.keep ?_) | (refine goC 5 6 ?_ ?_ <;> first | exact ⟨⟩ | refine Hb.mk fun hb => ?_ | skip))
  all_goals (first | (fail_if_success refine goB 5 ?_) | (
  refine goB 5 ?_
  all_goals (refine WC.sr ?_)
  all_goals (refine Go ?_)
  all_goals (refine Gs [(4, _)] ?_)
  all_goals (refine Gt ?_)
  all_goals (exact ⟨rfl, rfl⟩)
  skip))
  all_goals (first | (fail_if_success refine goB 6 ?_) | (
  refine goB 6 ?_
  all_goals (refine WC.skip ?_)
  skip))
  all_goals (refine Gn ?_)
  all_goals (first | (refine Br.keep ?_) | (refine WC.region ?_))
  all_goals (refine Go ?_)
  all_goals (first | (refine Br.keep ?_) | (exact ⟨k + 1, ⟨rfl, rfl, rfl, rfl, trivial⟩, (by exact ⟨rfl, by omega⟩), (by omega)⟩))
  all_goals (try (refine Br.mk (i := 1000) ?_))
  all_goals (refine Gn ?_)
  all_goals (refine Gs [] ?_)
  all_goals (refine WC.sr ?_)
  all_goals (refine Go ?_)
  all_goals (refine Gt ?_)
  all_goals (exact ⟨rfl, rfl⟩)

set_option maxHeartbeats 2000000 in
set_option maxRecDepth 100000 in
theorem allf_ok {h : Heap} (b : BndD) (hb : b.ok) : CallsH Tryz.prog 233 ⟨[.agg ⟨b.cells⟩]⟩ h fun u h' => u = .bool false ∧ Ext No h h' := by
  obtain ⟨n, lo, hi⟩ := b
  obtain ⟨h1, h2⟩ := hb
  simp only at h1 h2
  dsimp only [BndD.cells]
  refine calls [(0, _)] Tryz.func233 rfl Tryz.ntmps233 rfl ⟨rfl, trivial⟩ ?_
  all_goals (refine WC.sr ?_)
  all_goals (refine WL.stepR (okE_box rfl) rfl rfl rfl ?_
             rintro _ h3 ⟨b3, rfl, hg3, hb3, hx3⟩)
  all_goals (refine Go ?_)
  all_goals (refine WC.sr ?_)
  all_goals (refine Go ?_)
  all_goals (refine Ld ?_)
  all_goals (refine Go ?_)
  all_goals (refine Ld ?_)
  all_goals (refine Go ?_)
  all_goals (refine goP 8 ?_ ?_ <;> first | exact ⟨⟩ | refine Hb.mk fun hb => ?_ | skip)
  all_goals (refine Gg ?_)
  all_goals (first | (refine WL.pass rfl rfl rfl ?_) | (refine Ld ?_))
  all_goals (refine Gg ?_)
  all_goals (first | (refine WL.pass rfl rfl rfl ?_) | (refine Ld ?_))
  all_goals (refine Gg ?_)
  all_goals (refine Go ?_)
  all_goals (refine Gs [(2, _)] ?_)
  all_goals (refine Gt ?_)
  all_goals (exact ⟨rfl, hx3⟩)
set_option maxHeartbeats 2000000 in
set_option maxRecDepth 100000 in
theorem all_ok {h : Heap} {v : Value} (l : List BndD) (hr : Rd h v 3 l.length (l.flatMap BndD.cells)) (hm : l.length ≤ maxLen) (hl : ∀ b ∈ l, b.ok) : CallsH Tryz.prog 195 ⟨[v]⟩ h fun u h' => u = .bool true ∧ Ext No h h' := by
  have hcon : CallsH Tryz.prog 232 ⟨[v, .func (.func 233) ⟨[]⟩ ⟨[]⟩]⟩ h fun u h' => u = .bool false ∧ Ext No h h' := by
    refine calls [(0, _), (1, _)] Tryz.func232 rfl Tryz.ntmps232 rfl ⟨rfl, rfl, trivial⟩ ?_
    all_goals (refine WC.sr ?_)
    all_goals (refine Go ?_)
    all_goals (refine WC.sr ?_)
    all_goals (refine Go ?_)
    all_goals (refine WL.call (vs := [_, _]) rfl (fun a w => Tryz.call262 a w) rfl (indexFunc_bnd l (fun _ => false) (fun a w => Tryz.call233 a w) (fs := []) (us := []) hr hm (fun x hx h' hx' => allf_ok x (hl x hx))) rfl rfl rfl ?_
               rintro _ h1 ⟨rfl, hx1⟩)
    all_goals (rw [idxP_no (fun _ _ => rfl)])
    all_goals (refine Go ?_)
    all_goals (refine Gs [(4, _)] ?_)
    all_goals (refine Gt ?_)
    all_goals (exact ⟨rfl, hx1⟩)
  refine calls [(0, _)] Tryz.func195 rfl Tryz.ntmps195 rfl ⟨rfl, trivial⟩ ?_
  all_goals (refine WC.sr ?_)
  all_goals (refine Go ?_)
  all_goals (refine WC.sr ?_)
  all_goals (refine Go ?_)
  all_goals (refine WL.call (vs := [_, _]) rfl (fun a w => Tryz.call232 a w) rfl (hcon) rfl rfl rfl ?_
             rintro _ h1 ⟨rfl, hx1⟩)
  all_goals (refine Go ?_)
  all_goals (refine Gs [(2, _)] ?_)
  all_goals (refine Gt ?_)
  all_goals (exact ⟨rfl, hx1⟩)
/-- A column that may be. -/
def ColD.okB (c : ColD) : Prop := cleanB c.nm = true ∧ (0 ≤ c.t ∧ c.t ≤ 4294967295) ∧ (0 ≤ c.a ∧ c.a ≤ 65535) ∧ (0 ≤ c.o ∧ c.o ≤ 4294967295) ∧ (-32768 ≤ c.s ∧ c.s ≤ 32767) ∧ (-2147483648 ≤ c.m ∧ c.m ≤ 2147483647) ∧ (0 ≤ c.f ∧ c.f ≤ 65535)
set_option maxHeartbeats 2000000 in
set_option maxRecDepth 100000 in
theorem column_ok {h : Heap} (c : ColD) (hc : c.okB) : CallsH Tryz.prog 149 ⟨[.agg ⟨c.cells⟩]⟩ h fun u h' => u = .bool true ∧ Ext No h h' := by
  obtain ⟨nm, t, a, o, s, m, f⟩ := c
  obtain ⟨h1, h2, h3, h4, h5, h6, h7⟩ := hc
  simp only at h1 h2 h3 h4 h5 h6 h7
  dsimp only [ColD.cells]
  refine calls [(0, _)] Tryz.func149 rfl Tryz.ntmps149 rfl ⟨rfl, trivial⟩ ?_
  all_goals (refine WC.sr ?_)
  all_goals (refine WL.stepR (okE_box rfl) rfl rfl rfl ?_
             rintro _ g1 ⟨b1, rfl, hg1, hb1, hx1⟩)
  all_goals (refine Go ?_)
  all_goals (refine WC.sr ?_)
  all_goals (refine Go ?_)
  all_goals (refine Ld ?_)
  all_goals (refine WL.call (vs := [_]) rfl (fun a w => Tryz.call143 a w) rfl ((clean_any nm).as (congrArg Value.bool h1)) rfl rfl rfl ?_
             rintro _ hz ⟨rfl, _⟩
             subst hz)
  all_goals (refine Go ?_)
  all_goals (refine goP 6 ?_ ?_ <;> first | exact ⟨⟩ | refine Hb.mk fun hb => ?_ | skip)
  all_goals (refine Gg ?_)
  all_goals (first | (refine WL.pass rfl rfl rfl ?_) | (refine Ld ?_))
  all_goals (first | (refine WL.pass rfl rfl rfl ?_) | (refine WL.step (ok_buildF (vs := [_, _, _]) (cs := [_, _, _]) (fun | [a0, a1, a2] => [a0, a1, a2] | _ => []) rfl rfl (by kernel_rfl)) rfl rfl rfl ?_))
  all_goals (refine Gg ?_)
  all_goals (first | (refine WL.pass rfl rfl rfl ?_) | (refine Ld ?_))
  all_goals (first | (refine WL.pass rfl rfl rfl ?_) | (refine WL.step (ok_buildF (vs := [_, _, _]) (cs := [_, _, _]) (fun | [a0, a1, a2] => [a0, a1, a2] | _ => []) rfl rfl (by kernel_rfl)) rfl rfl rfl ?_))
  all_goals (refine Gg ?_)
  all_goals (first | (refine WL.pass rfl rfl rfl ?_) | (refine Ld ?_))
  all_goals (first | (refine WL.pass rfl rfl rfl ?_) | (refine WL.step (ok_buildF (vs := [_, _, _]) (cs := [_, _, _]) (fun | [a0, a1, a2] => [a0, a1, a2] | _ => []) rfl rfl (by kernel_rfl)) rfl rfl rfl ?_))
  all_goals (refine Gg ?_)
  all_goals (first | (refine WL.pass rfl rfl rfl ?_) | (refine Ld ?_))
  all_goals (first | (refine WL.pass rfl rfl rfl ?_) | (refine WL.step (ok_buildF (vs := [_, _, _]) (cs := [_, _, _]) (fun | [a0, a1, a2] => [a0, a1, a2] | _ => []) rfl rfl (by kernel_rfl)) rfl rfl rfl ?_))
  all_goals (refine Gg ?_)
  all_goals (first | (refine WL.pass rfl rfl rfl ?_) | (refine Ld ?_))
  all_goals (first | (refine WL.pass rfl rfl rfl ?_) | (refine WL.step (ok_buildF (vs := [_, _, _]) (cs := [_, _, _]) (fun | [a0, a1, a2] => [a0, a1, a2] | _ => []) rfl rfl (by kernel_rfl)) rfl rfl rfl ?_))
  all_goals (refine Gg ?_)
  all_goals (first | (refine WL.pass rfl rfl rfl ?_) | (refine Ld ?_))
  all_goals (first | (refine WL.pass rfl rfl rfl ?_) | (refine WL.step (ok_buildF (vs := [_, _, _]) (cs := [_, _, _]) (fun | [a0, a1, a2] => [a0, a1, a2] | _ => []) rfl rfl (by kernel_rfl)) rfl rfl rfl ?_))
  all_goals (first
               | (refine WL.pass rfl rfl rfl ?_)
               | (refine WL.stepR (okE_buildSlice (vs := [_, _, _, _, _, _]) (cs := [_, _, _, _, _, _, _, _, _, _, _, _, _, _, _, _, _, _]) (fun | [.agg ⟨[a0, a1, a2]⟩, .agg ⟨[a3, a4, a5]⟩, .agg ⟨[a6, a7, a8]⟩, .agg ⟨[a9, a10, a11]⟩, .agg ⟨[a12, a13, a14]⟩, .agg ⟨[a15, a16, a17]⟩] => [a0, a1, a2, a3, a4, a5, a6, a7, a8, a9, a10, a11, a12, a13, a14, a15, a16, a17] | _ => []) Tryz.underlying314 rfl rfl (by kernel_rfl)) rfl rfl rfl ?_
                  rintro _ g2 ⟨b2, rfl, hg2, hb2, hx2⟩))
  all_goals (first
               | (refine WL.pass rfl rfl rfl ?_)
               | (refine WL.call (vs := [_]) rfl (fun a w => Tryz.call195 a w) rfl (all_ok [⟨t, 0, 4294967295⟩, ⟨a, 0, 65535⟩, ⟨o, 0, 4294967295⟩, ⟨s, -32768, 32767⟩, ⟨m, -2147483648, 2147483647⟩, ⟨f, 0, 65535⟩] (rd_blk hb2 rfl) (by simp [maxLen]) (by intro b hb; simp only [List.mem_cons, List.not_mem_nil, or_false] at hb; rcases hb with rfl | rfl | rfl | rfl | rfl | rfl <;> assumption)) rfl rfl rfl ?_
                  rintro _ g3 ⟨rfl, hx3⟩))
  all_goals (refine Go ?_)
  all_goals (refine Gs [(2, _)] ?_)
  all_goals (refine Gt ?_)
  all_goals (exact ⟨rfl, (hx1.trans hx2).trans hx3⟩)
def FieldD.okB (c : FieldD) : Prop := c.k ≠ 0 ∧ cleanB c.t = true
set_option maxHeartbeats 2000000 in
set_option maxRecDepth 100000 in
theorem field_ok {h : Heap} (c : FieldD) (hc : c.okB) : CallsH Tryz.prog 151 ⟨[.agg ⟨c.cells⟩]⟩ h fun u h' => u = .bool true ∧ Ext No h h' := by
  obtain ⟨k, t⟩ := c
  obtain ⟨h1, h2⟩ := hc
  simp only at h1 h2
  dsimp only [FieldD.cells]
  refine calls [(0, _)] Tryz.func151 rfl Tryz.ntmps151 rfl ⟨rfl, trivial⟩ ?_
  all_goals (refine WC.sr ?_)
  all_goals (refine WL.stepR (okE_box rfl) rfl rfl rfl ?_
             rintro _ g1 ⟨b1, rfl, hg1, hb1, hx1⟩)
  all_goals (refine Go ?_)
  all_goals (refine WC.sr ?_)
  all_goals (refine Go ?_)
  all_goals (refine Ld ?_)
  all_goals (refine Go ?_)
  all_goals (refine goP 6 ?_ ?_ <;> first | exact ⟨⟩ | refine Hb.mk fun hb => ?_ | skip)
  all_goals (refine Gg ?_)
  all_goals (first | (refine WL.pass rfl rfl rfl ?_) | (refine Ld ?_))
  all_goals (first
               | (refine WL.pass rfl rfl rfl ?_)
               | (refine WL.call (vs := [_]) rfl (fun a w => Tryz.call143 a w) rfl ((clean_any t).as (congrArg Value.bool h2)) rfl rfl rfl ?_
                  rintro _ hz ⟨rfl, _⟩
                  subst hz))
  all_goals (refine Go ?_)
  all_goals (refine Gs [(2, _)] ?_)
  all_goals (refine Gt ?_)
  all_goals (exact ⟨rfl, hx1⟩)
def Cel.okB (c : Cel) : Prop := (c.null = true → c.bytes.length = 0) ∧ c.bytes.length ≤ 1048576
set_option maxHeartbeats 2000000 in
set_option maxRecDepth 100000 in
theorem cell_ok {h h0 : Heap} (c : Cel) (hk : c.ok h0) (hc : c.okB) : CallsH Tryz.prog 153 ⟨[.agg ⟨c.cells⟩]⟩ h fun u h' => u = .bool true ∧ Ext No h h' := by
  obtain ⟨nl, v, bs⟩ := c
  obtain ⟨h1, h2⟩ := hc
  simp only at h1 h2
  obtain ⟨A, cc, e, _⟩ := hk.1
  simp only at e
  subst e
  dsimp only [Cel.cells]
  cases nl
  all_goals try have h3 := h1 rfl
  all_goals
    refine calls [(0, _)] Tryz.func153 rfl Tryz.ntmps153 rfl ⟨rfl, trivial⟩ ?_
    all_goals (refine WC.sr ?_)
    all_goals (refine WL.stepR (okE_box rfl) rfl rfl rfl ?_
               rintro _ g1 ⟨b1, rfl, hg1, hb1, hx1⟩)
    all_goals (refine Go ?_)
    all_goals (refine WC.sr ?_)
    all_goals (refine Go ?_)
    all_goals (refine Ld ?_)
    all_goals (refine Go ?_)
    all_goals (refine goP 5 ?_ ?_ <;> first | exact ⟨⟩ | refine Hb.mk fun hb => ?_ | skip)
    all_goals (refine Gg ?_)
    all_goals (first | (refine WL.pass rfl rfl rfl ?_) | (refine Ld ?_))
    all_goals (refine Gg ?_)
    all_goals (refine Go ?_)
    all_goals (refine goP 12 ?_ ?_ <;> first | exact ⟨⟩ | refine Hb.mk fun hb => ?_ | skip)
    all_goals (refine Gg ?_)
    all_goals (first | (refine WL.pass rfl rfl rfl ?_) | (refine Ld ?_))
    all_goals (refine Gg ?_)
    all_goals (refine Go ?_)
    all_goals (refine Gs [(2, _)] ?_)
    all_goals (refine Gt ?_)
    all_goals (exact ⟨rfl, hx1⟩)
set_option maxHeartbeats 2000000 in
set_option maxRecDepth 100000 in
theorem oid_ok {h : Heap} (n : Int) (h0 : 0 ≤ n) (h1 : n ≤ 4294967295) : CallsH Tryz.prog 155 ⟨[In n]⟩ h fun u h' => u = .bool true ∧ h' = h := by
  refine calls [(0, _)] Tryz.func155 rfl Tryz.ntmps155 rfl ⟨rfl, trivial⟩ ?_
  all_goals (refine WC.sr ?_)
  all_goals (refine Go ?_)
  all_goals (refine WC.sr ?_)
  all_goals (refine Go ?_)
  all_goals (refine goP 5 ?_ ?_ <;> first | exact ⟨⟩ | refine Hb.mk fun hb => ?_ | skip)
  all_goals (refine Gg ?_)
  all_goals (refine Go ?_)
  all_goals (refine Gs [(2, _)] ?_)
  all_goals (refine Gt ?_)
  all_goals (exact ⟨rfl, rfl⟩)
set_option maxHeartbeats 2000000 in
set_option maxRecDepth 100000 in
theorem every_int {h : Heap} {v : Value} (l : List Int) (hr : Rd h v 1 l.length (ints l)) (hl : l.length ≤ 65535) (hp : ∀ n ∈ l, 0 ≤ n ∧ n ≤ 4294967295) :
    CallsH Tryz.prog 154 ⟨[v, .func (.func 155) ⟨[]⟩ ⟨[]⟩]⟩ h fun u h' => u = .bool true ∧ Ext No h h' := by
  have hf : ∀ {h : Heap} {b : Nat} {t : TypeId} (x : Int), x ∈ l → h[b]? = some (.cells ⟨[.func (.func 155) ⟨[]⟩ ⟨[]⟩]⟩ t (0, 0)) → CallsH Tryz.prog 199 ⟨[In x, .pointer (some ⟨b, 0, none⟩)]⟩ h fun u h' => u = .bool false ∧ h' = h := by
    intro h b t x hx hb
    refine calls [(0, _), (1, _)] Tryz.func199 rfl Tryz.ntmps199 rfl ⟨rfl, rfl, trivial⟩ ?_
    all_goals (refine WC.sr ?_)
    all_goals (refine Go ?_)
    all_goals (refine WC.sr ?_)
    all_goals (refine Ld ?_)
    all_goals (refine Go ?_)
    all_goals (refine WL.callT (vs := [_]) rfl rfl (fun a w => Tryz.call155 a w) rfl (oid_ok x (hp x hx).1 (hp x hx).2) rfl rfl rfl ?_
               rintro _ hz ⟨rfl, _⟩
               subst hz)
    all_goals (refine Go ?_)
    all_goals (refine Gs [(3, _)] ?_)
    all_goals (refine Gt ?_)
    all_goals (exact ⟨rfl, rfl⟩)
  obtain ⟨A, c, rfl, _⟩ := id hr
  have hcon : ∀ {h' : Heap} {b : Nat} {t : TypeId}, Ext No h h' → h'[b]? = some (.cells ⟨[.func (.func 155) ⟨[]⟩ ⟨[]⟩]⟩ t (0, 0)) → CallsH Tryz.prog 137 ⟨[.slice A l.length c, .func (.func 199) ⟨[]⟩ ⟨[.pointer (some ⟨b, 0, none⟩)]⟩]⟩ h' fun u h'' => u = .bool false ∧ h'' = h' := by
    intro h' b t hx hb
    refine calls [(0, _), (1, _)] Tryz.func137 rfl Tryz.ntmps137 rfl ⟨rfl, rfl, trivial⟩ ?_
    all_goals (refine WC.sr ?_)
    all_goals (refine Go ?_)
    all_goals (refine WC.sr ?_)
    all_goals (refine Go ?_)
    all_goals (refine WL.call (vs := [_, _]) rfl (fun a w => Tryz.call189 a w) rfl (indexFunc_int l (fun _ => false) (fun a w => Tryz.call199 a w) (fs := []) (us := [.pointer (some ⟨b, 0, none⟩)]) (hr.ext0 hx) (by unfold maxLen; omega) (fun x hxl => hf x hxl hb)) rfl rfl rfl ?_
               rintro _ hz ⟨rfl, _⟩
               subst hz)
    all_goals (rw [idxP_no (fun _ _ => rfl)])
    all_goals (refine Go ?_)
    all_goals (refine Gs [(4, _)] ?_)
    all_goals (refine Gt ?_)
    all_goals (exact ⟨rfl, rfl⟩)
  refine calls [(0, _), (1, _)] Tryz.func154 rfl Tryz.ntmps154 rfl ⟨rfl, rfl, trivial⟩ ?_
  all_goals (refine WC.sr ?_)
  all_goals (refine WL.stepR (okE_box rfl) rfl rfl rfl ?_
             rintro _ h1 ⟨b1, rfl, hg1, hb1, hx1⟩)
  all_goals (refine Go ?_)
  all_goals (refine WC.sr ?_)
  all_goals (refine Go ?_)
  all_goals (refine goP 8 ?_ ?_ <;> first | exact ⟨⟩ | refine Hb.mk fun hb => ?_ | skip)
  all_goals (refine Gg ?_)
  all_goals (first | (refine WL.pass rfl rfl rfl ?_) | (refine WL.step (ok_makeFunc (vs := []) (us := [_]) rfl rfl) rfl rfl rfl ?_))
  all_goals (first
               | (refine WL.pass rfl rfl rfl ?_)
               | (refine WL.call (vs := [_, _]) rfl (fun a w => Tryz.call137 a w) rfl (hcon hx1 hb1) rfl rfl rfl ?_
                  rintro _ hz ⟨rfl, _⟩
                  subst hz))
  all_goals (refine Gg ?_)
  all_goals (refine Go ?_)
  all_goals (refine Gs [(4, _)] ?_)
  all_goals (refine Gt ?_)
  all_goals (exact ⟨rfl, hx1⟩)
set_option maxHeartbeats 2000000 in
set_option maxRecDepth 100000 in
theorem bytes_equal {h : Heap} {v w : Value} (l m : List UInt8) (hr : Rd h v 1 l.length (bys l)) (hs : Rd h w 1 m.length (bys m)) :
    CallsH Tryz.prog 21 ⟨[v, w]⟩ h fun u h' => u = .bool (decide (l = m)) ∧ h' = h := by
  obtain ⟨A, c, rfl, _⟩ := id hr
  obtain ⟨B, d, rfl, _⟩ := id hs
  by_cases e : l = m
  all_goals
    refine calls [(0, _), (1, _)] Tryz.func21 rfl Tryz.ntmps21 rfl ⟨rfl, rfl, trivial⟩ ?_
    all_goals (refine WC.sr ?_)
    all_goals (refine Go ?_)
    all_goals (refine WC.sr ?_)
    all_goals (refine Go ?_)
    all_goals (refine WL.step (ok_convBS Tryz.underlying22 Tryz.underlying5 Tryz.underlying9 rfl hr) rfl rfl rfl ?_)
    all_goals (refine Go ?_)
    all_goals (refine WL.step (ok_convBS Tryz.underlying22 Tryz.underlying5 Tryz.underlying9 rfl hs) rfl rfl rfl ?_)
    all_goals (refine Go ?_)
    all_goals (refine Gs [(4, _)] ?_)
    all_goals (refine Gt ?_)
    all_goals (exact ⟨by simp [e], rfl⟩)
set_option maxHeartbeats 2000000 in
set_option maxRecDepth 100000 in
theorem alike_back {h : Heap} (a b : Cel) (ha : a.ok h) (hb : b.ok h) (e : a.pl = b.pl) :
    CallsH Tryz.prog 202 ⟨[.agg ⟨a.cells⟩, .agg ⟨b.cells⟩]⟩ h fun u h' => u = .bool true ∧ Ext No h h' := by
  obtain ⟨n1, v1, l1⟩ := a
  obtain ⟨n2, v2, l2⟩ := b
  simp only [Cel.pl, Prod.mk.injEq] at e
  obtain ⟨rfl, rfl⟩ := e
  obtain ⟨ha, _⟩ := ha
  obtain ⟨hb, _⟩ := hb
  simp only at ha hb
  obtain ⟨A, c, rfl, _⟩ := id ha
  obtain ⟨B, d, rfl, _⟩ := id hb
  dsimp only [Cel.cells]
  cases n1
  all_goals
    refine calls [(0, _), (1, _)] Tryz.func202 rfl Tryz.ntmps202 rfl ⟨rfl, rfl, trivial⟩ ?_
    all_goals (refine WC.sr ?_)
    all_goals (refine WL.stepR (okE_box rfl) rfl rfl rfl ?_
               rintro _ h1 ⟨b1, rfl, hg1, hb1, hx1⟩)
    all_goals (refine WL.stepR (okE_box rfl) rfl rfl rfl ?_
               rintro _ h2 ⟨b2, rfl, hg2, hb2, hx2⟩)
    all_goals (have hb1' := hx2.obj hb1 nos
               have hx := hx1.trans hx2)
    all_goals (refine Go ?_)
    all_goals (refine WC.sr ?_)
    all_goals (refine Go ?_)
    all_goals (refine Ld ?_)
    all_goals (refine Go ?_)
    all_goals (refine Ld ?_)
    all_goals (first | (refine WL.step (OkP.bool_t (by rfl) (ok_eqlB Tryz.underlying4 rfl rfl)) rfl rfl rfl ?_) | (refine WL.step (OkP.bool_f (by decide) (ok_eqlB Tryz.underlying4 rfl rfl)) rfl rfl rfl ?_) | (refine WL.step (ok_eqlB Tryz.underlying4 rfl rfl) rfl rfl rfl ?_))
    all_goals (refine Go ?_)
    all_goals (refine goP 10 ?_ ?_ <;> first | exact ⟨⟩ | refine Hb.mk fun hb => ?_ | skip)
    all_goals (refine Gg ?_)
    all_goals (first | (refine WL.pass rfl rfl rfl ?_) | (refine Ld ?_))
    all_goals (refine Gg ?_)
    all_goals (first | (refine WL.pass rfl rfl rfl ?_) | (refine Ld ?_))
    all_goals (first
                 | (refine WL.pass rfl rfl rfl ?_)
                 | (refine WL.call (vs := [_, _]) rfl (fun a w => Tryz.call21 a w) rfl ((bytes_equal l1 l1 (ha.ext0 hx) (hb.ext0 hx)).as (congrArg Value.bool (decide_eq_true rfl))) rfl rfl rfl ?_
                    rintro _ hz ⟨rfl, _⟩
                    subst hz))
    all_goals (refine Go ?_)
    all_goals (refine Gs [(4, _)] ?_)
    all_goals (refine Gt ?_)
    all_goals (exact ⟨rfl, hx⟩)
theorem pl_get {α β : Type} {F : α → β} {l m : List α} {k : Nat} {a b : α} (e : l.map F = m.map F) (ha : l[k]? = some a) (hb : m[k]? = some b) : F a = F b := by
  have := congrArg (·[k]?) e
  simpa [ha, hb] using this
set_option maxHeartbeats 2000000 in
set_option maxRecDepth 100000 in
theorem equalF_cel {h : Heap} {v w : Value} (l m : List Cel) (hl : Cels h v l) (hm : Cels h w m) (e : l.map Cel.pl = m.map Cel.pl) :
    CallsH Tryz.prog 145 ⟨[v, w, .func (.func 202) ⟨[]⟩ ⟨[]⟩]⟩ h fun u h' => u = .bool true ∧ Ext No h h' := by
  obtain ⟨hr, ⟨hlm, A, c, rfl, _⟩, ho⟩ := hl
  obtain ⟨hs, ⟨hmm, B, d, rfl, _⟩, hp⟩ := hm
  have hlen : m.length = l.length := by simpa using (congrArg List.length e).symm
  unfold reachBytes at hlm
  refine calls [(0, _), (1, _), (2, _)] Tryz.func145 rfl Tryz.ntmps145 rfl ⟨rfl, rfl, rfl, trivial⟩ ?_
  all_goals (refine WC.sr ?_)
  all_goals (refine Go ?_)
  all_goals (refine WC.seq ?_)
  all_goals (refine WC.sr ?_)
  all_goals (refine Go ?_)
  all_goals (refine Gs [(0, _), (1, _), (2, _), (14, _)] ?_)
  all_goals (refine goC 1 2 ?_ ?_ <;> first | exact ⟨⟩ | refine Hb.mk fun hb => ?_ | skip)
  all_goals (first | (fail_if_success refine goB 1 ?_) | (
  refine goB 1 ?_
  all_goals (refine WC.sr ?_)
  all_goals (refine Go ?_)
  all_goals (refine Gs [(6, _)] ?_)
  all_goals (refine Gt ?_)
  all_goals (exact ⟨rfl, hx1⟩)
  skip))
  all_goals (first | (fail_if_success refine goB 2 ?_) | (
  refine goB 2 ?_
  all_goals (refine WC.skip ?_)
  skip))
  all_goals (refine Gn ?_)
  all_goals (refine WC.seq ?_)
  all_goals (refine WC.sr ?_)
  all_goals (refine Go ?_)
  all_goals (refine WC.block ?_)
  -- loop 0: slots that turn [17], that stay [1, 2, 15, 16]
  all_goals (refine WC.loopG (X := Nat) (fun x => ([(17, In (x : Int))] : Fr)) [(1, _), (2, _), (15, _), (16, _)] (fun k h' => Ext No h h' ∧ k ≤ l.length) (fun k => l.length - k) (0) ⟨rfl, rfl, rfl, rfl, rfl, trivial⟩ (by exact ⟨.refl _ _, Nat.zero_le _⟩) ?_)
  all_goals (rintro k h1 ⟨hx1, hk⟩)
  all_goals (refine WC.sub [(17, _), (1, _), (2, _), (15, _), (16, _)] ⟨rfl, rfl, rfl, rfl, rfl, trivial⟩ ?_)
  all_goals (refine WC.sr ?_)
  all_goals (refine Go ?_)
  all_goals (refine WC.seq ?_)
  all_goals (refine goC 3 4 ?_ ?_ <;> first | exact ⟨⟩ | refine Hb.mk fun hb => ?_ | skip)
  all_goals (first | (fail_if_success refine goB 3 ?_) | (
  refine goB 3 ?_
  all_goals (refine WC.skip ?_)
  skip))
  all_goals (first | (fail_if_success refine goB 4 ?_) | (
  refine goB 4 ?_
  all_goals (refine WC.exit ?_)
  all_goals (repeat' (with_reducible first | refine thenP_x ?_ | refine blockP_miss rfl ?_ | refine blockP_hit ?_ | refine blockP_n ?_ | refine thenP_n ?_))
  all_goals (refine Br.out (i := 1000) ?_)
  skip))
  all_goals (refine Gn ?_)
  all_goals (first | (refine Br.keep ?_) | (refine WC.seq ?_))
  all_goals (first | (refine Br.keep ?_) | (refine WC.block ?_))
  all_goals (first | (refine Br.keep ?_) | (refine WC.sr ?_))
  all_goals (first
               | (refine Br.keep ?_)
               | (obtain ⟨bL, oL, hA, hbL, hat⟩ := Rd.at_ (hr.ext0 hx1) (by omega)
                  obtain ⟨bM, oM, hB, hbM, hbt⟩ := Rd.at_ (hs.ext0 hx1) (by omega)
                  obtain ⟨y, hy⟩ : ∃ y, l[k]? = some y := ⟨_, List.getElem?_eq_getElem (by omega)⟩
                  obtain ⟨z, hz⟩ : ∃ y, m[k]? = some y := ⟨_, List.getElem?_eq_getElem (by omega)⟩
                  have hyo := ho y (List.mem_of_getElem? hy)
                  have hzo := hp z (List.mem_of_getElem? hz)
                  have at1 : At h1 bL (oL + k * 2) y.cells := At.elem Cel.len hat hy
                  have at2 : At h1 bM (oM + k * 2) z.cells := At.elem Cel.len hbt hz
                  have one1 : ∀ v ∈ y.cells, v.oneCell' = true := by obtain ⟨A1, c1, e1, _⟩ := hyo.1; simp [Cel.cells, Value.oneCell', e1]
                  have one2 : ∀ v ∈ z.cells, v.oneCell' = true := by obtain ⟨A1, c1, e1, _⟩ := hzo.1; simp [Cel.cells, Value.oneCell', e1]))
  all_goals (first | (refine Br.keep ?_) | (refine WL.step (ok_move rfl) rfl rfl rfl ?_))
  all_goals (first | (refine Br.keep ?_) | (refine WL.step (ok_idxAddrA Tryz.underlying32 (fun w => Tryz.sizeOf211 w) rfl rfl rfl (by omega) (by first | rfl | assumption)) rfl rfl rfl ?_))
  all_goals (first | (refine Br.keep ?_) | (refine WL.step (ok_loadN (fun w => Tryz.isAgg211 w) (fun w => Tryz.sizeOf211 w) rfl rfl (by assumption)) rfl rfl rfl ?_))
  all_goals (first
               | (refine Br.keep ?_)
               | (refine WL.stepR (okE_alloc (fun w => Tryz.zeroValue211 w)) rfl rfl rfl ?_
                  rintro _ h2 ⟨b2, rfl, hg2, hb2, hx2⟩))
  all_goals (refine Go ?_)
  all_goals (first
               | (refine Br.keep ?_)
               | (refine WL.stepR0 (okE_storeW (fun w => Tryz.sizeOf211 w) rfl rfl rfl (by assumption) rfl one1) rfl rfl ?_
                  rintro _ h3 ⟨hb3, hx3⟩))
  all_goals (first | (refine Br.keep ?_) | (have hx13 : Ext No h1 h3 := hx2.trans' hx3 (fun q hq e => by omega)))
  all_goals (refine Gn ?_)
  all_goals (first | (refine Br.keep ?_) | (refine Gs [(1, _), (2, _), (7, _), (8, _), (15, _), (16, _), (17, _)] ?_))
  all_goals (first | (refine Br.keep ?_) | (refine WC.sr ?_))
  all_goals (refine Go ?_)
  all_goals (first | (refine Br.keep ?_) | (refine WL.step (ok_idxAddrA Tryz.underlying32 (fun w => Tryz.sizeOf211 w) rfl rfl rfl (by omega) (by first | rfl | assumption)) rfl rfl rfl ?_))
  all_goals (first | (refine Br.keep ?_) | (refine WL.step (ok_loadN (fun w => Tryz.isAgg211 w) (fun w => Tryz.sizeOf211 w) rfl rfl (by exact at2.ext hx13 nos)) rfl rfl rfl ?_))
  all_goals (first
               | (refine Br.keep ?_)
               | (refine WL.stepR (okE_alloc (fun w => Tryz.zeroValue211 w)) rfl rfl rfl ?_
                  rintro _ h4 ⟨b4, rfl, hg4, hb4, hx4⟩))
  all_goals (first
               | (refine Br.keep ?_)
               | (refine WL.stepR0 (okE_storeW (fun w => Tryz.sizeOf211 w) rfl rfl rfl (by assumption) rfl one2) rfl rfl ?_
                  rintro _ h5 ⟨hb5, hx5⟩))
  all_goals (first
               | (refine Br.keep ?_)
               | (have hx35 : Ext No h3 h5 := hx4.trans' hx5 (fun q hq e => by omega)
                  have hb3' := hx35.obj hb3 nos
                  have hX5 := hx1.trans (hx13.trans hx35)))
  all_goals (refine Gn ?_)
  all_goals (first | (refine Br.keep ?_) | (refine Gs [(1, _), (2, _), (8, _), (9, _), (15, _), (16, _), (17, _)] ?_))
  all_goals (first | (refine Br.keep ?_) | (refine WC.sr ?_))
  all_goals (refine Go ?_)
  all_goals (first | (refine Br.keep ?_) | (refine WL.step (ok_loadN (fun w => Tryz.isAgg211 w) (fun w => Tryz.sizeOf211 w) rfl rfl (by exact At.of_block hb3')) rfl rfl rfl ?_))
  all_goals (first | (refine Br.keep ?_) | (refine WL.step (ok_loadN (fun w => Tryz.isAgg211 w) (fun w => Tryz.sizeOf211 w) rfl rfl (by exact At.of_block hb5)) rfl rfl rfl ?_))
  all_goals (first
               | (refine Br.keep ?_)
               | (refine WL.callT (vs := [_, _]) rfl rfl (fun a w => Tryz.call202 a w) rfl (alike_back y z (hyo.ext0 hX5) (hzo.ext0 hX5) (pl_get e hy hz)) rfl rfl rfl ?_
                  rintro _ h6 ⟨rfl, hx6⟩))
  all_goals (refine Go ?_)
  all_goals (first | (refine Br.keep ?_) | (refine Gs [(1, _), (2, _), (15, _), (16, _), (17, _), (30, _)] ?_))
  all_goals (first | (refine Br.keep ?_) | (refine goC 5 6 ?_ ?_ <;> first | exact ⟨⟩ | refine Hb.mk fun hb => ?_ | skip))
  all_goals (first | (fail_if_success refine goB 5 ?_) | (
  refine goB 5 ?_
  all_goals (refine WC.sr ?_)
  all_goals (refine Go ?_)
  all_goals (refine Gs [(6, _)] ?_)
  all_goals (refine Gt ?_)
  all_goals (exact ⟨rfl, hx1⟩)
  skip))
  all_goals (first | (fail_if_success refine goB 6 ?_) | (
  refine goB 6 ?_
  all_goals (refine WC.skip ?_)
  skip))
  all_goals (refine Gn ?_)
  all_goals (first | (refine Br.keep ?_) | (refine WC.region ?_))
  all_goals (refine Go ?_)
  all_goals (first | (refine Br.keep ?_) | (exact ⟨k + 1, ⟨rfl, rfl, rfl, rfl, rfl, trivial⟩, (by exact ⟨hX5.trans hx6, by omega⟩), (by omega)⟩))
  all_goals (try (refine Br.mk (i := 1000) ?_))
  all_goals (refine Gn ?_)
  all_goals (refine Gs [] ?_)
  all_goals (refine WC.sr ?_)
  all_goals (refine Go ?_)
  all_goals (refine Gt ?_)
  all_goals (exact ⟨rfl, hx1⟩)
set_option maxHeartbeats 4000000 in
set_option maxRecDepth 100000 in
theorem same_back {h : Heap} (a b : Bk) (ha : a.ok h) (hb : b.ok h) (e : a.pl = b.pl) :
    CallsH Tryz.prog 157 ⟨[.agg ⟨a.cells⟩, .agg ⟨b.cells⟩]⟩ h fun u h' => u = .bool true ∧ Ext No h h' := by
  obtain ⟨k1, s1, t1, n1, v1, x1, y1, vo1, l1, vc1, c1, vr1, r1, vf1, f1⟩ := a
  obtain ⟨k2, s2, t2, n2, v2, x2, y2, vo2, l2, vc2, c2, vr2, r2, vf2, f2⟩ := b
  simp only [Bk.pl, Prod.mk.injEq] at e
  obtain ⟨rfl, rfl, rfl, rfl, rfl, rfl, rfl, rfl, rfl, er, rfl⟩ := e
  obtain ⟨⟨ao, hlo⟩, ⟨ac, hlc⟩, ar, af, hlf⟩ := ha
  obtain ⟨⟨bo, _⟩, ⟨bc, _⟩, br, bf, _⟩ := hb
  simp only at ao ac ar af bo bc br bf hlo hlc hlf
  obtain ⟨Ao, co, rfl, _⟩ := id ao
  obtain ⟨Bo, do_, rfl, _⟩ := id bo
  dsimp only [Bk.cells]
  refine calls [(0, _), (1, _)] Tryz.func157 rfl Tryz.ntmps157 rfl ⟨rfl, rfl, trivial⟩ ?_
  all_goals (refine WC.sr ?_)
  all_goals (refine WL.stepR (okE_box rfl) rfl rfl rfl ?_
             rintro _ h1 ⟨b1, rfl, hg1, hb1, hx1⟩)
  all_goals (refine WL.stepR (okE_box rfl) rfl rfl rfl ?_
             rintro _ h2 ⟨b2, rfl, hg2, hb2, hx2⟩)
  all_goals (have hb1' := hx2.obj hb1 nos
             have hx := hx1.trans hx2)
  all_goals (refine Go ?_)
  all_goals (refine WC.sr ?_)
  all_goals (refine Go ?_)
  all_goals (refine Ld ?_)
  all_goals (refine Go ?_)
  all_goals (refine Ld ?_)
  all_goals (refine Go ?_)
  all_goals (refine Ld ?_)
  all_goals (refine WL.step (ok_buildF (vs := [_, _, _]) (cs := [_, _, _]) (fun | [a0, a1, a2] => [a0, a1, a2] | _ => []) rfl rfl (by kernel_rfl)) rfl rfl rfl ?_)
  all_goals (refine Go ?_)
  all_goals (refine Ld ?_)
  all_goals (refine Go ?_)
  all_goals (refine Ld ?_)
  all_goals (refine Go ?_)
  all_goals (refine Ld ?_)
  all_goals (refine WL.step (ok_buildF (vs := [_, _, _]) (cs := [_, _, _]) (fun | [a0, a1, a2] => [a0, a1, a2] | _ => []) rfl rfl (by kernel_rfl)) rfl rfl rfl ?_)
  all_goals (refine WL.step (OkP.bool_t rfl (ok_eqlA (us := [t1, n1, v1]) (vs := [t1, n1, v1]) Tryz.underlying220 (show Tryz.prog.info? 9 = some Tryz.t9 by kernel_rfl) Tryz.underlying9 (by kernel_rfl) (by kernel_rfl) (by kernel_rfl) rfl rfl rfl rfl)) rfl rfl rfl ?_)
  all_goals (refine Go ?_)
  all_goals (refine Gs [(2, _), (3, _), (5, _)] ?_)
  all_goals (refine WC.sr ?_)
  all_goals (refine Go ?_)
  all_goals (refine Ld ?_)
  all_goals (refine Go ?_)
  all_goals (refine Ld ?_)
  all_goals (refine Go ?_)
  all_goals (refine goP 28 ?_ ?_ <;> first | exact ⟨⟩ | refine Hb.mk fun hb => ?_ | skip)
  all_goals (refine Gg ?_)
  all_goals (first | (refine WL.pass rfl rfl rfl ?_) | (refine Ld ?_))
  all_goals (refine Gg ?_)
  all_goals (first | (refine WL.pass rfl rfl rfl ?_) | (refine Ld ?_))
  all_goals (refine Gg ?_)
  all_goals (refine Go ?_)
  all_goals (refine goP 35 ?_ ?_ <;> first | exact ⟨⟩ | refine Hb.mk fun hb => ?_ | skip)
  all_goals (refine Gg ?_)
  all_goals (first | (refine WL.pass rfl rfl rfl ?_) | (refine Ld ?_))
  all_goals (refine Gg ?_)
  all_goals (first | (refine WL.pass rfl rfl rfl ?_) | (refine Ld ?_))
  all_goals (refine Gg ?_)
  all_goals (refine Go ?_)
  all_goals (refine goP 42 ?_ ?_ <;> first | exact ⟨⟩ | refine Hb.mk fun hb => ?_ | skip)
  all_goals (refine Gg ?_)
  all_goals (first | (refine WL.pass rfl rfl rfl ?_) | (refine Ld ?_))
  all_goals (refine Gg ?_)
  all_goals (first | (refine WL.pass rfl rfl rfl ?_) | (refine Ld ?_))
  all_goals (refine Gg ?_)
  all_goals (refine Go ?_)
  all_goals (refine Gs [(2, _), (3, _), (5, _), (6, _)] ?_)
  all_goals (refine WC.sr ?_)
  all_goals (refine Go ?_)
  all_goals (refine Ld ?_)
  all_goals (refine Go ?_)
  all_goals (refine Ld ?_)
  all_goals (refine WL.call (vs := [_, _]) rfl (fun a w => Tryz.call144 a w) rfl ((equal_int _ _ (ao.ext0 hx) (bo.ext0 hx) hlo).as (congrArg Value.bool (decide_eq_true rfl))) rfl rfl rfl ?_
             rintro _ hz ⟨rfl, _⟩
             subst hz)
  all_goals (refine Go ?_)
  all_goals (refine goP 54 ?_ ?_ <;> first | exact ⟨⟩ | refine Hb.mk fun hb => ?_ | skip)
  all_goals (refine Gg ?_)
  all_goals (first | (refine WL.pass rfl rfl rfl ?_) | (refine Ld ?_))
  all_goals (refine Gg ?_)
  all_goals (first | (refine WL.pass rfl rfl rfl ?_) | (refine Ld ?_))
  all_goals (first
               | (refine WL.pass rfl rfl rfl ?_)
               | (refine WL.call (vs := [_, _]) rfl (fun a w => Tryz.call200 a w) rfl (equal_col _ (ac.ext0 hx) (bc.ext0 hx) hlc) rfl rfl rfl ?_
                  rintro _ hz ⟨rfl, _⟩
                  subst hz))
  all_goals (refine Go ?_)
  all_goals (refine goP 61 ?_ ?_ <;> first | exact ⟨⟩ | refine Hb.mk fun hb => ?_ | skip)
  all_goals (refine Gg ?_)
  all_goals (first | (refine WL.pass rfl rfl rfl ?_) | (refine Ld ?_))
  all_goals (refine Gg ?_)
  all_goals (first | (refine WL.pass rfl rfl rfl ?_) | (refine Ld ?_))
  all_goals (first
               | (refine WL.pass rfl rfl rfl ?_)
               | (refine WL.call (vs := [_, _]) rfl (fun a w => Tryz.call201 a w) rfl (equal_fld _ (af.ext0 hx) (bf.ext0 hx) hlf) rfl rfl rfl ?_
                  rintro _ hz ⟨rfl, _⟩
                  subst hz))
  all_goals (refine Go ?_)
  all_goals (refine Gs [(2, _), (3, _), (5, _), (6, _), (7, _)] ?_)
  all_goals (refine WC.sr ?_)
  all_goals (refine Go ?_)
  all_goals (refine goP 69 ?_ ?_ <;> first | exact ⟨⟩ | refine Hb.mk fun hb => ?_ | skip)
  all_goals (refine Gg ?_)
  all_goals (refine Go ?_)
  all_goals (refine goP 72 ?_ ?_ <;> first | exact ⟨⟩ | refine Hb.mk fun hb => ?_ | skip)
  all_goals (refine Gg ?_)
  all_goals (refine Go ?_)
  all_goals (refine goP 75 ?_ ?_ <;> first | exact ⟨⟩ | refine Hb.mk fun hb => ?_ | skip)
  all_goals (refine Gg ?_)
  all_goals (first | (refine WL.pass rfl rfl rfl ?_) | (refine Ld ?_))
  all_goals (refine Gg ?_)
  all_goals (first | (refine WL.pass rfl rfl rfl ?_) | (refine Ld ?_))
  all_goals (first
               | (refine WL.pass rfl rfl rfl ?_)
               | (refine WL.call (vs := [_, _, _]) rfl (fun a w => Tryz.call145 a w) rfl (equalF_cel _ _ (ar.ext0 hx) (br.ext0 hx) er) rfl rfl rfl ?_
                  rintro _ h3 ⟨rfl, hx3⟩))
  all_goals (refine Go ?_)
  all_goals (refine Gs [(4, _)] ?_)
  all_goals (refine Gt ?_)
  all_goals (exact ⟨rfl, hx.trans hx3⟩)
end Go.Proofs.YtdjjpbbhcidaaaaGreatDoor


/-
  back.Check, of messages that may be: the fields of a kind; all of it.
-/
namespace Go.Proofs.YtdjjpbbhcidaaaaGreatDoor
open Go Go.RK

def zB (k : Int) : Bk := ⟨k, 0, [], [], [], 0, 0, .slice none 0 0, [], .slice none 0 0, [], .slice none 0 0, [], .slice none 0 0, []⟩
/-- A message with no fields but those that its body has. -/
def ofB (b : Bk) : Bk :=
  if b.kind = 83 then { zB b.kind with name := b.name, value := b.value }
  else if b.kind = 75 then { zB b.kind with n := b.n, m := b.m }
  else if b.kind = 90 then { zB b.kind with status := b.status }
  else if b.kind = 67 then { zB b.kind with tag := b.tag }
  else if b.kind = 68 then { zB b.kind with vr := b.vr, row := b.row }
  else if b.kind = 84 then { zB b.kind with vc := b.vc, cols := b.cols }
  else if b.kind = 116 then { zB b.kind with vo := b.vo, oids := b.oids }
  else if b.kind = 69 ∨ b.kind = 78 then { zB b.kind with vf := b.vf, fields := b.fields }
  else zB b.kind
theorem cels_no (h : Heap) : Cels h (.slice none 0 0) [] := ⟨Rd.nil _ _, ⟨by simp, _, _, rfl, by decide⟩, by simp⟩
theorem zB_ok (h : Heap) (k : Int) : (zB k).ok h := ⟨⟨Rd.nil _ _, by simp [zB]⟩, ⟨Rd.nil _ _, by simp [zB]⟩, cels_no h, ⟨Rd.nil _ _, by simp [zB]⟩⟩
theorem ofB_ok {h : Heap} {b : Bk} (k : b.ok h) : (ofB b).ok h := by
  obtain ⟨k1, k2, k3, k4⟩ := k
  obtain ⟨z1, z2, z3, z4⟩ := zB_ok h b.kind
  unfold ofB
  repeat' split
  all_goals first | exact ⟨z1, z2, z3, z4⟩ | exact ⟨z1, z2, k3, z4⟩ | exact ⟨z1, k2, z3, z4⟩ | exact ⟨k1, z2, z3, z4⟩ | exact ⟨z1, z2, z3, k4⟩
set_option maxHeartbeats 4000000 in
set_option maxRecDepth 100000 in
theorem of_back {h : Heap} (b : Bk) (hb : b.ok h) : CallsH Tryz.prog 158 ⟨[.agg ⟨b.cells⟩]⟩ h fun u h' => u = .agg ⟨(ofB b).cells⟩ ∧ Ext No h h' := by
  obtain ⟨k, st, t, n, v, x, y, vo, lo, vc, lc, vr, lr, vf, lf⟩ := b
  obtain ⟨⟨ho, _⟩, ⟨hc, _⟩, hr, hf, _⟩ := hb
  simp only at ho hc hr hf
  obtain ⟨A1, c1, rfl, _⟩ := id ho
  obtain ⟨A2, c2, rfl, _⟩ := id hc
  obtain ⟨_, ⟨_, A3, c3, rfl, _⟩, _⟩ := id hr
  obtain ⟨A4, c4, rfl, _⟩ := id hf
  dsimp only [Bk.cells]
  refine calls [(0, _)] Tryz.func158 rfl Tryz.ntmps158 rfl ⟨rfl, trivial⟩ ?_
  all_goals (refine WC.sr ?_)
  all_goals (refine WL.stepR (okE_box rfl) rfl rfl rfl ?_
             rintro _ h1 ⟨b1, rfl, hg1, hb1, hx1⟩)
  all_goals (refine WL.stepR (okE_alloc (fun w => Tryz.zeroValue92 w)) rfl rfl rfl ?_
             rintro _ h2 ⟨b2, rfl, hg2, hb2, hx2⟩)
  all_goals (have hb1a := hx2.obj hb1 nos)
  all_goals (refine Gn ?_)
  all_goals (refine WC.sr ?_)
  all_goals (refine Go ?_)
  all_goals (refine Ld ?_)
  all_goals (refine WL.step (ok_buildF (vs := [_]) (cs := [_, _, _, _, _, _, _, _, _, _, _]) (fun | [a0] => [a0, (.int .u8 0), (St []), (St []), (St []), (.int .i64 0), (.int .i64 0), (.slice none 0 0), (.slice none 0 0), (.slice none 0 0), (.slice none 0 0)] | _ => []) rfl rfl (by kernel_rfl)) rfl rfl rfl ?_)
  all_goals (refine WL.stepR (okE_alloc (fun w => Tryz.zeroValue92 w)) rfl rfl rfl ?_
             rintro _ h3 ⟨b3, rfl, hg3, hb3, hx3⟩)
  all_goals (have hb1b := hx3.obj hb1a nos
             have hb2b := hx3.obj hb2 nos
             have n13 : ¬ b1 = b3 := by have := lt_of_some hb1a; omega
             have n23 : ¬ b2 = b3 := by have := lt_of_some hb2; omega)
  all_goals (refine WL.stepR0 (okE_storeW (fun w => Tryz.sizeOf92 w) rfl rfl rfl (by assumption) rfl (by simp [Value.oneCell'])) rfl rfl ?_
             rintro _ h4 ⟨hb4, hx4⟩)
  all_goals (have hb1c := hx4.obj hb1b n13
             have hb2c := hx4.obj hb2b n23
             have hX4 : Ext No h h4 := ((hx1.trans hx2).trans hx3).trans' hx4 (fun q hq e => by have := hx1.size; have := hx2.size; omega))
  all_goals (refine Gn ?_)
  all_goals (refine Gs [(1, _), (2, _), (3, _)] ?_)
  all_goals (refine WC.seq ?_)
  all_goals (refine WC.sr ?_)
  all_goals (refine Go ?_)
  all_goals (refine Ld ?_)
  all_goals (refine Gn ?_)
  all_goals (refine WC.block ?_)
  all_goals (refine WC.sr ?_)
  all_goals (refine Go ?_)
  all_goals (refine goC 1 2 ?_ ?_ <;> first | exact ⟨⟩ | refine Hb.mk fun hb => ?_ | skip)
  all_goals (first | (fail_if_success refine goB 1 ?_) | (
  refine goB 1 ?_
  all_goals (refine WC.drawH (fun h' => Ext (fun q => q = b3) h4 h') 7 8 rfl fol ?_)
  all_goals (refine WH.tk 0 rfl (fun hq hC => ok_fieldAddr rfl Tryz.underlying92 rfl (fun w => Tryz.sizeOf9 w)) rfl rfl rfl ?_ (hC := (by first | exact Ext.refl _ _ | assumption | exact hx5.trans hx6)))
  all_goals (refine WH.tk 1 rfl (fun hq hC => ok_load (fun w => Tryz.isAgg9 w) rfl (by first | exact hC.cell (by first | exact cell_blk hb1c rfl | assumption | exact cell_blk (by assumption) rfl) n13)) rfl rfl rfl ?_ (hC := (by first | exact Ext.refl _ _ | assumption | exact hx5.trans hx6)))
  all_goals (refine WH.tk 2 rfl (fun hq hC => ok_fieldAddr rfl Tryz.underlying92 rfl (fun w => Tryz.sizeOf9 w)) rfl rfl rfl ?_ (hC := (by first | exact Ext.refl _ _ | assumption | exact hx5.trans hx6)))
  all_goals (refine WH.tk 3 rfl (fun hq hC => ok_load (fun w => Tryz.isAgg9 w) rfl (by first | exact hC.cell (by first | exact cell_blk hb1c rfl | assumption | exact cell_blk (by assumption) rfl) n13)) rfl rfl rfl ?_ (hC := (by first | exact Ext.refl _ _ | assumption | exact hx5.trans hx6)))
  all_goals (refine WH.tk 4 rfl (fun hq hC => ok_fieldAddr rfl Tryz.underlying92 rfl (fun w => Tryz.sizeOf9 w)) rfl rfl rfl ?_ (hC := (by first | exact Ext.refl _ _ | assumption | exact hx5.trans hx6)))
  all_goals (refine WH.one 5 (by kernel_rfl) ?_)
  all_goals (refine Comes1.run0 rfl (okE_store (fun w => Tryz.sizeOf9 w) rfl rfl (by assumption) (Nat.le_of_ble_eq_true rfl) rfl rfl) rfl rfl ?_ (fun _ => by kernel_rfl)
             rintro _ h5 ⟨hb5, hx5⟩)
  all_goals (refine ⟨fun _ => hx5, ?_⟩)
  all_goals (refine WH.tk 6 rfl (fun hq hC => ok_fieldAddr rfl Tryz.underlying92 rfl (fun w => Tryz.sizeOf9 w)) rfl rfl rfl ?_ (hC := (by first | exact Ext.refl _ _ | assumption | exact hx5.trans hx6)))
  all_goals (refine WH.one 7 (by kernel_rfl) ?_)
  all_goals (refine Comes1.run0 rfl (okE_store (fun w => Tryz.sizeOf9 w) rfl rfl (by assumption) (Nat.le_of_ble_eq_true rfl) rfl rfl) rfl rfl ?_ (fun _ => by kernel_rfl)
             rintro _ h6 ⟨hb6, hx6⟩)
  all_goals (refine ⟨fun _ => hx5.trans hx6, ?_⟩)
  all_goals (have hE := hx5.trans hx6
             have hb2z := hE.obj hb2c n23)
  all_goals (refine WH.done (by kernel_rfl) ?_)
  skip))
  all_goals (first | (fail_if_success refine goB 2 ?_) | (
  refine goB 2 ?_
  all_goals (refine WC.sr ?_)
  all_goals (refine Go ?_)
  all_goals (refine Gs [(1, _), (2, _), (3, _), (8, _), (17, _)] ?_)
  all_goals (refine goC 3 4 ?_ ?_ <;> first | exact ⟨⟩ | refine Hb.mk fun hb => ?_ | skip)
  all_goals (first | (fail_if_success refine goB 3 ?_) | (
  refine goB 3 ?_
  all_goals (refine WC.drawH (fun h' => Ext (fun q => q = b3) h4 h') 7 8 rfl fol ?_)
  all_goals (refine WH.tk 0 rfl (fun hq hC => ok_fieldAddr rfl Tryz.underlying92 rfl (fun w => Tryz.sizeOf3 w)) rfl rfl rfl ?_ (hC := (by first | exact Ext.refl _ _ | assumption | exact hx5.trans hx6)))
  all_goals (refine WH.tk 1 rfl (fun hq hC => ok_load (fun w => Tryz.isAgg3 w) rfl (by first | exact hC.cell (by first | exact cell_blk hb1c rfl | assumption | exact cell_blk (by assumption) rfl) n13)) rfl rfl rfl ?_ (hC := (by first | exact Ext.refl _ _ | assumption | exact hx5.trans hx6)))
  all_goals (refine WH.tk 2 rfl (fun hq hC => ok_fieldAddr rfl Tryz.underlying92 rfl (fun w => Tryz.sizeOf3 w)) rfl rfl rfl ?_ (hC := (by first | exact Ext.refl _ _ | assumption | exact hx5.trans hx6)))
  all_goals (refine WH.tk 3 rfl (fun hq hC => ok_load (fun w => Tryz.isAgg3 w) rfl (by first | exact hC.cell (by first | exact cell_blk hb1c rfl | assumption | exact cell_blk (by assumption) rfl) n13)) rfl rfl rfl ?_ (hC := (by first | exact Ext.refl _ _ | assumption | exact hx5.trans hx6)))
  all_goals (refine WH.tk 4 rfl (fun hq hC => ok_fieldAddr rfl Tryz.underlying92 rfl (fun w => Tryz.sizeOf3 w)) rfl rfl rfl ?_ (hC := (by first | exact Ext.refl _ _ | assumption | exact hx5.trans hx6)))
  all_goals (refine WH.one 5 (by kernel_rfl) ?_)
  all_goals (refine Comes1.run0 rfl (okE_store (fun w => Tryz.sizeOf3 w) rfl rfl (by assumption) (Nat.le_of_ble_eq_true rfl) rfl rfl) rfl rfl ?_ (fun _ => by kernel_rfl)
             rintro _ h5 ⟨hb5, hx5⟩)
  all_goals (refine ⟨fun _ => hx5, ?_⟩)
  all_goals (refine WH.tk 6 rfl (fun hq hC => ok_fieldAddr rfl Tryz.underlying92 rfl (fun w => Tryz.sizeOf3 w)) rfl rfl rfl ?_ (hC := (by first | exact Ext.refl _ _ | assumption | exact hx5.trans hx6)))
  all_goals (refine WH.one 7 (by kernel_rfl) ?_)
  all_goals (refine Comes1.run0 rfl (okE_store (fun w => Tryz.sizeOf3 w) rfl rfl (by assumption) (Nat.le_of_ble_eq_true rfl) rfl rfl) rfl rfl ?_ (fun _ => by kernel_rfl)
             rintro _ h6 ⟨hb6, hx6⟩)
  all_goals (refine ⟨fun _ => hx5.trans hx6, ?_⟩)
  all_goals (have hE := hx5.trans hx6
             have hb2z := hE.obj hb2c n23)
  all_goals (refine WH.done (by kernel_rfl) ?_)
  skip))
  all_goals (first | (fail_if_success refine goB 4 ?_) | (
  refine goB 4 ?_
  all_goals (refine WC.sr ?_)
  all_goals (refine Go ?_)
  all_goals (refine goC 5 6 ?_ ?_ <;> first | exact ⟨⟩ | refine Hb.mk fun hb => ?_ | skip)
  all_goals (first | (fail_if_success refine goB 5 ?_) | (
  refine goB 5 ?_
  all_goals (refine WC.region ?_)
  all_goals (refine Go ?_)
  all_goals (refine Ld ?_)
  all_goals (refine Go ?_)
  all_goals (refine WL.stepR0 (okE_store (fun w => Tryz.sizeOf5 w) rfl rfl (by assumption) (Nat.le_of_ble_eq_true rfl) rfl rfl) rfl rfl ?_
             rintro _ h5 ⟨hb5, hE⟩)
  all_goals (have hb2z := hE.obj hb2c n23)
  all_goals (refine Gn ?_)
  skip))
  all_goals (first | (fail_if_success refine goB 6 ?_) | (
  refine goB 6 ?_
  all_goals (refine WC.sr ?_)
  all_goals (refine Go ?_)
  all_goals (refine Gs [(1, _), (2, _), (3, _), (8, _), (30, _)] ?_)
  all_goals (refine goC 7 8 ?_ ?_ <;> first | exact ⟨⟩ | refine Hb.mk fun hb => ?_ | skip)
  all_goals (first | (fail_if_success refine goB 7 ?_) | (
  refine goB 7 ?_
  all_goals (refine WC.region ?_)
  all_goals (refine Go ?_)
  all_goals (refine Ld ?_)
  all_goals (refine Go ?_)
  all_goals (refine WL.stepR0 (okE_store (fun w => Tryz.sizeOf9 w) rfl rfl (by assumption) (Nat.le_of_ble_eq_true rfl) rfl rfl) rfl rfl ?_
             rintro _ h5 ⟨hb5, hE⟩)
  all_goals (have hb2z := hE.obj hb2c n23)
  all_goals (refine Gn ?_)
  skip))
  all_goals (first | (fail_if_success refine goB 8 ?_) | (
  refine goB 8 ?_
  all_goals (refine WC.sr ?_)
  all_goals (refine Go ?_)
  all_goals (refine goC 9 10 ?_ ?_ <;> first | exact ⟨⟩ | refine Hb.mk fun hb => ?_ | skip)
  all_goals (first | (fail_if_success refine goB 9 ?_) | (
  refine goB 9 ?_
  all_goals (refine WC.region ?_)
  all_goals (refine Go ?_)
  all_goals (refine Ld ?_)
  all_goals (refine Go ?_)
  all_goals (refine WL.stepR0 (okE_store (fun w => Tryz.sizeOf32 w) rfl rfl (by assumption) (Nat.le_of_ble_eq_true rfl) rfl rfl) rfl rfl ?_
             rintro _ h5 ⟨hb5, hE⟩)
  all_goals (have hb2z := hE.obj hb2c n23)
  all_goals (refine Gn ?_)
  skip))
  all_goals (first | (fail_if_success refine goB 10 ?_) | (
  refine goB 10 ?_
  all_goals (refine WC.sr ?_)
  all_goals (refine Go ?_)
  all_goals (refine Gs [(1, _), (2, _), (3, _), (8, _), (40, _)] ?_)
  all_goals (refine goC 11 12 ?_ ?_ <;> first | exact ⟨⟩ | refine Hb.mk fun hb => ?_ | skip)
  all_goals (first | (fail_if_success refine goB 11 ?_) | (
  refine goB 11 ?_
  all_goals (refine WC.region ?_)
  all_goals (refine Go ?_)
  all_goals (refine Ld ?_)
  all_goals (refine Go ?_)
  all_goals (refine WL.stepR0 (okE_store (fun w => Tryz.sizeOf90 w) rfl rfl (by assumption) (Nat.le_of_ble_eq_true rfl) rfl rfl) rfl rfl ?_
             rintro _ h5 ⟨hb5, hE⟩)
  all_goals (have hb2z := hE.obj hb2c n23)
  all_goals (refine Gn ?_)
  skip))
  all_goals (first | (fail_if_success refine goB 12 ?_) | (
  refine goB 12 ?_
  all_goals (refine WC.sr ?_)
  all_goals (refine Go ?_)
  all_goals (refine goC 13 14 ?_ ?_ <;> first | exact ⟨⟩ | refine Hb.mk fun hb => ?_ | skip)
  all_goals (first | (fail_if_success refine goB 13 ?_) | (
  refine goB 13 ?_
  all_goals (refine WC.region ?_)
  all_goals (refine Go ?_)
  all_goals (refine Ld ?_)
  all_goals (refine Go ?_)
  all_goals (refine WL.stepR0 (okE_store (fun w => Tryz.sizeOf31 w) rfl rfl (by assumption) (Nat.le_of_ble_eq_true rfl) rfl rfl) rfl rfl ?_
             rintro _ h5 ⟨hb5, hE⟩)
  all_goals (have hb2z := hE.obj hb2c n23)
  all_goals (refine Gn ?_)
  skip))
  all_goals (first | (fail_if_success refine goB 14 ?_) | (
  refine goB 14 ?_
  all_goals (refine WC.seq ?_)
  all_goals (refine WC.sr ?_)
  all_goals (refine Go ?_)
  all_goals (refine Gs [(1, _), (2, _), (3, _), (8, _), (50, _)] ?_)
  all_goals (refine goC 15 16 ?_ ?_ <;> first | exact ⟨⟩ | refine Hb.mk fun hb => ?_ | skip)
  all_goals (first | (fail_if_success refine goB 15 ?_) | (
  refine goB 15 ?_
  all_goals (refine WC.skip ?_)
  skip))
  all_goals (first | (fail_if_success refine goB 16 ?_) | (
  refine goB 16 ?_
  all_goals (refine WC.region ?_)
  all_goals (refine Go ?_)
  skip))
  all_goals (refine Gn ?_)
  all_goals (refine goC 17 18 ?_ ?_ <;> first | exact ⟨⟩ | refine Hb.mk fun hb => ?_ | skip)
  all_goals (first | (fail_if_success refine goB 17 ?_) | (
  refine goB 17 ?_
  all_goals (refine WC.region ?_)
  all_goals (refine Go ?_)
  all_goals (refine Ld ?_)
  all_goals (refine Go ?_)
  all_goals (refine WL.stepR0 (okE_store (fun w => Tryz.sizeOf88 w) rfl rfl (by assumption) (Nat.le_of_ble_eq_true rfl) rfl rfl) rfl rfl ?_
             rintro _ h5 ⟨hb5, hE⟩)
  all_goals (have hb2z := hE.obj hb2c n23)
  all_goals (refine Gn ?_)
  skip))
  all_goals (first | (fail_if_success refine goB 18 ?_) | (
  refine goB 18 ?_
  all_goals (refine WC.skip ?_)
  skip))
  skip))
  skip))
  skip))
  skip))
  skip))
  skip))
  skip))
  all_goals (refine Gn ?_)
  all_goals (refine WC.sr ?_)
  all_goals (refine WL.step (ok_loadN (fun w => Tryz.isAgg92 w) (fun w => Tryz.sizeOf92 w) rfl rfl (by exact (by first | exact At.of_block hb6 | exact At.of_block hb5 | exact At.of_block hb4))) rfl rfl rfl ?_)
  all_goals (refine WL.stepR0 (okE_storeW (fun w => Tryz.sizeOf92 w) rfl rfl rfl (by first | exact hb2z | exact hb2c) rfl (by simp [Value.oneCell'])) rfl rfl ?_
             rintro _ h9 ⟨hb9, hx9⟩)
  all_goals (refine Gn ?_)
  all_goals (refine Gs [(2, _)] ?_)
  all_goals (refine WC.ret ?_)
  all_goals (repeat' (with_reducible first | refine thenP_r ?_ | refine blockP_r ?_))
  all_goals (refine retP_1 _ ⟨⟨_, rfl, ld_blk (fun w => Tryz.isAgg92 w) (fun w => Tryz.sizeOf92 w) (by assumption) rfl⟩, trivial⟩ ?_)
  all_goals (have hs1 := hx1.size
             have hs2 := hx2.size
             refine ⟨?_, by first | exact (hX4.trans' hE (fun q hq e => by omega)).trans' hx9 (fun q hq e => by omega) | exact hX4.trans' hx9 (fun q hq e => by omega)⟩
             first
              | (exfalso; omega)
              | (simp only [ofB, if_pos, *]; rfl)
              | (simp [ofB, zB, Bk.cells, *]; done))
/-! ### Check -/
def kindsB : List UInt8 := [82, 83, 75, 90, 49, 50, 51, 110, 115, 73, 67, 68, 84, 116, 69, 78]
set_option maxHeartbeats 2000000 in
set_option maxRecDepth 100000 in
theorem known_back {h : Heap} (k : UInt8) (hk : kindsB.contains k = true) : CallsH Tryz.prog 147 ⟨[By k]⟩ h fun u h' => u = .bool true ∧ Ext No h h' := by
  have e1 := Lib.contains_iff_indexByte [82, 83, 75, 90, 49, 50, 51, 110, 115, 73, 67, 68, 84, 116, 69, 78] k
  rw [show ([82, 83, 75, 90, 49, 50, 51, 110, 115, 73, 67, 68, 84, 116, 69, 78] : List UInt8).contains k = true from hk] at e1
  refine calls [(0, _)] Tryz.func147 rfl Tryz.ntmps147 rfl ⟨rfl, trivial⟩ ?_
  all_goals (refine WC.sr ?_)
  all_goals (refine Go ?_)
  all_goals (refine WC.sr ?_)
  all_goals (refine WL.stepR (okE_buildSlice (vs := [_, _, _, _, _, _, _, _, _, _, _, _, _, _, _, _]) (cs := [_, _, _, _, _, _, _, _, _, _, _, _, _, _, _, _]) (fun | [a0, a1, a2, a3, a4, a5, a6, a7, a8, a9, a10, a11, a12, a13, a14, a15] => [a0, a1, a2, a3, a4, a5, a6, a7, a8, a9, a10, a11, a12, a13, a14, a15] | _ => []) Tryz.underlying22 rfl rfl (by kernel_rfl)) rfl rfl rfl ?_
             rintro _ h1 ⟨b1, rfl, hg1, hb1, hx1⟩)
  all_goals (refine WL.stepR (okE_convSS Tryz.underlying22 Tryz.underlying5 rfl (by assumption)) rfl rfl rfl ?_
             rintro _ h2 ⟨rfl, ⟨z2, hb2⟩, hx2⟩)
  all_goals (refine Go ?_)
  all_goals (refine WL.call (vs := [_, _]) rfl (fun a w => Tryz.call86 a w) rfl (indexByte_bys [82, 83, 75, 90, 49, 50, 51, 110, 115, 73, 67, 68, 84, 116, 69, 78] k (rd_blk hb2 rfl) (by simp)) rfl rfl rfl ?_
             rintro _ hz ⟨rfl, _⟩
             subst hz)
  all_goals (refine WL.step (OkP.bool_t (of_decide_eq_true e1.symm) (ok_geq rfl rfl)) rfl rfl rfl ?_)
  all_goals (refine Go ?_)
  all_goals (refine Gs [(2, _)] ?_)
  all_goals (refine Gt ?_)
  all_goals (exact ⟨rfl, hx1.trans' hx2 (fun q hq e => by omega)⟩)
def Bk.stOk (b : Bk) : Prop := b.kind ≠ 90 ∨ b.status = 73 ∨ b.status = 84 ∨ b.status = 69
set_option maxHeartbeats 2000000 in
set_option maxRecDepth 100000 in
theorem status_ok {h : Heap} (b : Bk) (hb : b.ok h) (hs : b.stOk) : CallsH Tryz.prog 156 ⟨[.agg ⟨b.cells⟩]⟩ h fun u h' => u = .bool true ∧ Ext No h h' := by
  obtain ⟨k, st, t, n, v, x, y, vo, lo, vc, lc, vr, lr, vf, lf⟩ := b
  simp only [Bk.stOk] at hs
  dsimp only [Bk.cells]
  by_cases hk : k = 90
  · subst hk
    simp only [ne_eq, not_true_eq_false, false_or] at hs
    rcases hs with rfl | rfl | rfl
    all_goals
      refine calls [(0, _)] Tryz.func156 rfl Tryz.ntmps156 rfl ⟨rfl, trivial⟩ ?_
      all_goals (refine WC.sr ?_)
      all_goals (refine WL.stepR (okE_box rfl) rfl rfl rfl ?_
                 rintro _ h1 ⟨b1, rfl, hg1, hb1, hx1⟩)
      all_goals (refine Go ?_)
      all_goals (refine WC.sr ?_)
      all_goals (refine Go ?_)
      all_goals (refine Ld ?_)
      all_goals (refine Go ?_)
      all_goals (refine goP 6 ?_ ?_ <;> first | exact ⟨⟩ | refine Hb.mk fun hb => ?_ | skip)
      all_goals (refine Gg ?_)
      all_goals (first | (refine WL.pass rfl rfl rfl ?_) | (refine Ld ?_))
      all_goals (refine Gg ?_)
      all_goals (refine Go ?_)
      all_goals (refine goP 11 ?_ ?_ <;> first | exact ⟨⟩ | refine Hb.mk fun hb => ?_ | skip)
      all_goals (refine Gg ?_)
      all_goals (first | (refine WL.pass rfl rfl rfl ?_) | (refine Ld ?_))
      all_goals (refine Gg ?_)
      all_goals (refine Go ?_)
      all_goals (refine goP 16 ?_ ?_ <;> first | exact ⟨⟩ | refine Hb.mk fun hb => ?_ | skip)
      all_goals (refine Gg ?_)
      all_goals (first | (refine WL.pass rfl rfl rfl ?_) | (refine Ld ?_))
      all_goals (refine Gg ?_)
      all_goals (refine Go ?_)
      all_goals (refine Gs [(2, _)] ?_)
      all_goals (refine Gt ?_)
      all_goals (exact ⟨rfl, hx1⟩)
  ·
    refine calls [(0, _)] Tryz.func156 rfl Tryz.ntmps156 rfl ⟨rfl, trivial⟩ ?_
    all_goals (refine WC.sr ?_)
    all_goals (refine WL.stepR (okE_box rfl) rfl rfl rfl ?_
               rintro _ h1 ⟨b1, rfl, hg1, hb1, hx1⟩)
    all_goals (refine Go ?_)
    all_goals (refine WC.sr ?_)
    all_goals (refine Go ?_)
    all_goals (refine Ld ?_)
    all_goals (refine Go ?_)
    all_goals (refine goP 6 ?_ ?_ <;> first | exact ⟨⟩ | refine Hb.mk fun hb => ?_ | skip)
    all_goals (refine Gg ?_)
    all_goals (first | (refine WL.pass rfl rfl rfl ?_) | (refine Ld ?_))
    all_goals (refine Gg ?_)
    all_goals (refine Go ?_)
    all_goals (refine goP 11 ?_ ?_ <;> first | exact ⟨⟩ | refine Hb.mk fun hb => ?_ | skip)
    all_goals (refine Gg ?_)
    all_goals (first | (refine WL.pass rfl rfl rfl ?_) | (refine Ld ?_))
    all_goals (refine Gg ?_)
    all_goals (refine Go ?_)
    all_goals (refine goP 16 ?_ ?_ <;> first | exact ⟨⟩ | refine Hb.mk fun hb => ?_ | skip)
    all_goals (refine Gg ?_)
    all_goals (first | (refine WL.pass rfl rfl rfl ?_) | (refine Ld ?_))
    all_goals (refine Gg ?_)
    all_goals (refine Go ?_)
    all_goals (refine Gs [(2, _)] ?_)
    all_goals (refine Gt ?_)
    all_goals (exact ⟨rfl, hx1⟩)
/-- A message that may be. -/
structure Bk.may (b : Bk) : Prop where
  kind : ∃ k : UInt8, Value.int .u8 b.kind = By k ∧ kindsB.contains k = true
  tag : cleanB b.tag = true
  name : cleanB b.name = true
  value : cleanB b.value = true
  cols : b.cols.length ≤ 65535 ∧ ∀ c ∈ b.cols, c.okB
  fields : b.fields.length ≤ 65535 ∧ ∀ f ∈ b.fields, f.okB
  row : b.row.length ≤ 65535 ∧ ∀ c ∈ b.row, c.okB
  oids : b.oids.length ≤ 65535 ∧ ∀ n ∈ b.oids, 0 ≤ n ∧ n ≤ 4294967295
  n : 0 ≤ b.n ∧ b.n ≤ 4294967295
  m : 0 ≤ b.m ∧ b.m ≤ 4294967295
  st : b.stOk
  own : (ofB b).pl = b.pl
set_option maxHeartbeats 4000000 in
set_option maxRecDepth 100000 in
theorem check_back {h : Heap} (b : Bk) (hb : b.ok h) (hm : b.may) : CallsH Tryz.prog 98 ⟨[.agg ⟨b.cells⟩]⟩ h fun u h' => u = In 0 ∧ Ext No h h' := by
  have hof := fun {h' : Heap} (hx : Ext No h h') => of_back (h := h') b (hb.ext0 hx)
  have hst := fun {h' : Heap} (hx : Ext No h h') => status_ok (h := h') b (hb.ext0 hx) hm.st
  have hsa := fun {h' : Heap} (hx : Ext No h h') => same_back (h := h') b (ofB b) (hb.ext0 hx) (ofB_ok (hb.ext0 hx)) hm.own.symm
  obtain ⟨⟨k8, hk8, hkc⟩, h1, h2, h3, h4, h5, h6, h7, h8, h9, _, _⟩ := hm
  generalize ofB b = ob at hof hsa
  obtain ⟨ho, hc, hr, hf⟩ := hb
  obtain ⟨k, st, t, n, v, x, y, vo, lo, vc, lc, vr, lr, vf, lf⟩ := b
  simp only at hk8 h1 h2 h3 h4 h5 h6 h7 h8 h9 ho hc hr hf
  dsimp only [Bk.cells] at hof hst hsa ⊢
  have hkn : ∀ {h : Heap}, CallsH Tryz.prog 147 ⟨[.int .u8 k]⟩ h fun u h' => u = .bool true ∧ Ext No h h' := by rw [hk8]; exact known_back k8 hkc
  refine calls [(0, _)] Tryz.func98 rfl Tryz.ntmps98 rfl ⟨rfl, trivial⟩ ?_
  all_goals (refine WC.sr ?_)
  all_goals (refine WL.stepR (okE_box rfl) rfl rfl rfl ?_
             rintro _ g1 ⟨b1, rfl, hg1, hb1, hx1⟩)
  all_goals (refine Go ?_)
  all_goals (refine WC.seq ?_)
  all_goals (refine WC.sr ?_)
  all_goals (refine Go ?_)
  all_goals (refine Ld ?_)
  all_goals (refine WL.call (vs := [_]) rfl (fun a w => Tryz.call147 a w) rfl (hkn) rfl rfl rfl ?_
             rintro _ g2 ⟨rfl, hx2⟩)
  all_goals (have hb2 := hx2.obj hb1 nos
             have hX2 := hx1.trans hx2)
  all_goals (refine Go ?_)
  all_goals (refine Gs [(1, _), (8, _)] ?_)
  all_goals (refine goC 1 2 ?_ ?_ <;> first | exact ⟨⟩ | refine Hb.mk fun hb => ?_ | skip)
  all_goals (first | (fail_if_success refine goB 1 ?_) | (
  refine goB 1 ?_
  all_goals (refine WC.sr ?_)
  all_goals (refine Go ?_)
  all_goals (refine Gt ?_)
  all_goals (exact ⟨rfl, hX8.trans hx9⟩)
  skip))
  all_goals (first | (fail_if_success refine goB 2 ?_) | (
  refine goB 2 ?_
  all_goals (refine WC.skip ?_)
  skip))
  all_goals (refine Gn ?_)
  all_goals (refine WC.sr ?_)
  all_goals (refine Go ?_)
  all_goals (refine Ld ?_)
  all_goals (refine WL.call (vs := [_]) rfl (fun a w => Tryz.call143 a w) rfl ((clean_any t).as (congrArg Value.bool h1)) rfl rfl rfl ?_
             rintro _ hz ⟨rfl, _⟩
             subst hz)
  all_goals (refine Go ?_)
  all_goals (refine goP 12 ?_ ?_ <;> first | exact ⟨⟩ | refine Hb.mk fun hb => ?_ | skip)
  all_goals (refine Gg ?_)
  all_goals (first | (refine WL.pass rfl rfl rfl ?_) | (refine Ld ?_))
  all_goals (first
               | (refine WL.pass rfl rfl rfl ?_)
               | (refine WL.call (vs := [_]) rfl (fun a w => Tryz.call143 a w) rfl ((clean_any n).as (congrArg Value.bool h2)) rfl rfl rfl ?_
                  rintro _ hz ⟨rfl, _⟩
                  subst hz))
  all_goals (refine Go ?_)
  all_goals (refine goP 17 ?_ ?_ <;> first | exact ⟨⟩ | refine Hb.mk fun hb => ?_ | skip)
  all_goals (refine Gg ?_)
  all_goals (first | (refine WL.pass rfl rfl rfl ?_) | (refine Ld ?_))
  all_goals (first
               | (refine WL.pass rfl rfl rfl ?_)
               | (refine WL.call (vs := [_]) rfl (fun a w => Tryz.call143 a w) rfl ((clean_any v).as (congrArg Value.bool h3)) rfl rfl rfl ?_
                  rintro _ hz ⟨rfl, _⟩
                  subst hz))
  all_goals (refine Go ?_)
  all_goals (refine Gs [(1, _), (3, _)] ?_)
  all_goals (refine WC.sr ?_)
  all_goals (refine Go ?_)
  all_goals (refine Ld ?_)
  all_goals (refine WL.call (vs := [_, _]) rfl (fun a w => Tryz.call148 a w) rfl (every_col lc (hc.1.ext0 hX2) h4.1 (fun a w => Tryz.call149 a w) (fun c hc _ _ => column_ok c (h4.2 c hc))) rfl rfl rfl ?_
             rintro _ g3 ⟨rfl, hx3⟩)
  all_goals (have hb3 := hx3.obj hb2 nos
             have hX3 := hX2.trans hx3)
  all_goals (refine Go ?_)
  all_goals (refine goP 25 ?_ ?_ <;> first | exact ⟨⟩ | refine Hb.mk fun hb => ?_ | skip)
  all_goals (refine Gg ?_)
  all_goals (first | (refine WL.pass rfl rfl rfl ?_) | (refine Ld ?_))
  all_goals (first
               | (refine WL.pass rfl rfl rfl ?_)
               | (refine WL.call (vs := [_, _]) rfl (fun a w => Tryz.call150 a w) rfl (every_fld lf (hf.1.ext0 hX3) h5.1 (fun a w => Tryz.call151 a w) (fun c hc _ _ => field_ok c (h5.2 c hc))) rfl rfl rfl ?_
                  rintro _ g4 ⟨rfl, hx4⟩))
  all_goals (have hb4 := hx4.obj hb3 nos
             have hX4 := hX3.trans hx4)
  all_goals (refine Go ?_)
  all_goals (refine goP 30 ?_ ?_ <;> first | exact ⟨⟩ | refine Hb.mk fun hb => ?_ | skip)
  all_goals (refine Gg ?_)
  all_goals (first | (refine WL.pass rfl rfl rfl ?_) | (refine Ld ?_))
  all_goals (first
               | (refine WL.pass rfl rfl rfl ?_)
               | (refine WL.call (vs := [_, _]) rfl (fun a w => Tryz.call152 a w) rfl (every_cel lr (hr.1.ext0 hX4) h6.1 (fun a w => Tryz.call153 a w) (fun c hc _ _ => cell_ok c (hr.2.2 c hc) (h6.2 c hc))) rfl rfl rfl ?_
                  rintro _ g5 ⟨rfl, hx5⟩))
  all_goals (have hb5 := hx5.obj hb4 nos
             have hX5 := hX4.trans hx5)
  all_goals (refine Go ?_)
  all_goals (refine goP 35 ?_ ?_ <;> first | exact ⟨⟩ | refine Hb.mk fun hb => ?_ | skip)
  all_goals (refine Gg ?_)
  all_goals (first | (refine WL.pass rfl rfl rfl ?_) | (refine Ld ?_))
  all_goals (first
               | (refine WL.pass rfl rfl rfl ?_)
               | (refine WL.call (vs := [_, _]) rfl (fun a w => Tryz.call154 a w) rfl (every_int lo (ho.1.ext0 hX5) h7.1 h7.2) rfl rfl rfl ?_
                  rintro _ g6 ⟨rfl, hx6⟩))
  all_goals (have hb6 := hx6.obj hb5 nos
             have hX6 := hX5.trans hx6)
  all_goals (refine Go ?_)
  all_goals (refine Gs [(1, _), (3, _), (4, _)] ?_)
  all_goals (refine WC.seq ?_)
  all_goals (refine WC.seq ?_)
  all_goals (refine WC.drawH (fun h' => h'[b1]? = some (.cells ⟨[.int .u8 k, .int .u8 st, St t, St n, St v, In x, In y, vo, vc, vr, vf]⟩ 92 (0, 0))) 30 30 rfl fol ?_)
  all_goals (refine WH.tk 0 rfl (fun hq hC => ok_move rfl) rfl rfl rfl ?_ (hC := (by first | exact hb6 | exact hb7 | exact hb8 | exact hb9)))
  all_goals (refine WH.tk 1 rfl (fun hq hC => ok_not rfl) rfl rfl rfl ?_ (hC := (by first | exact hb6 | exact hb7 | exact hb8 | exact hb9)))
  all_goals (refine WH.tk 2 rfl (fun hq hC => ok_move rfl) rfl rfl rfl ?_ (hC := (by first | exact hb6 | exact hb7 | exact hb8 | exact hb9)))
  all_goals (try ((fail_if_success (refine WH.part 42 (b := true) rfl (fun _ => ?_) (fun _ => ?_))); (fail_if_success (refine WH.part 42 (b := false) rfl (fun _ => ?_) (fun _ => ?_))); (refine WH.part 42 rfl (fun hb => ?_) (fun hb => ?_))))
  all_goals (first | (refine WH.ps 3 rfl rfl rfl rfl ?_ (hC := (by first | exact hb6 | exact hb7 | exact hb8 | exact hb9))) | (refine WH.tk 3 rfl (fun hq hC => ok_move rfl) rfl rfl rfl ?_ (hC := (by first | exact hb6 | exact hb7 | exact hb8 | exact hb9))))
  all_goals (first | (refine WH.ps 4 rfl rfl rfl rfl ?_ (hC := (by first | exact hb6 | exact hb7 | exact hb8 | exact hb9))) | (refine WH.tk 4 rfl (fun hq hC => ok_not rfl) rfl rfl rfl ?_ (hC := (by first | exact hb6 | exact hb7 | exact hb8 | exact hb9))))
  all_goals (first | (refine WH.tk 5 rfl (fun hq hC => ok_pick_t rfl rfl) rfl rfl rfl ?_ (hC := (by first | exact hb6 | exact hb7 | exact hb8 | exact hb9))) | (refine WH.tk 5 rfl (fun hq hC => ok_pick_f rfl rfl) rfl rfl rfl ?_ (hC := (by first | exact hb6 | exact hb7 | exact hb8 | exact hb9))))
  all_goals (refine WH.tk 6 rfl (fun hq hC => ok_move rfl) rfl rfl rfl ?_ (hC := (by first | exact hb6 | exact hb7 | exact hb8 | exact hb9)))
  all_goals (try ((fail_if_success (refine WH.part 46 (b := true) rfl (fun _ => ?_) (fun _ => ?_))); (fail_if_success (refine WH.part 46 (b := false) rfl (fun _ => ?_) (fun _ => ?_))); (refine WH.part 46 rfl (fun hb => ?_) (fun hb => ?_))))
  all_goals (first | (refine WH.ps 7 rfl rfl rfl rfl ?_ (hC := (by first | exact hb6 | exact hb7 | exact hb8 | exact hb9))) | (refine WH.tk 7 rfl (fun hq hC => ok_fieldAddr rfl Tryz.underlying92 rfl (fun w => Tryz.sizeOf3 w)) rfl rfl rfl ?_ (hC := (by first | exact hb6 | exact hb7 | exact hb8 | exact hb9))))
  all_goals (first | (refine WH.ps 8 rfl rfl rfl rfl ?_ (hC := (by first | exact hb6 | exact hb7 | exact hb8 | exact hb9))) | (refine WH.tk 8 rfl (fun hq hC => ok_load (fun w => Tryz.isAgg3 w) rfl (cell_blk hC rfl)) rfl rfl rfl ?_ (hC := (by first | exact hb6 | exact hb7 | exact hb8 | exact hb9))))
  all_goals (first
    | (refine WH.ps 9 rfl rfl rfl rfl ?_ (hC := (by first | exact hb6 | exact hb7 | exact hb8 | exact hb9)))
    | (all_goals (refine WH.one 9 (by kernel_rfl) ?_)
       all_goals (refine Comes1.call (vs := [_]) rfl rfl (fun a w => Tryz.call155 a w) rfl (oid_ok x h8.1 h8.2) rfl rfl rfl ?_ (fun _ => by kernel_rfl)
                  rintro _ hz ⟨rfl, _⟩
                  subst hz)
       all_goals (refine ⟨fun _ => by first | assumption | trivial, ?_⟩)
       skip))
  all_goals (first | (refine WH.ps 10 rfl rfl rfl rfl ?_ (hC := (by first | exact hb6 | exact hb7 | exact hb8 | exact hb9))) | (refine WH.tk 10 rfl (fun hq hC => ok_not rfl) rfl rfl rfl ?_ (hC := (by first | exact hb6 | exact hb7 | exact hb8 | exact hb9))))
  all_goals (first | (refine WH.tk 11 rfl (fun hq hC => ok_pick_t rfl rfl) rfl rfl rfl ?_ (hC := (by first | exact hb6 | exact hb7 | exact hb8 | exact hb9))) | (refine WH.tk 11 rfl (fun hq hC => ok_pick_f rfl rfl) rfl rfl rfl ?_ (hC := (by first | exact hb6 | exact hb7 | exact hb8 | exact hb9))))
  all_goals (refine WH.tk 12 rfl (fun hq hC => ok_move rfl) rfl rfl rfl ?_ (hC := (by first | exact hb6 | exact hb7 | exact hb8 | exact hb9)))
  all_goals (try ((fail_if_success (refine WH.part 52 (b := true) rfl (fun _ => ?_) (fun _ => ?_))); (fail_if_success (refine WH.part 52 (b := false) rfl (fun _ => ?_) (fun _ => ?_))); (refine WH.part 52 rfl (fun hb => ?_) (fun hb => ?_))))
  all_goals (first | (refine WH.ps 13 rfl rfl rfl rfl ?_ (hC := (by first | exact hb6 | exact hb7 | exact hb8 | exact hb9))) | (refine WH.tk 13 rfl (fun hq hC => ok_fieldAddr rfl Tryz.underlying92 rfl (fun w => Tryz.sizeOf3 w)) rfl rfl rfl ?_ (hC := (by first | exact hb6 | exact hb7 | exact hb8 | exact hb9))))
  all_goals (first | (refine WH.ps 14 rfl rfl rfl rfl ?_ (hC := (by first | exact hb6 | exact hb7 | exact hb8 | exact hb9))) | (refine WH.tk 14 rfl (fun hq hC => ok_load (fun w => Tryz.isAgg3 w) rfl (cell_blk hC rfl)) rfl rfl rfl ?_ (hC := (by first | exact hb6 | exact hb7 | exact hb8 | exact hb9))))
  all_goals (first
    | (refine WH.ps 15 rfl rfl rfl rfl ?_ (hC := (by first | exact hb6 | exact hb7 | exact hb8 | exact hb9)))
    | (all_goals (refine WH.one 15 (by kernel_rfl) ?_)
       all_goals (refine Comes1.call (vs := [_]) rfl rfl (fun a w => Tryz.call155 a w) rfl (oid_ok y h9.1 h9.2) rfl rfl rfl ?_ (fun _ => by kernel_rfl)
                  rintro _ hz ⟨rfl, _⟩
                  subst hz)
       all_goals (refine ⟨fun _ => by first | assumption | trivial, ?_⟩)
       skip))
  all_goals (first | (refine WH.ps 16 rfl rfl rfl rfl ?_ (hC := (by first | exact hb6 | exact hb7 | exact hb8 | exact hb9))) | (refine WH.tk 16 rfl (fun hq hC => ok_not rfl) rfl rfl rfl ?_ (hC := (by first | exact hb6 | exact hb7 | exact hb8 | exact hb9))))
  all_goals (first | (refine WH.tk 17 rfl (fun hq hC => ok_pick_t rfl rfl) rfl rfl rfl ?_ (hC := (by first | exact hb6 | exact hb7 | exact hb8 | exact hb9))) | (refine WH.tk 17 rfl (fun hq hC => ok_pick_f rfl rfl) rfl rfl rfl ?_ (hC := (by first | exact hb6 | exact hb7 | exact hb8 | exact hb9))))
  all_goals (refine WH.tk 18 rfl (fun hq hC => ok_move rfl) rfl rfl rfl ?_ (hC := (by first | exact hb6 | exact hb7 | exact hb8 | exact hb9)))
  all_goals (try ((fail_if_success (refine WH.part 58 (b := true) rfl (fun _ => ?_) (fun _ => ?_))); (fail_if_success (refine WH.part 58 (b := false) rfl (fun _ => ?_) (fun _ => ?_))); (refine WH.part 58 rfl (fun hb => ?_) (fun hb => ?_))))
  all_goals (first | (refine WH.ps 19 rfl rfl rfl rfl ?_ (hC := (by first | exact hb6 | exact hb7 | exact hb8 | exact hb9))) | (refine WH.tk 19 rfl (fun hq hC => ok_loadN (fun w => Tryz.isAgg92 w) (fun w => Tryz.sizeOf92 w) rfl rfl (by exact At.of_block hC)) rfl rfl rfl ?_ (hC := (by first | exact hb6 | exact hb7 | exact hb8 | exact hb9))))
  all_goals (first
    | (refine WH.ps 20 rfl rfl rfl rfl ?_ (hC := (by first | exact hb6 | exact hb7 | exact hb8 | exact hb9)))
    | (all_goals (refine WH.one 20 (by kernel_rfl) ?_)
       all_goals (refine Comes1.call (vs := [_]) rfl rfl (fun a w => Tryz.call156 a w) rfl (hst hX6) rfl rfl rfl ?_ (fun _ => by kernel_rfl)
                  rintro _ g7 ⟨rfl, hx7⟩)
       all_goals (refine ⟨fun _ => hx7.obj hb6 nos, ?_⟩)
       all_goals (have hb7 := hx7.obj hb6 nos
                  have hX7 := hX6.trans hx7)
       skip))
  all_goals (first | (refine WH.ps 21 rfl rfl rfl rfl ?_ (hC := (by first | exact hb6 | exact hb7 | exact hb8 | exact hb9))) | (refine WH.tk 21 rfl (fun hq hC => ok_not rfl) rfl rfl rfl ?_ (hC := (by first | exact hb6 | exact hb7 | exact hb8 | exact hb9))))
  all_goals (first | (refine WH.tk 22 rfl (fun hq hC => ok_pick_t rfl rfl) rfl rfl rfl ?_ (hC := (by first | exact hb6 | exact hb7 | exact hb8 | exact hb9))) | (refine WH.tk 22 rfl (fun hq hC => ok_pick_f rfl rfl) rfl rfl rfl ?_ (hC := (by first | exact hb6 | exact hb7 | exact hb8 | exact hb9))))
  all_goals (refine WH.tk 23 rfl (fun hq hC => ok_move rfl) rfl rfl rfl ?_ (hC := (by first | exact hb6 | exact hb7 | exact hb8 | exact hb9)))
  all_goals (try ((fail_if_success (refine WH.part 63 (b := true) rfl (fun _ => ?_) (fun _ => ?_))); (fail_if_success (refine WH.part 63 (b := false) rfl (fun _ => ?_) (fun _ => ?_))); (refine WH.part 63 rfl (fun hb => ?_) (fun hb => ?_))))
  all_goals (first | (refine WH.ps 24 rfl rfl rfl rfl ?_ (hC := (by first | exact hb6 | exact hb7 | exact hb8 | exact hb9))) | (refine WH.tk 24 rfl (fun hq hC => ok_loadN (fun w => Tryz.isAgg92 w) (fun w => Tryz.sizeOf92 w) rfl rfl (by exact At.of_block hC)) rfl rfl rfl ?_ (hC := (by first | exact hb6 | exact hb7 | exact hb8 | exact hb9))))
  all_goals (first | (refine WH.ps 25 rfl rfl rfl rfl ?_ (hC := (by first | exact hb6 | exact hb7 | exact hb8 | exact hb9))) | (refine WH.tk 25 rfl (fun hq hC => ok_loadN (fun w => Tryz.isAgg92 w) (fun w => Tryz.sizeOf92 w) rfl rfl (by exact At.of_block hC)) rfl rfl rfl ?_ (hC := (by first | exact hb6 | exact hb7 | exact hb8 | exact hb9))))
  all_goals (first
    | (refine WH.ps 26 rfl rfl rfl rfl ?_ (hC := (by first | exact hb6 | exact hb7 | exact hb8 | exact hb9)))
    | (all_goals (refine WH.one 26 (by kernel_rfl) ?_)
       all_goals (refine Comes1.call (vs := [_]) rfl rfl (fun a w => Tryz.call158 a w) rfl (hof hX7) rfl rfl rfl ?_ (fun _ => by kernel_rfl)
                  rintro _ g8 ⟨rfl, hx8⟩)
       all_goals (refine ⟨fun _ => hx8.obj hb7 nos, ?_⟩)
       all_goals (have hb8 := hx8.obj hb7 nos
                  have hX8 := hX7.trans hx8)
       skip))
  all_goals (first
    | (refine WH.ps 27 rfl rfl rfl rfl ?_ (hC := (by first | exact hb6 | exact hb7 | exact hb8 | exact hb9)))
    | (all_goals (refine WH.one 27 (by kernel_rfl) ?_)
       all_goals (refine Comes1.call (vs := [_, _]) rfl rfl (fun a w => Tryz.call157 a w) rfl (hsa hX8) rfl rfl rfl ?_ (fun _ => by kernel_rfl)
                  rintro _ g9 ⟨rfl, hx9⟩)
       all_goals (refine ⟨fun _ => hx9.obj hb8 nos, ?_⟩)
       all_goals (have hb9 := hx9.obj hb8 nos)
       skip))
  all_goals (first | (refine WH.ps 28 rfl rfl rfl rfl ?_ (hC := (by first | exact hb6 | exact hb7 | exact hb8 | exact hb9))) | (refine WH.tk 28 rfl (fun hq hC => ok_not rfl) rfl rfl rfl ?_ (hC := (by first | exact hb6 | exact hb7 | exact hb8 | exact hb9))))
  all_goals (first | (refine WH.tk 29 rfl (fun hq hC => ok_pick_t rfl rfl) rfl rfl rfl ?_ (hC := (by first | exact hb6 | exact hb7 | exact hb8 | exact hb9))) | (refine WH.tk 29 rfl (fun hq hC => ok_pick_f rfl rfl) rfl rfl rfl ?_ (hC := (by first | exact hb6 | exact hb7 | exact hb8 | exact hb9))))
  all_goals (refine WH.done (by kernel_rfl) ?_)
  all_goals (refine Gn ?_)
  all_goals (refine Gs [(69, _)] ?_)
  all_goals (refine goC 3 4 ?_ ?_ <;> first | exact ⟨⟩ | refine Hb.mk fun hb => ?_ | skip)
  all_goals (first | (fail_if_success refine goB 3 ?_) | (
  refine goB 3 ?_
  all_goals (refine WC.sr ?_)
  all_goals (refine Go ?_)
  all_goals (refine Gt ?_)
  all_goals (exact ⟨rfl, hX8.trans hx9⟩)
  skip))
  all_goals (first | (fail_if_success refine goB 4 ?_) | (
  refine goB 4 ?_
  all_goals (refine WC.skip ?_)
  skip))
  all_goals (refine Gn ?_)
  all_goals (refine WC.sr ?_)
  all_goals (refine Go ?_)
  all_goals (refine Gt ?_)
  all_goals (exact ⟨rfl, hX8.trans hx9⟩)
end Go.Proofs.YtdjjpbbhcidaaaaGreatDoor


/-
  WHAT IS SAID FIRST (layers 7, 11): the bytes of R, K, Z, as the code writes them.
-/
namespace Go.Proofs.YtdjjpbbhcidaaaaGreatDoor
open Go Go.RK

set_option maxHeartbeats 2000000 in
set_option maxRecDepth 100000 in
theorem wnum {h : Heap} {b : Nat} {v : Value} {l : List UInt8} (hb : h[b]? = some (.cells ⟨[v]⟩ 174 (0, 0))) (ho : Own h v 5 1 l.length (bys l)) (hl : l.length ≤ 1000) (n : Int) (hr : Rt n 4) :
    CallsH Tryz.prog 99 ⟨[.pointer (some ⟨b, 0, none⟩), In n, In 4]⟩ h fun _ h' => ∃ v', h'[b]? = some (.cells ⟨[v']⟩ 174 (0, 0)) ∧ Own h' v' 5 1 (l ++ be n 4).length (bys (l ++ be n 4)) ∧ Ext (fun q => q = b) h h' ∧ ∀ q, v'.ownBlock = some q → h.size ≤ q := by
  refine calls [(0, _), (1, _), (2, _)] Tryz.func99 rfl Tryz.ntmps99 rfl ⟨rfl, rfl, rfl, trivial⟩ ?_
  all_goals (refine WC.region ?_)
  all_goals (refine Go ?_)
  all_goals (refine WL.step (ok_nilCheck rfl) rfl rfl rfl ?_)
  all_goals (refine Go ?_)
  all_goals (refine WL.ld rfl (by first | exact cell_blk hb rfl | assumption | exact cell_blk (by assumption) rfl) rfl rfl rfl ?_)
  all_goals (refine Go ?_)
  all_goals (refine WL.call (vs := [_, _, _]) rfl (fun a w => Tryz.call123 a w) rfl (put_v l n 4 (.inr (.inr rfl)) hr ho.rd (by omega)) rfl rfl rfl ?_
             rintro v1 h1 ⟨ho1, hx1, hf1⟩
             have hb1 := hx1.obj hb nos
             obtain ⟨A1, c1, rfl, _⟩ := id ho1.slice)
  all_goals (refine WL.step (ok_nilCheck rfl) rfl rfl rfl ?_)
  all_goals (refine Go ?_)
  all_goals (refine WL.stepR0 (okE_store (fun w => Tryz.sizeOf22 w) rfl rfl hb1 (Nat.le_of_ble_eq_true rfl) rfl rfl) rfl rfl ?_
             rintro _ h2 ⟨hb2, hx2⟩)
  all_goals (refine Gn ?_)
  all_goals (refine retP_n [] trivial ?_)
  all_goals (exact ⟨_, hb2, ho1.ext hx2 (fun q hq e => own_ne ho1 hb1 (by decide) (e ▸ hq)), (hx1.mono fun _ _ e => e.elim).trans hx2, hf1⟩)
def gB (k st n m : Int) : Bk := ⟨k, st, [], [], [], n, m, .slice none 0 0, [], .slice none 0 0, [], .slice none 0 0, [], .slice none 0 0, []⟩
theorem gB_ok (k st n m : Int) (h : Heap) : (gB k st n m).ok h := ⟨⟨Rd.nil _ _, by simp [gB, maxLen]⟩, ⟨Rd.nil _ _, by simp [gB, maxLen]⟩, ⟨Rd.nil _ _, ⟨by simp [gB], _, _, rfl, by decide⟩, by simp [gB]⟩, ⟨Rd.nil _ _, by simp [gB, maxLen]⟩⟩
theorem gR_may : (gB 82 0 0 0).may := ⟨⟨82, rfl, by decide⟩, by decide, by decide, by decide, ⟨by simp [gB], by simp [gB]⟩, ⟨by simp [gB], by simp [gB]⟩, ⟨by simp [gB], by simp [gB]⟩, ⟨by simp [gB], by simp [gB]⟩, by decide, by decide, .inl (by decide), by simp [ofB, gB, zB]⟩
theorem gK_may : (gB 75 0 1 7919).may := ⟨⟨75, rfl, by decide⟩, by decide, by decide, by decide, ⟨by simp [gB], by simp [gB]⟩, ⟨by simp [gB], by simp [gB]⟩, ⟨by simp [gB], by simp [gB]⟩, ⟨by simp [gB], by simp [gB]⟩, by decide, by decide, .inl (by decide), by simp [ofB, gB, zB]⟩
theorem gZ_may : (gB 90 73 0 0).may := ⟨⟨90, rfl, by decide⟩, by decide, by decide, by decide, ⟨by simp [gB], by simp [gB]⟩, ⟨by simp [gB], by simp [gB]⟩, ⟨by simp [gB], by simp [gB]⟩, ⟨by simp [gB], by simp [gB]⟩, by decide, by decide, .inr (by decide), by simp [ofB, gB, zB]⟩
def First3 (k st n m : Int) (L : List UInt8) : Prop := (k = 82 ∧ st = 0 ∧ n = 0 ∧ m = 0 ∧ L = be 0 4) ∨ (k = 75 ∧ st = 0 ∧ n = 1 ∧ m = 7919 ∧ L = be 1 4 ++ be 7919 4) ∨ (k = 90 ∧ st = 73 ∧ n = 0 ∧ m = 0 ∧ L = [73])
set_option maxHeartbeats 2000000 in
set_option maxRecDepth 100000 in
theorem enc_g {h : Heap} {k st n m : Int} {L : List UInt8} (hc : First3 k st n m L) : CallsH Tryz.prog 59 ⟨[.agg ⟨(gB k st n m).cells⟩]⟩ h fun u h' => ∃ v', u = .tuple ⟨[.agg ⟨[.int .u8 k, v']⟩, In 0]⟩ ∧ Own h' v' 5 1 L.length (bys L) ∧ Ext No h h' ∧ ∀ q, v'.ownBlock = some q → h.size ≤ q := by
  have kc : ∀ h' : Heap, CallsH Tryz.prog 98 ⟨[.agg ⟨(gB k st n m).cells⟩]⟩ h' fun u h'' => u = In 0 ∧ Ext No h' h'' := fun h' => check_back _ (gB_ok _ _ _ _ _) (by rcases hc with ⟨rfl, rfl, rfl, rfl, _⟩ | ⟨rfl, rfl, rfl, rfl, _⟩ | ⟨rfl, rfl, rfl, rfl, _⟩; exact gR_may; exact gK_may; exact gZ_may)
  have kw := fun (h' : Heap) (b : Nat) (hb : h'[b]? = some (.cells ⟨[.slice none 0 0]⟩ 174 (0, 0))) (n : Int) (hr : Rt n 4) => wnum (l := []) hb (Own.nil _ _ _) (by decide) n hr
  have kw2 := fun (h' : Heap) (b : Nat) (v : Value) (hb : h'[b]? = some (.cells ⟨[v]⟩ 174 (0, 0))) (ho : Own h' v 5 1 (be 1 4).length (bys (be 1 4))) => wnum (l := be 1 4) hb ho (by rw [be_len]; omega) 7919 (by unfold Rt; decide)
  dsimp only [Bk.cells, gB, List.nil_append] at kc kw ⊢
  rcases hc with ⟨rfl, rfl, rfl, rfl, rfl⟩ | ⟨rfl, rfl, rfl, rfl, rfl⟩ | ⟨rfl, rfl, rfl, rfl, rfl⟩
  all_goals
    refine calls [(0, _)] Tryz.func59 rfl Tryz.ntmps59 rfl ⟨rfl, trivial⟩ ?_
    all_goals (refine WC.sr ?_)
    all_goals (refine WL.stepR (okE_box rfl) rfl rfl rfl ?_
               rintro _ h1 ⟨b1, rfl, hg1, hb1, hx1⟩)
    all_goals (refine WL.stepR (okE_alloc (fun w => Tryz.zeroValue38 w)) rfl rfl rfl ?_
               rintro _ h2 ⟨b2, rfl, hg2, hb2, hx2⟩)
    all_goals (have hX2 := hx1.trans hx2
               have hb12 := hx2.obj hb1 nos)
    all_goals (refine Go ?_)
    all_goals (refine WC.seq ?_)
    all_goals (refine WC.sr ?_)
    all_goals (refine WL.step (ok_loadN (fun w => Tryz.isAgg92 w) (fun w => Tryz.sizeOf92 w) rfl rfl (by exact At.of_block hb12)) rfl rfl rfl ?_)
    all_goals (refine WL.call (vs := [_]) rfl (fun a w => Tryz.call98 a w) rfl (kc _) rfl rfl rfl ?_
               rintro _ h3 ⟨rfl, hx3⟩)
    all_goals (have hb13 := hx3.obj hb12 nos
               have hb23 := hx3.obj hb2 nos
               have hX3 := hX2.trans hx3)
    all_goals (refine Go ?_)
    all_goals (refine Gs [(1, _), (2, _), (4, _)] ?_)
    all_goals (refine WC.sr ?_)
    all_goals (refine Go ?_)
    all_goals (refine goC 1 2 ?_ ?_ <;> first | exact ⟨⟩ | refine Hb.mk fun hb => ?_ | skip)
    all_goals (first | (fail_if_success refine goB 1 ?_) | (
    refine goB 1 ?_
    all_goals (refine WC.sr ?_)
    all_goals (refine WL.step (ok_buildF (vs := []) (cs := [_, _]) (fun | [] => [(.int .u8 0), (.slice none 0 0)] | _ => []) rfl rfl (by kernel_rfl)) rfl rfl rfl ?_)
    all_goals (refine Go ?_)
    all_goals (refine WL.stepR0 (okE_storeW (fun w => Tryz.sizeOf38 w) rfl rfl rfl (by assumption) rfl (by simp [Value.oneCell'])) rfl rfl ?_
               rintro _ h1 ⟨hb1, hx1⟩)
    all_goals (refine Go ?_)
    all_goals (refine Gs [(2, _), (3, _)] ?_)
    all_goals (refine WC.ret ?_)
    all_goals (repeat' (with_reducible first | refine thenP_r ?_ | refine blockP_r ?_))
    all_goals (refine retP_2 _ _ ⟨⟨_, rfl, ld_blk (fun w => Tryz.isAgg38 w) (fun w => Tryz.sizeOf38 w) hb8 rfl⟩, rfl, trivial⟩ ?_)
    all_goals (exact ⟨_, rfl, ho6.ext hx8 (fun q hq e => own_ne ho6 hb24 (by decide) (e ▸ hq)), X.trans' hx8 (fun q hq e => by omega), hf6⟩)
    skip))
    all_goals (first | (fail_if_success refine goB 2 ?_) | (
    refine goB 2 ?_
    all_goals (refine WC.skip ?_)
    skip))
    all_goals (refine Gn ?_)
    all_goals (refine WC.sr ?_)
    all_goals (refine WL.step (ok_buildF (vs := []) (cs := [_]) (fun | [] => [(.slice none 0 0)] | _ => []) rfl rfl (by kernel_rfl)) rfl rfl rfl ?_)
    all_goals (refine WL.stepR (okE_box rfl) rfl rfl rfl ?_
               rintro _ h4 ⟨b5, rfl, hg5, hb5, hx4⟩)
    all_goals (have hb14 := hx4.obj hb13 nos
               have hb24 := hx4.obj hb23 nos
               have hb5 : h4[b5]? = some (.cells ⟨[.slice none 0 0]⟩ 174 (0, 0)) := hb5
               have l1 := lt_of_some hb13
               have l2 := lt_of_some hb23
               have X := hX3.trans hx4
               have l0 := hx1.size
               clear hb1 hb12 hb13 hb2 hb23 hx1 hx2 hx3 hx4 hX2 hX3)
    all_goals (refine Go ?_)
    all_goals (refine Gs [(1, _), (2, _), (5, _)] ?_)
    all_goals (refine WC.seq ?_)
    all_goals (refine WC.sr ?_)
    all_goals (refine Go ?_)
    all_goals (refine WL.ld rfl (by first | exact cell_blk hb14 rfl | assumption | exact cell_blk (by assumption) rfl) rfl rfl rfl ?_)
    all_goals (refine Gn ?_)
    all_goals (refine WC.block ?_)
    all_goals (refine WC.sr ?_)
    all_goals (refine Go ?_)
    all_goals (refine goC 3 4 ?_ ?_ <;> first | exact ⟨⟩ | refine Hb.mk fun hb => ?_ | skip)
    all_goals (first | (fail_if_success refine goB 3 ?_) | (
    refine goB 3 ?_
    all_goals (refine WC.region ?_)
    all_goals (refine Go ?_)
    all_goals (refine WL.call (vs := [_, _, _]) rfl (fun a w => Tryz.call99 a w) rfl (kw _ _ hb5 0 (by unfold Rt; decide)) rfl rfl rfl ?_
               rintro _ h6 ⟨v6, hb56, ho6, hx6, hf6⟩
               obtain ⟨A6, c6, rfl, _⟩ := id ho6.slice
               replace hb14 := hx6.obj hb14 (fun e => by omega)
               replace hb24 := hx6.obj hb24 (fun e => by omega)
               have l4 := X.size
               have hf6 : ∀ q, (Value.slice A6 _ c6).ownBlock = some q → h.size ≤ q := fun q hq => by have := hf6 q hq; omega
               have X := X.trans' hx6 (fun q hq e => by omega))
    all_goals (refine Gn ?_)
    skip))
    all_goals (first | (fail_if_success refine goB 4 ?_) | (
    refine goB 4 ?_
    all_goals (refine WC.sr ?_)
    all_goals (refine Go ?_)
    all_goals (refine Gs [(1, _), (2, _), (5, _), (19, _), (24, _)] ?_)
    all_goals (refine goC 5 6 ?_ ?_ <;> first | exact ⟨⟩ | refine Hb.mk fun hb => ?_ | skip)
    all_goals (first | (fail_if_success refine goB 6 ?_) | (
    refine goB 6 ?_
    all_goals (refine WC.sr ?_)
    all_goals (refine Go ?_)
    all_goals (refine goC 7 8 ?_ ?_ <;> first | exact ⟨⟩ | refine Hb.mk fun hb => ?_ | skip)
    all_goals (first | (fail_if_success refine goB 7 ?_) | (
    refine goB 7 ?_
    all_goals (refine WC.sr ?_)
    all_goals (refine Go ?_)
    all_goals (refine WL.ld rfl (by first | exact cell_blk hb14 rfl | assumption | exact cell_blk (by assumption) rfl) rfl rfl rfl ?_)
    all_goals (refine WL.call (vs := [_, _, _]) rfl (fun a w => Tryz.call99 a w) rfl (kw _ _ hb5 1 (by unfold Rt; decide)) rfl rfl rfl ?_
               rintro _ h6 ⟨v6, hb56, ho6, hx6, hf6⟩
               replace hb14 := hx6.obj hb14 (fun e => by omega)
               replace hb24 := hx6.obj hb24 (fun e => by omega)
               have l4 := X.size
               have X := X.trans' hx6 (fun q hq e => by omega))
    all_goals (refine Gn ?_)
    all_goals (refine Gs [(1, _), (2, _), (5, _)] ?_)
    all_goals (refine WC.region ?_)
    all_goals (refine Go ?_)
    all_goals (refine WL.ld rfl (by first | exact cell_blk hb14 rfl | assumption | exact cell_blk (by assumption) rfl) rfl rfl rfl ?_)
    all_goals (refine WL.call (vs := [_, _, _]) rfl (fun a w => Tryz.call99 a w) rfl (kw2 _ _ _ hb56 ho6) rfl rfl rfl ?_
               rintro _ h6 ⟨v7, hb57, ho7, hx7, hf7⟩
               obtain ⟨A6, c6, rfl, _⟩ := id ho7.slice
               replace hb14 := hx7.obj hb14 (fun e => by omega)
               replace hb24 := hx7.obj hb24 (fun e => by omega)
               have l5 := X.size
               replace hf6 : ∀ q, (Value.slice A6 _ c6).ownBlock = some q → h.size ≤ q := fun q hq => by have := hf7 q hq; omega
               replace ho6 := ho7
               replace hb56 := hb57
               have X := X.trans' hx7 (fun q hq e => by omega))
    all_goals (refine Gn ?_)
    skip))
    all_goals (first | (fail_if_success refine goB 8 ?_) | (
    refine goB 8 ?_
    all_goals (refine WC.sr ?_)
    all_goals (refine Go ?_)
    all_goals (refine Gs [(1, _), (2, _), (5, _), (19, _), (44, _)] ?_)
    all_goals (refine goC 9 10 ?_ ?_ <;> first | exact ⟨⟩ | refine Hb.mk fun hb => ?_ | skip)
    all_goals (first | (fail_if_success refine goB 9 ?_) | (
    refine goB 9 ?_
    all_goals (refine WC.region ?_)
    all_goals (refine Go ?_)
    all_goals (refine WL.ld rfl (by first | exact cell_blk hb14 rfl | assumption | exact cell_blk (by assumption) rfl) rfl rfl rfl ?_)
    all_goals (refine WL.stepR (okE_buildSlice (vs := [_]) (cs := [_]) (fun | [a0] => [a0] | _ => []) Tryz.underlying22 rfl rfl (by kernel_rfl)) rfl rfl rfl ?_
               rintro _ h5 ⟨b6, rfl, hg6, hb6, hx5⟩
               have l5 := hx5.size
               have lb5 := lt_of_some hb5
               replace hb5 := hx5.obj hb5 nos)
    all_goals (refine WL.step (ok_nilCheck rfl) rfl rfl rfl ?_)
    all_goals (refine Go ?_)
    all_goals (refine WL.stepR0 (okE_store (fun w => Tryz.sizeOf22 w) rfl rfl hb5 (Nat.le_of_ble_eq_true rfl) rfl rfl) rfl rfl ?_
               rintro _ h6 ⟨hb56, hx6⟩
               replace hb14 := hx6.obj (hx5.obj hb14 nos) (fun e => by omega)
               replace hb24 := hx6.obj (hx5.obj hb24 nos) (fun e => by omega)
               have l4 := X.size
               have X := (X.trans hx5).trans' hx6 (fun q hq e => by omega)
               have hf6 : ∀ q, (Value.slice (some ⟨b6, 0, none⟩) 1 1).ownBlock = some q → h.size ≤ q := fun q hq => by simp only [Value.ownBlock, Option.some.injEq] at hq; omega
               have hb66 := hx6.obj hb6 (fun e => by omega)
               have ho6 : Own h6 (Value.slice (some ⟨b6, 0, none⟩) 1 1) 5 1 ([73] : List UInt8).length (bys [73]) := Own.of_block hb66 (by decide) (by decide) rfl rfl)
    all_goals (refine Gn ?_)
    skip))
    all_goals (first | (fail_if_success refine goB 10 ?_) | (
    refine goB 10 ?_
    all_goals (refine WC.sr ?_)
    all_goals (refine Go ?_)
    all_goals (refine goC 11 12 ?_ ?_ <;> first | exact ⟨⟩ | refine Hb.mk fun hb => ?_ | skip)
    all_goals (first | (fail_if_success refine goB 12 ?_) | (
    refine goB 12 ?_
    all_goals (refine WC.sr ?_)
    all_goals (refine Go ?_)
    all_goals (refine Gs [(1, _), (2, _), (5, _), (19, _), (58, _)] ?_)
    all_goals (refine goC 13 14 ?_ ?_ <;> first | exact ⟨⟩ | refine Hb.mk fun hb => ?_ | skip)
    all_goals (first | (fail_if_success refine goB 14 ?_) | (
    refine goB 14 ?_
    all_goals (refine WC.sr ?_)
    all_goals (refine Go ?_)
    all_goals (refine goC 15 16 ?_ ?_ <;> first | exact ⟨⟩ | refine Hb.mk fun hb => ?_ | skip)
    all_goals (first | (fail_if_success refine goB 16 ?_) | (
    refine goB 16 ?_
    all_goals (refine WC.sr ?_)
    all_goals (refine Go ?_)
    all_goals (refine Gs [(1, _), (2, _), (5, _), (19, _), (82, _)] ?_)
    all_goals (refine goC 19 20 ?_ ?_ <;> first | exact ⟨⟩ | refine Hb.mk fun hb => ?_ | skip)
    all_goals (first | (fail_if_success refine goB 20 ?_) | (
    refine goB 20 ?_
    all_goals (refine WC.seq ?_)
    all_goals (refine WC.sr ?_)
    all_goals (refine Go ?_)
    all_goals (refine goC 23 24 ?_ ?_ <;> first | exact ⟨⟩ | refine Hb.mk fun hb => ?_ | skip)
    all_goals (first | (fail_if_success refine goB 23 ?_) | (
    refine goB 23 ?_
    all_goals (refine WC.skip ?_)
    skip))
    all_goals (first | (fail_if_success refine goB 24 ?_) | (
    refine goB 24 ?_
    all_goals (refine WC.region ?_)
    all_goals (refine Go ?_)
    skip))
    all_goals (refine Gn ?_)
    all_goals (refine goC 25 26 ?_ ?_ <;> first | exact ⟨⟩ | refine Hb.mk fun hb => ?_ | skip)
    all_goals (first | (fail_if_success refine goB 26 ?_) | (
    refine goB 26 ?_
    all_goals (refine WC.skip ?_)
    skip))
    skip))
    skip))
    skip))
    skip))
    skip))
    skip))
    skip))
    skip))
    all_goals (refine Gn ?_)
    all_goals (refine WC.seq ?_)
    all_goals (refine WC.drawH (fun h' => Ext No h6 h') 7 9 rfl fol ?_)
    all_goals (refine WH.tk 0 rfl (fun hq hC => ok_fieldAddr rfl Tryz.underlying92 rfl (fun w => Tryz.sizeOf5 w)) rfl rfl rfl ?_)
    all_goals (refine WH.tk 1 rfl (fun hq hC => ok_load (fun w => Tryz.isAgg5 w) rfl (by first | exact hC.cell (by first | exact cell_blk hb14 rfl | assumption | exact cell_blk (by assumption) rfl) nos)) rfl rfl rfl ?_)
    all_goals (refine WH.tk 2 rfl (fun hq hC => ok_move rfl) rfl rfl rfl ?_)
    all_goals (refine WH.tk 3 rfl (fun hq hC => ok_nilCheck rfl) rfl rfl rfl ?_)
    all_goals (refine WH.tk 4 rfl (fun hq hC => ok_fieldAddr rfl Tryz.underlying174 rfl (fun w => Tryz.sizeOf22 w)) rfl rfl rfl ?_)
    all_goals (refine WH.tk 5 rfl (fun hq hC => ok_load (fun w => Tryz.isAgg22 w) rfl (by first | exact hC.cell (by first | exact cell_blk hb56 rfl | assumption | exact cell_blk (by assumption) rfl) nos)) rfl rfl rfl ?_)
    all_goals (refine WH.tk 6 rfl (fun hq hC => ok_buildF (vs := [_, _]) (cs := [_, _]) (fun | [a0, a1] => [a0, a1] | _ => []) rfl rfl (by kernel_rfl)) rfl rfl rfl ?_)
    all_goals (refine WH.one 7 (by kernel_rfl) ?_)
    all_goals (refine Comes1.run0 rfl (okE_storeW (fun w => Tryz.sizeOf38 w) rfl rfl rfl hb24 rfl (by simp [Value.oneCell'])) rfl rfl ?_ (fun _ => by kernel_rfl)
               rintro _ h8 ⟨hb8, hx8⟩)
    all_goals (refine ⟨fun e => (by cases e), ?_⟩)
    all_goals (refine WH.one 8 (by kernel_rfl) ?_)
    all_goals (refine Comes1.run rfl (OkP.r (ok_assign rfl)) rfl rfl rfl ?_ (fun _ => by kernel_rfl)
               rintro _ hz ⟨rfl, _⟩
               subst hz)
    all_goals (refine ⟨fun e => (by cases e), ?_⟩)
    all_goals (refine WH.done (by kernel_rfl) ?_)
    all_goals (refine Gn ?_)
    all_goals (refine Gs [(2, _), (3, _)] ?_)
    all_goals (refine WC.ret ?_)
    all_goals (repeat' (with_reducible first | refine thenP_r ?_ | refine blockP_r ?_))
    all_goals (refine retP_2 _ _ ⟨⟨_, rfl, ld_blk (fun w => Tryz.isAgg38 w) (fun w => Tryz.sizeOf38 w) hb8 rfl⟩, rfl, trivial⟩ ?_)
    all_goals (exact ⟨_, rfl, ho6.ext hx8 (fun q hq e => own_ne ho6 hb24 (by decide) (e ▸ hq)), X.trans' hx8 (fun q hq e => by omega), hf6⟩)
end Go.Proofs.YtdjjpbbhcidaaaaGreatDoor


/-
  BITS: and, or; shifts by a number of any kind. No program is named here.
-/
namespace Go.RK
open Go Go.MapKept Go.ChangeMaps

section
variable {P : Program} {f : Fr} {h : Heap} {d : Option Tmp} {ty : TypeId} {pos : String} {af : Array Edge} {g : Option (Nat × Bool)}
variable {t t2 : TypeId} {x y : Operand} {a b : Int} {k : IntKind}
def andI (k : IntKind) (a b : Int) : Int := k.wrap ((BitVec.ofInt k.bits a &&& BitVec.ofInt k.bits b).toNat : Int)
def orI (k : IntKind) (a b : Int) : Int := k.wrap ((BitVec.ofInt k.bits a ||| BitVec.ofInt k.bits b).toNat : Int)
theorem ok_and (hx : f.ev x = some (.int k a)) (hy : f.ev y = some (.int k b)) : OkP P f ⟨d, .binOp .and t x y t2, ty, pos, af, g⟩ h (.int k (andI k a b)) :=
  fun ρ w ha _ => by simp [execOp, ha _ _ hx, ha _ _ hy, eqGuard_and, binOp_and, Op.intBits, andI]
theorem ok_or (hx : f.ev x = some (.int k a)) (hy : f.ev y = some (.int k b)) : OkP P f ⟨d, .binOp .or t x y t2, ty, pos, af, g⟩ h (.int k (orI k a b)) :=
  fun ρ w ha _ => by simp [execOp, ha _ _ hx, ha _ _ hy, eqGuard_or, binOp_or, Op.intBits, orI]
theorem ok_shlU (hx : f.ev x = some (In a)) (hy : f.ev y = some (.int k b)) (hb : 0 ≤ b ∧ b ≤ 64) (hr : -9223372036854775808 ≤ a * 2 ^ b.toNat ∧ a * 2 ^ b.toNat ≤ 9223372036854775807) : OkP P f ⟨d, .binOp .shl t x y t2, ty, pos, af, g⟩ h (In (a * 2 ^ b.toNat)) :=
  fun ρ w ha _ => by
    have h1 : ¬ b < 0 := by omega
    have h2 : min b.toNat 64 = b.toNat := by omega
    have h3 : (IntKind.i64).bits = 64 := rfl
    have h4 := wrap_i64 _ hr.1 hr.2
    simp [execOp, ha _ _ hx, ha _ _ hy, eqGuard_shl, binOp_shl, Op.shift, h1, h3, h2, h4]
theorem or_byte {n c : Int} (hn : 0 ≤ n ∧ n ≤ 1099511627776) (hc : 0 ≤ c ∧ c ≤ 255) : orI .i64 (n * 256) c = n * 256 + c := by
  obtain ⟨m, rfl⟩ := Int.eq_ofNat_of_zero_le hn.1
  obtain ⟨b, rfl⟩ := Int.eq_ofNat_of_zero_le hc.1
  have h64 : (IntKind.i64).bits = 64 := rfl
  unfold orI
  rw [h64, BitVec.toNat_or, BitVec.toNat_ofInt, BitVec.toNat_ofInt]
  have e1 : ((m : Int) * 256 % ((2 ^ 64 : Nat) : Int)).toNat = m <<< 8 := by rw [Nat.shiftLeft_eq]; omega
  have e2 : ((b : Int) % ((2 ^ 64 : Nat) : Int)).toNat = b := by omega
  rw [e1, e2, ← Nat.shiftLeft_add_eq_or_of_lt (by omega : b < 2 ^ 8), Nat.shiftLeft_eq]
  rw [wrap_i64 _ (by omega) (by omega)]
  omega
end
end Go.RK

/-
  WHAT IS SAID FIRST (layer 11): R, K, Z.
-/
namespace Go.Proofs.YtdjjpbbhcidaaaaGreatDoor
open Go Go.RK

set_option maxHeartbeats 2000000 in
set_option maxRecDepth 100000 in
theorem keys0 {h : Heap} : CallsH Tryz.prog 84 ⟨[In 0]⟩ h fun u h' => u = .tuple ⟨[In 1, In 7919]⟩ ∧ h' = h := by
  refine calls [(0, _)] Tryz.func84 rfl Tryz.ntmps84 rfl ⟨rfl, trivial⟩ ?_
  all_goals (refine WC.sr ?_)
  all_goals (refine Go ?_)
  all_goals (refine WC.sr ?_)
  all_goals (refine Go ?_)
  all_goals (refine WL.step (ok_max2 rfl rfl) rfl rfl rfl ?_)
  all_goals (refine WL.step (ok_min2 rfl rfl) rfl rfl rfl ?_)
  all_goals (refine Go ?_)
  all_goals (refine Gs [(4, _)] ?_)
  all_goals (refine WC.sr ?_)
  all_goals (refine Go ?_)
  all_goals (refine WL.step (ok_and rfl rfl) rfl rfl rfl ?_)
  all_goals (refine Go ?_)
  all_goals (first | (refine WL.step (ok_mulI rfl rfl (by omega)) rfl rfl rfl ?_) | (refine WL.step (ok_mul rfl rfl) rfl rfl rfl ?_))
  all_goals (refine WL.step (ok_and rfl rfl) rfl rfl rfl ?_)
  all_goals (refine Go ?_)
  all_goals (refine Gs [(2, _), (3, _)] ?_)
  all_goals (refine Gt ?_)
  all_goals (exact ⟨by rfl, rfl⟩)
set_option maxHeartbeats 2000000 in
set_option maxRecDepth 100000 in
theorem settings0 {h : Heap} : CallsH Tryz.prog 85 ⟨[.slice none 0 0]⟩ h fun u h' => u = .slice none 0 0 ∧ h' = h := by
  refine calls [(0, _)] Tryz.func85 rfl Tryz.ntmps85 rfl ⟨rfl, trivial⟩ ?_
  all_goals (refine WC.sr ?_)
  all_goals (refine Go ?_)
  all_goals (refine WC.sr ?_)
  all_goals (refine Go ?_)
  all_goals (refine WC.seq ?_)
  all_goals (refine WC.sr ?_)
  all_goals (refine Go ?_)
  all_goals (refine WC.block ?_)
  -- loop 0: slots that turn [3, 8], that stay [6, 7]
  all_goals (refine WC.loopG (X := Unit) (fun x => ([(8, In 0), (3, .slice none 0 0)] : Fr)) [(6, _), (7, _)] (fun _ h' => h' = h) (fun _ => 0) (()) ⟨rfl, rfl, rfl, rfl, trivial⟩ (by exact rfl) ?_)
  all_goals (rintro _ h1 hz
             subst hz)
  all_goals (refine WC.sub [(3, _), (8, _), (6, _), (7, _)] ⟨rfl, rfl, rfl, rfl, trivial⟩ ?_)
  all_goals (refine WC.sr ?_)
  all_goals (refine Go ?_)
  all_goals (refine WC.seq ?_)
  all_goals (refine goC 1 2 ?_ ?_ <;> first | exact ⟨⟩ | refine Hb.mk fun hb => ?_ | skip)
  all_goals (first | (fail_if_success refine goB 1 ?_) | (
  refine goB 1 ?_
  all_goals (refine WC.skip ?_)
  skip))
  all_goals (first | (fail_if_success refine goB 2 ?_) | (
  refine goB 2 ?_
  all_goals (refine WC.exit ?_)
  all_goals (repeat' (with_reducible first | refine thenP_x ?_ | refine blockP_miss rfl ?_ | refine blockP_hit ?_ | refine blockP_n ?_ | refine thenP_n ?_))
  all_goals (refine Br.out (i := 1000) ?_)
  skip))
  all_goals (refine Gn ?_)
  all_goals (first | (refine Br.keep ?_) | (refine WC.seq ?_))
  all_goals (first | (refine Br.keep ?_) | (refine WC.block ?_))
  all_goals (first | (refine Br.keep ?_) | (refine WC.sr ?_))
  all_goals (first | (refine Br.keep ?_) | (refine WL.step (ok_idxAddrA Tryz.underlying28 (fun w => Tryz.sizeOf125 w) rfl rfl rfl (by omega) (by first | rfl | assumption)) rfl rfl rfl ?_))
  all_goals (first | (refine Br.keep ?_) | (refine WL.step (ok_loadN (fun w => Tryz.isAgg125 w) (fun w => Tryz.sizeOf125 w) rfl rfl (by assumption)) rfl rfl rfl ?_))
  all_goals (first
               | (refine Br.keep ?_)
               | (refine WL.stepR (okE_alloc (fun w => Tryz.zeroValue125 w)) rfl rfl rfl ?_
                  rintro _ h1 ⟨b1, rfl, hg1, hb1, hx1⟩))
  all_goals (first
               | (refine Br.keep ?_)
               | (refine WL.stepR0 (okE_storeW (fun w => Tryz.sizeOf125 w) rfl rfl rfl (by assumption) rfl (by simp [Value.oneCell'])) rfl rfl ?_
                  rintro _ h1 ⟨hb1, hx1⟩))
  all_goals (refine Gn ?_)
  all_goals (first | (refine Br.keep ?_) | (refine WC.region ?_))
  all_goals (refine Go ?_)
  all_goals (first | (refine Br.keep ?_) | (refine Ld ?_))
  all_goals (refine Go ?_)
  all_goals (first | (refine Br.keep ?_) | (refine Ld ?_))
  all_goals (first | (refine Br.keep ?_) | (refine WL.step (ok_buildF (vs := [_, _, _]) (cs := [_, _, _, _, _, _, _, _, _, _, _]) (fun | [a0, a3, a4] => [a0, (.int .u8 0), (St []), a3, a4, (.int .i64 0), (.int .i64 0), (.slice none 0 0), (.slice none 0 0), (.slice none 0 0), (.slice none 0 0)] | _ => []) rfl rfl (by kernel_rfl)) rfl rfl rfl ?_))
  all_goals (first
               | (refine Br.keep ?_)
               | (refine WL.stepR (okE_buildSlice (vs := [_]) (cs := [_, _, _, _, _, _, _, _, _, _, _]) (fun | [.agg ⟨[a0, a1, a2, a3, a4, a5, a6, a7, a8, a9, a10]⟩] => [a0, a1, a2, a3, a4, a5, a6, a7, a8, a9, a10] | _ => []) Tryz.underlying62 rfl rfl (by kernel_rfl)) rfl rfl rfl ?_
                  rintro _ h1 ⟨b1, rfl, hg1, hb1, hx1⟩))
  all_goals (first
               | (refine Br.keep ?_)
               | (refine WL.stepR (ok_append (sz := 11) (bytes := 168) rfl Tryz.underlying62 (show Tryz.prog.info? 92 = some Tryz.t92 by kernel_rfl) rfl rfl rfl rfl (by decide) rfl rfl (by assumption) (by first | assumption | exact rd_blk (by assumption) rfl) (by simp [Value.oneCell']) (by simp only [maxLen]; omega) (by omega)) rfl rfl rfl ?_
                  rintro v1 h1 ⟨ho1, hx1, hl1⟩))
  all_goals (refine Go ?_)
  all_goals (first | (refine Br.keep ?_) | (refine Gs [(3, _), (6, _), (7, _), (8, _)] ?_))
  all_goals (first | (refine Br.keep ?_) | (refine WC.region ?_))
  all_goals (refine Go ?_)
  all_goals (first | (refine Br.keep ?_) | (exact ⟨None, ⟨rfl, rfl, rfl, rfl, trivial⟩, (by exact ⟨⟩), (by simp; omega)⟩))
  all_goals (try (refine Br.mk (i := 1000) ?_))
  all_goals (refine Gn ?_)
  all_goals (refine Gs [(3, _)] ?_)
  all_goals (refine WC.sr ?_)
  all_goals (refine Go ?_)
  all_goals (refine Gt ?_)
  all_goals (exact ⟨rfl, rfl⟩)
abbrev greetC : List Value := (gB 82 0 0 0).cells ++ (gB 75 0 1 7919).cells ++ (gB 90 73 0 0).cells
set_option maxHeartbeats 2000000 in
set_option maxRecDepth 100000 in
theorem backs0 {h : Heap} : CallsH Tryz.prog 52 ⟨[.slice none 0 0, In 0]⟩ h fun u h' => Own h' u 92 11 3 greetC ∧ Ext No h h' ∧ ∀ q, u.ownBlock = some q → h.size ≤ q := by
  refine calls [(0, _), (1, _)] Tryz.func52 rfl Tryz.ntmps52 rfl ⟨rfl, rfl, trivial⟩ ?_
  all_goals (refine WC.sr ?_)
  all_goals (refine Go ?_)
  all_goals (refine WC.sr ?_)
  all_goals (refine Go ?_)
  all_goals (refine WL.call (vs := [_]) rfl (fun a w => Tryz.call84 a w) rfl (keys0) rfl rfl rfl ?_
             rintro _ hz ⟨rfl, _⟩
             subst hz)
  all_goals (refine Go ?_)
  all_goals (refine Gs [(0, _), (5, _), (6, _)] ?_)
  all_goals (refine WC.sr ?_)
  all_goals (refine WL.step (ok_buildF (vs := [_]) (cs := [_, _, _, _, _, _, _, _, _, _, _]) (fun | [a0] => [a0, (.int .u8 0), (St []), (St []), (St []), (.int .i64 0), (.int .i64 0), (.slice none 0 0), (.slice none 0 0), (.slice none 0 0), (.slice none 0 0)] | _ => []) rfl rfl (by kernel_rfl)) rfl rfl rfl ?_)
  all_goals (refine WL.stepR (okE_buildSlice (vs := [_]) (cs := [_, _, _, _, _, _, _, _, _, _, _]) (fun | [.agg ⟨[a0, a1, a2, a3, a4, a5, a6, a7, a8, a9, a10]⟩] => [a0, a1, a2, a3, a4, a5, a6, a7, a8, a9, a10] | _ => []) Tryz.underlying62 rfl rfl (by kernel_rfl)) rfl rfl rfl ?_
             rintro _ h1 ⟨b1, rfl, hg1, hb1, hx1⟩)
  all_goals (refine Go ?_)
  all_goals (refine WL.call (vs := [_]) rfl (fun a w => Tryz.call85 a w) rfl (settings0) rfl rfl rfl ?_
             rintro _ hz ⟨rfl, _⟩
             subst hz)
  all_goals (refine WL.stepR (ok_append (sz := 11) (bytes := 168) rfl Tryz.underlying62 (show Tryz.prog.info? 92 = some Tryz.t92 by kernel_rfl) rfl rfl rfl rfl (by decide) rfl rfl (own_blk hb1 rfl (by simp [maxLen])) (Rd.nil _ _) (by simp [Value.oneCell']) (by simp only [maxLen]; omega) (by omega)) rfl rfl rfl ?_
             rintro v2 h2 ⟨ho2, hx2, hl2⟩
             have ho2 : Own h2 v2 92 11 1 (gB 82 0 0 0).cells := ho2
             have hf2 := fresh_of hl2 (fun k hk => by simp only [Value.ownBlock, Option.some.injEq] at hk; exact hk ▸ hg1) hx1.size
             have X2 : Ext No h h2 := hx1.trans' hx2 (fun q hq e => by simp only [Value.ownBlock, Option.some.injEq] at e; omega))
  all_goals (refine Go ?_)
  all_goals (refine Gs [(5, _), (6, _), (7, _)] ?_)
  all_goals (refine WC.sr ?_)
  all_goals (refine Go ?_)
  all_goals (refine WL.step (ok_buildF (vs := [_, _, _]) (cs := [_, _, _, _, _, _, _, _, _, _, _]) (fun | [a0, a5, a6] => [a0, (.int .u8 0), (St []), (St []), (St []), a5, a6, (.slice none 0 0), (.slice none 0 0), (.slice none 0 0), (.slice none 0 0)] | _ => []) rfl rfl (by kernel_rfl)) rfl rfl rfl ?_)
  all_goals (refine WL.step (ok_buildF (vs := [_, _]) (cs := [_, _, _, _, _, _, _, _, _, _, _]) (fun | [a0, a1] => [a0, a1, (St []), (St []), (St []), (.int .i64 0), (.int .i64 0), (.slice none 0 0), (.slice none 0 0), (.slice none 0 0), (.slice none 0 0)] | _ => []) rfl rfl (by kernel_rfl)) rfl rfl rfl ?_)
  all_goals (refine WL.stepR (okE_buildSlice (vs := [_, _]) (cs := [_, _, _, _, _, _, _, _, _, _, _, _, _, _, _, _, _, _, _, _, _, _]) (fun | [.agg ⟨[a0, a1, a2, a3, a4, a5, a6, a7, a8, a9, a10]⟩, .agg ⟨[a11, a12, a13, a14, a15, a16, a17, a18, a19, a20, a21]⟩] => [a0, a1, a2, a3, a4, a5, a6, a7, a8, a9, a10, a11, a12, a13, a14, a15, a16, a17, a18, a19, a20, a21] | _ => []) Tryz.underlying62 rfl rfl (by kernel_rfl)) rfl rfl rfl ?_
             rintro _ h3 ⟨b3, rfl, hg3, hb3, hx3⟩)
  all_goals (refine WL.stepR (ok_append (sz := 11) (bytes := 168) rfl Tryz.underlying62 (show Tryz.prog.info? 92 = some Tryz.t92 by kernel_rfl) rfl rfl rfl rfl (by decide) rfl rfl (ho2.ext hx3 (fun _ _ => nos)) (rd_blk (len := 2) (sz := 11) (cs := (gB 75 0 1 7919).cells ++ (gB 90 73 0 0).cells) hb3 rfl) (by simp [gB, Bk.cells, Value.oneCell']) (by simp only [maxLen]; omega) (by omega)) rfl rfl rfl ?_
             rintro v4 h4 ⟨ho4, hx4, hl4⟩
             have ho4 : Own h4 v4 92 11 3 greetC := ho4)
  all_goals (refine Go ?_)
  all_goals (refine Gs [(4, _)] ?_)
  all_goals (refine Gt ?_)
  all_goals (exact ⟨ho4, (X2.trans hx3).trans' hx4 (fun q hq e => by have := hf2 q e; omega), fresh_of hl4 hf2 (by have := X2.size; have := hx3.size; omega)⟩)
end Go.Proofs.YtdjjpbbhcidaaaaGreatDoor


/-
  A HELLO (layers 4, 5), as the document writes it.
-/
namespace Go.Proofs.YtdjjpbbhcidaaaaGreatDoor
open Go Go.RK

set_option maxHeartbeats 2000000 in
set_option maxRecDepth 100000 in
theorem clean07 {h : Heap} (s : List UInt8) (hm : s.length ≤ 1000000) : CallsH Tryz.prog 185 ⟨[St s]⟩ h fun u h' => u = .bool (cleanB s) ∧ h' = h := by
  have hci : cleanB s = true ↔ ∀ c ∈ s, c ≠ 0 := by
    unfold cleanB
    rw [Bool.not_eq_true', ← Bool.not_eq_true, List.contains_iff_mem]
    exact ⟨fun z c hc e => z (e ▸ hc), fun z hc => z 0 hc rfl⟩
  refine calls [(0, _)] Tryz.func185 rfl Tryz.ntmps185 rfl ⟨rfl, trivial⟩ ?_
  all_goals (refine WC.sr ?_)
  all_goals (refine Go ?_)
  all_goals (refine WC.seq ?_)
  all_goals (refine WC.sr ?_)
  all_goals (refine Go ?_)
  all_goals (refine WC.block ?_)
  -- loop 0: slots that turn [3], that stay [0]
  all_goals (refine WC.loopG (X := Nat) (fun x => ([(3, In (x : Int))] : Fr)) [(0, _)] (fun k h' => h = h' ∧ k ≤ s.length ∧ ∀ c ∈ s.take k, c ≠ 0) (fun k => s.length - k) (0) ⟨rfl, rfl, trivial⟩ (by exact ⟨rfl, Nat.zero_le _, fun c hc => by cases hc⟩) ?_)
  all_goals (rintro k h2 ⟨e, hk, hn⟩
             subst e)
  all_goals (refine WC.sub [(3, _), (0, _)] ⟨rfl, rfl, trivial⟩ ?_)
  all_goals (refine WC.seq ?_)
  all_goals (refine WC.sr ?_)
  all_goals (refine Go ?_)
  all_goals (refine goC 1 2 ?_ ?_ <;> first | exact ⟨⟩ | refine Hb.mk fun hb => ?_ | skip)
  all_goals (first | (fail_if_success refine goB 1 ?_) | (
  refine goB 1 ?_
  all_goals (refine WC.skip ?_)
  skip))
  all_goals (first | (fail_if_success refine goB 2 ?_) | (
  refine goB 2 ?_
  all_goals (refine WC.exit ?_)
  all_goals (repeat' (with_reducible first | refine thenP_x ?_ | refine blockP_miss rfl ?_ | refine blockP_hit ?_ | refine blockP_n ?_ | refine thenP_n ?_))
  all_goals (refine Br.out (i := 1000) ?_)
  skip))
  all_goals (refine Gn ?_)
  all_goals (first | (refine Br.keep ?_) | (refine Gs [(0, _), (3, _)] ?_))
  all_goals (first | (refine Br.keep ?_) | (refine WC.seq ?_))
  all_goals (first | (refine Br.keep ?_) | (refine WC.block ?_))
  all_goals (first | (refine Br.keep ?_) | (refine WC.seq ?_))
  all_goals (first | (refine Br.keep ?_) | (obtain ⟨y, hy⟩ : ∃ y, s[k]? = some y := ⟨_, List.getElem?_eq_getElem (by omega)⟩))
  all_goals (first | (refine Br.keep ?_) | (refine WC.region ?_))
  all_goals (refine Go ?_)
  all_goals (first | (refine Br.keep ?_) | (refine WL.step (ok_idxS Tryz.underlying9 rfl rfl (by omega) (by assumption)) rfl rfl rfl ?_))
  all_goals (refine Go ?_)
  all_goals (first | (refine Br.keep ?_) | (refine goC 3 4 ?_ ?_ <;> first | exact ⟨⟩ | refine Hb.mk fun hb => ?_ | skip))
  all_goals (first | (fail_if_success refine goB 3 ?_) | (
  refine goB 3 ?_
  all_goals (refine WC.sr ?_)
  all_goals (refine Go ?_)
  all_goals (refine Gs [(2, _)] ?_)
  all_goals (refine Gt ?_)
  all_goals (first
              | (refine ⟨congrArg Value.bool ?_, rfl⟩; symm; rw [hci]; rw [List.take_of_length_le (by omega)] at hn; exact hn)
              | (refine ⟨congrArg Value.bool ?_, rfl⟩; cases hq : cleanB s; rfl; exact absurd (UInt8.toNat_inj.1 (by simpa using hb)) (hci.1 hq _ (List.mem_of_getElem? hy))))
  skip))
  all_goals (first | (fail_if_success refine goB 4 ?_) | (
  refine goB 4 ?_
  all_goals (refine WC.skip ?_)
  skip))
  all_goals (refine Gn ?_)
  all_goals (first | (refine Br.keep ?_) | (refine Gs [(0, _), (3, _)] ?_))
  all_goals (first | (refine Br.keep ?_) | (refine WC.region ?_))
  all_goals (refine Go ?_)
  all_goals (first | (refine Br.keep ?_) | (exact ⟨k + 1, ⟨rfl, rfl, trivial⟩, (by exact ⟨rfl, by omega, fun c hc => by rw [List.take_add_one, hy] at hc; simp only [Option.toList_some, List.mem_append, List.mem_singleton] at hc; rcases hc with hc | rfl; exact hn c hc; exact (fun e => by subst e; simp at *)⟩), (by omega)⟩))
  all_goals (try (refine Br.mk (i := 1000) ?_))
  all_goals (refine Gn ?_)
  all_goals (refine Gs [] ?_)
  all_goals (refine WC.sr ?_)
  all_goals (refine Go ?_)
  all_goals (refine Gt ?_)
  all_goals (first
              | (refine ⟨congrArg Value.bool ?_, rfl⟩; symm; rw [hci]; rw [List.take_of_length_le (by omega)] at hn; exact hn)
              | (refine ⟨congrArg Value.bool ?_, rfl⟩; cases hq : cleanB s; rfl; exact absurd (UInt8.toNat_inj.1 (by simpa using hb)) (hci.1 hq _ (List.mem_of_getElem? hy))))

abbrev userL : List UInt8 := ([117, 115, 101, 114] : List UInt8)
abbrev uL : List UInt8 := ([117] : List UInt8)
set_option maxHeartbeats 2000000 in
set_option maxRecDepth 100000 in
theorem may05 {h : Heap} {p : Nat} (hp : h[p]? = some (.cells ⟨[St userL, St uL]⟩ 125 (0, 0))) : CallsH Tryz.prog 118 ⟨[.agg ⟨[In 196608, In 0, In 0, .slice (some ⟨p, 0, none⟩) 1 1]⟩]⟩ h fun u h' => u = .bool true ∧ Ext No h h' := by
  have c1 := fun h' => clean07 (h := h') userL (by decide)
  have c2 := fun h' => clean07 (h := h') uL (by decide)
  rw [show cleanB userL = true from rfl] at c1
  rw [show cleanB uL = true from rfl] at c2
  refine calls [(0, _)] Tryz.func118 rfl Tryz.ntmps118 rfl ⟨rfl, trivial⟩ ?_
  all_goals (refine WC.sr ?_)
  all_goals (refine WL.stepR (okE_box rfl) rfl rfl rfl ?_
             rintro _ h1 ⟨b1, rfl, hg1, hb1, hx1⟩)
  all_goals (have hp1 := hx1.obj hp nos)
  all_goals (refine Go ?_)
  all_goals (refine WC.seq ?_)
  all_goals (refine WC.sr ?_)
  all_goals (refine Go ?_)
  all_goals (refine WC.block ?_)
  -- loop 0: slots that turn [3], that stay [1]
  all_goals (refine WC.loopG (X := Nat) (fun x => ([(3, In (x : Int))] : Fr)) [(1, _)] (fun k h' => h' = h1 ∧ k ≤ 1) (fun k => 1 - k) (0) ⟨rfl, rfl, trivial⟩ (by exact ⟨rfl, Nat.zero_le _⟩) ?_)
  all_goals (rintro k h2 ⟨hz, hk⟩
             subst hz)
  all_goals (refine WC.sub [(3, _), (1, _)] ⟨rfl, rfl, trivial⟩ ?_)
  all_goals (refine WC.seq ?_)
  all_goals (refine WC.sr ?_)
  all_goals (refine Go ?_)
  all_goals (refine WL.ld rfl (by first | exact cell_blk hb1 rfl | assumption | exact cell_blk (by assumption) rfl) rfl rfl rfl ?_)
  all_goals (refine Go ?_)
  all_goals (refine Gs [(1, _), (3, _), (9, _)] ?_)
  all_goals (refine goC 1 2 ?_ ?_ <;> first | exact ⟨⟩ | refine Hb.mk fun hb => ?_ | skip)
  all_goals (first | (fail_if_success refine goB 1 ?_) | (
  refine goB 1 ?_
  all_goals (refine WC.skip ?_)
  skip))
  all_goals (first | (fail_if_success refine goB 2 ?_) | (
  refine goB 2 ?_
  all_goals (refine WC.exit ?_)
  all_goals (repeat' (with_reducible first | refine thenP_x ?_ | refine blockP_miss rfl ?_ | refine blockP_hit ?_ | refine blockP_n ?_ | refine thenP_n ?_))
  all_goals (refine Br.out (i := 1000) ?_)
  skip))
  all_goals (refine Gn ?_)
  all_goals (first | (refine Br.keep ?_) | (refine WC.seq ?_))
  all_goals (first | (refine Br.keep ?_) | (refine WC.block ?_))
  all_goals (first | (refine Br.keep ?_) | (refine WC.sr ?_))
  all_goals (first | (refine Br.keep ?_) | (obtain rfl : k = 0 := by omega))
  all_goals (first | (refine Br.keep ?_) | (refine WL.step (ok_fieldAddr rfl Tryz.underlying69 rfl (fun w => Tryz.sizeOf28 w)) rfl rfl rfl ?_))
  all_goals (first | (refine Br.keep ?_) | (refine WL.ld rfl (by first | exact cell_blk hb1 rfl | assumption | exact cell_blk (by assumption) rfl) rfl rfl rfl ?_))
  all_goals (refine Go ?_)
  all_goals (first | (refine Br.keep ?_) | (refine WL.step (ok_idxAddrA Tryz.underlying28 (fun w => Tryz.sizeOf125 w) rfl rfl rfl (by omega) (by first | rfl | assumption)) rfl rfl rfl ?_))
  all_goals (refine Go ?_)
  all_goals (first | (refine Br.keep ?_) | (refine WL.ld rfl (by first | exact cell_blk hp1 rfl | assumption | exact cell_blk (by assumption) rfl) rfl rfl rfl ?_))
  all_goals (refine Go ?_)
  all_goals (first | (refine Br.keep ?_) | (refine goP 19 ?_ ?_ <;> first | exact ⟨⟩ | refine Hb.mk fun hb => ?_ | skip))
  all_goals (refine Gg ?_)
  all_goals (first | (refine Br.keep ?_) | (first | (refine WL.pass rfl rfl rfl ?_) | (refine WL.ld rfl (by first | exact cell_blk hb1 rfl | assumption | exact cell_blk (by assumption) rfl) rfl rfl rfl ?_)))
  all_goals (refine Gg ?_)
  all_goals (first | (refine Br.keep ?_) | (first | (refine WL.pass rfl rfl rfl ?_) | (refine WL.step (ok_idxAddrA Tryz.underlying28 (fun w => Tryz.sizeOf125 w) rfl rfl rfl (by omega) (by first | rfl | assumption)) rfl rfl rfl ?_)))
  all_goals (refine Gg ?_)
  all_goals (first | (refine Br.keep ?_) | (first | (refine WL.pass rfl rfl rfl ?_) | (refine WL.ld rfl (by first | exact cell_blk hp1 rfl | assumption | exact cell_blk (by assumption) rfl) rfl rfl rfl ?_)))
  all_goals (first
               | (refine Br.keep ?_)
               | (first
                    | (refine WL.pass rfl rfl rfl ?_)
                    | (refine WL.call (vs := [_]) rfl (fun a w => Tryz.call185 a w) rfl (c1 _) rfl rfl rfl ?_
                       rintro _ hq ⟨rfl, hz1⟩
                       subst hz1)))
  all_goals (refine Gg ?_)
  all_goals (refine Go ?_)
  all_goals (first | (refine Br.keep ?_) | (refine goP 29 ?_ ?_ <;> first | exact ⟨⟩ | refine Hb.mk fun hb => ?_ | skip))
  all_goals (refine Gg ?_)
  all_goals (first | (refine Br.keep ?_) | (first | (refine WL.pass rfl rfl rfl ?_) | (refine WL.ld rfl (by first | exact cell_blk hb1 rfl | assumption | exact cell_blk (by assumption) rfl) rfl rfl rfl ?_)))
  all_goals (refine Gg ?_)
  all_goals (first | (refine Br.keep ?_) | (first | (refine WL.pass rfl rfl rfl ?_) | (refine WL.step (ok_idxAddrA Tryz.underlying28 (fun w => Tryz.sizeOf125 w) rfl rfl rfl (by omega) (by first | rfl | assumption)) rfl rfl rfl ?_)))
  all_goals (refine Gg ?_)
  all_goals (first | (refine Br.keep ?_) | (first | (refine WL.pass rfl rfl rfl ?_) | (refine WL.ld rfl (by first | exact cell_blk hp1 rfl | assumption | exact cell_blk (by assumption) rfl) rfl rfl rfl ?_)))
  all_goals (first
               | (refine Br.keep ?_)
               | (first
                    | (refine WL.pass rfl rfl rfl ?_)
                    | (refine WL.call (vs := [_]) rfl (fun a w => Tryz.call185 a w) rfl (c2 _) rfl rfl rfl ?_
                       rintro _ hq ⟨rfl, hz1⟩
                       subst hz1)))
  all_goals (refine Gg ?_)
  all_goals (refine Go ?_)
  all_goals (first | (refine Br.keep ?_) | (refine Gs [(1, _), (3, _), (38, _)] ?_))
  all_goals (first | (refine Br.keep ?_) | (refine goC 3 4 ?_ ?_ <;> first | exact ⟨⟩ | refine Hb.mk fun hb => ?_ | skip))
  all_goals (first | (fail_if_success refine goB 3 ?_) | (
  refine goB 3 ?_
  all_goals (refine WC.sr ?_)
  all_goals (refine Go ?_)
  all_goals (refine Gt ?_)
  all_goals (first | exact ⟨rfl, hx1⟩ | (exfalso; simp_all))
  skip))
  all_goals (first | (fail_if_success refine goB 4 ?_) | (
  refine goB 4 ?_
  all_goals (refine WC.skip ?_)
  skip))
  all_goals (refine Gn ?_)
  all_goals (first | (refine Br.keep ?_) | (refine WC.region ?_))
  all_goals (refine Go ?_)
  all_goals (first | (refine Br.keep ?_) | (exact ⟨0 + 1, ⟨rfl, rfl, trivial⟩, (by exact ⟨rfl, by omega⟩), (by omega)⟩))
  all_goals (try (refine Br.mk (i := 1000) ?_))
  all_goals (refine Gn ?_)
  all_goals (refine WC.sr ?_)
  all_goals (refine Go ?_)
  all_goals (refine WL.ld rfl (by first | exact cell_blk hb1 rfl | assumption | exact cell_blk (by assumption) rfl) rfl rfl rfl ?_)
  all_goals (refine Go ?_)
  all_goals (refine goP 42 ?_ ?_ <;> first | exact ⟨⟩ | refine Hb.mk fun hb => ?_ | skip)
  all_goals (refine Gg ?_)
  all_goals (first | (refine WL.pass rfl rfl rfl ?_) | (refine WL.ld rfl (by first | exact cell_blk hb1 rfl | assumption | exact cell_blk (by assumption) rfl) rfl rfl rfl ?_))
  all_goals (refine Gg ?_)
  all_goals (refine Go ?_)
  all_goals (refine Gs [(1, _), (4, _)] ?_)
  all_goals (refine WC.seq ?_)
  all_goals (refine WC.sr ?_)
  all_goals (refine Go ?_)
  all_goals (refine WL.ld rfl (by first | exact cell_blk hb1 rfl | assumption | exact cell_blk (by assumption) rfl) rfl rfl rfl ?_)
  all_goals (refine Gn ?_)
  all_goals (refine WC.block ?_)
  all_goals (refine WC.sr ?_)
  all_goals (refine Go ?_)
  all_goals (refine goC 5 6 ?_ ?_ <;> first | exact ⟨⟩ | refine Hb.mk fun hb => ?_ | skip)
  all_goals (first | (fail_if_success refine goB 5 ?_) | (
  refine goB 5 ?_
  all_goals (refine WC.sr ?_)
  all_goals (refine Go ?_)
  all_goals (refine Gs [(2, _)] ?_)
  all_goals (refine Gt ?_)
  all_goals (first | exact ⟨rfl, hx1⟩ | (exfalso; simp_all))
  skip))
  all_goals (first | (fail_if_success refine goB 6 ?_) | (
  refine goB 6 ?_
  all_goals (refine WC.sr ?_)
  all_goals (refine Go ?_)
  all_goals (refine Gs [(1, _), (4, _), (48, _), (52, _)] ?_)
  all_goals (refine goC 7 8 ?_ ?_ <;> first | exact ⟨⟩ | refine Hb.mk fun hb => ?_ | skip)
  all_goals (first | (fail_if_success refine goB 7 ?_) | (
  refine goB 7 ?_
  all_goals (refine WC.sr ?_)
  all_goals (refine Go ?_)
  all_goals (refine goP 55 ?_ ?_ <;> first | exact ⟨⟩ | refine Hb.mk fun hb => ?_ | skip)
  all_goals (refine Gg ?_)
  all_goals (first | (refine WL.pass rfl rfl rfl ?_) | (refine Ld ?_))
  all_goals (refine Gg ?_)
  all_goals (refine Go ?_)
  all_goals (refine Gs [(2, _)] ?_)
  all_goals (refine Gt ?_)
  all_goals (first | exact ⟨rfl, hx1⟩ | (exfalso; simp_all))
  skip))
  all_goals (first | (fail_if_success refine goB 8 ?_) | (
  refine goB 8 ?_
  all_goals (refine WC.sr ?_)
  all_goals (refine Go ?_)
  all_goals (refine Gs [(1, _), (61, _)] ?_)
  all_goals (refine goC 9 10 ?_ ?_ <;> first | exact ⟨⟩ | refine Hb.mk fun hb => ?_ | skip)
  all_goals (first | (fail_if_success refine goB 9 ?_) | (
  refine goB 9 ?_
  all_goals (refine WC.sr ?_)
  all_goals (refine Go ?_)
  all_goals (refine Ld ?_)
  all_goals (refine Go ?_)
  all_goals (refine goP 67 ?_ ?_ <;> first | exact ⟨⟩ | refine Hb.mk fun hb => ?_ | skip)
  all_goals (refine Gg ?_)
  all_goals (first | (refine WL.pass rfl rfl rfl ?_) | (refine Ld ?_))
  all_goals (refine Gg ?_)
  all_goals (refine Go ?_)
  all_goals (refine goP 72 ?_ ?_ <;> first | exact ⟨⟩ | refine Hb.mk fun hb => ?_ | skip)
  all_goals (refine Gg ?_)
  all_goals (first | (refine WL.pass rfl rfl rfl ?_) | (refine Ld ?_))
  all_goals (refine Gg ?_)
  all_goals (refine Go ?_)
  all_goals (refine goP 77 ?_ ?_ <;> first | exact ⟨⟩ | refine Hb.mk fun hb => ?_ | skip)
  all_goals (refine Gg ?_)
  all_goals (first | (refine WL.pass rfl rfl rfl ?_) | (refine Ld ?_))
  all_goals (first | (refine WL.pass rfl rfl rfl ?_) | (fail "no contract for call of remuda/remudaref01.Right at 13.17"))
  all_goals (refine Go ?_)
  all_goals (refine goP 82 ?_ ?_ <;> first | exact ⟨⟩ | refine Hb.mk fun hb => ?_ | skip)
  all_goals (refine Gg ?_)
  all_goals (first | (refine WL.pass rfl rfl rfl ?_) | (refine Ld ?_))
  all_goals (first | (refine WL.pass rfl rfl rfl ?_) | (fail "no contract for call of remuda/remudaref01.Right at 13.22"))
  all_goals (refine Go ?_)
  all_goals (refine Gs [(2, _)] ?_)
  all_goals (refine Gt ?_)
  all_goals (first | exact ⟨rfl, hx1⟩ | (exfalso; simp_all))
  skip))
  all_goals (first | (fail_if_success refine goB 10 ?_) | (
  refine goB 10 ?_
  all_goals (refine WC.skip ?_)
  skip))
  skip))
  skip))
  all_goals (refine Gn ?_)
  all_goals (refine WC.sr ?_)
  all_goals (refine Go ?_)
  all_goals (refine Gt ?_)
  all_goals (first | exact ⟨rfl, hx1⟩ | (exfalso; simp_all))
abbrev body5 : List UInt8 := [0, 3, 0, 0, 117, 115, 101, 114, 0, 117, 0, 0]
set_option maxHeartbeats 2000000 in
set_option maxRecDepth 100000 in
theorem build05 {h : Heap} {p : Nat} (hp : h[p]? = some (.cells ⟨[St userL, St uL]⟩ 125 (0, 0))) : CallsH Tryz.prog 69 ⟨[.agg ⟨[In 196608, In 0, In 0, .slice (some ⟨p, 0, none⟩) 1 1]⟩]⟩ h fun u h' => ∃ v, u = .tuple ⟨[v, In 0]⟩ ∧ Own h' v 5 1 12 (bys body5) ∧ Ext No h h' := by
  have lu1 : userL.length = 4 := rfl
  have lu2 : uL.length = 1 := rfl
  have km := fun (g : Heap) (x : Ext No h g) => may05 (x.obj hp nos)
  refine calls [(0, _)] Tryz.func69 rfl Tryz.ntmps69 rfl ⟨rfl, trivial⟩ ?_
  all_goals (refine WC.sr ?_)
  all_goals (refine WL.stepR (okE_box rfl) rfl rfl rfl ?_
             rintro _ h1 ⟨b1, rfl, hg1, hb1, hx1⟩)
  all_goals (refine Go ?_)
  all_goals (refine WC.seq ?_)
  all_goals (refine WC.sr ?_)
  all_goals (refine WL.step (ok_loadN (fun w => Tryz.isAgg69 w) (fun w => Tryz.sizeOf69 w) rfl rfl (by exact At.of_block hb1)) rfl rfl rfl ?_)
  all_goals (refine WL.call (vs := [_]) rfl (fun a w => Tryz.call118 a w) rfl (km _ hx1) rfl rfl rfl ?_
             rintro _ h2 ⟨rfl, hx2⟩)
  all_goals (have hb12 := hx2.obj hb1 nos
             have X2 := hx1.trans hx2)
  all_goals (refine Go ?_)
  all_goals (refine Gs [(1, _), (8, _)] ?_)
  all_goals (refine goC 1 2 ?_ ?_ <;> first | exact ⟨⟩ | refine Hb.mk fun hb => ?_ | skip)
  all_goals (first | (fail_if_success refine goB 1 ?_) | (
  refine goB 1 ?_
  all_goals (refine WC.sr ?_)
  all_goals (refine Go ?_)
  all_goals (refine Gt ?_)
  all_goals (exact ⟨v7, rfl, ho7, (X2.trans (X4.trans hx6)).trans' hx7 (fun q hq e => by have := f4 q e; have := X2.size; omega)⟩)
  skip))
  all_goals (first | (fail_if_success refine goB 2 ?_) | (
  refine goB 2 ?_
  all_goals (refine WC.skip ?_)
  skip))
  all_goals (refine Gn ?_)
  all_goals (refine WC.sr ?_)
  all_goals (refine Go ?_)
  all_goals (refine WL.ld rfl (by first | exact cell_blk hb12 rfl | assumption | exact cell_blk (by assumption) rfl) rfl rfl rfl ?_)
  all_goals (refine WL.call (vs := [_, _, _]) rfl (fun a w => Tryz.call119 a w) rfl (put01 [] 196608 4 (.inr (.inr rfl)) (by unfold Rt; decide) (Rd.nil _ _) (by decide)) rfl rfl rfl ?_
             rintro v3 h3 ⟨ho3, hx3, hf3⟩
             have ho3 : Own h3 v3 5 1 4 (bys [0, 3, 0, 0]) := ho3)
  all_goals (have hb13 := hx3.obj hb12 nos
             have X3 := X2.trans hx3)
  all_goals (refine Go ?_)
  all_goals (refine Gs [(1, _), (4, _)] ?_)
  all_goals (refine WC.seq ?_)
  all_goals (refine WC.sr ?_)
  all_goals (refine Go ?_)
  all_goals (refine WL.ld rfl (by first | exact cell_blk hb13 rfl | assumption | exact cell_blk (by assumption) rfl) rfl rfl rfl ?_)
  all_goals (refine Gn ?_)
  all_goals (refine WC.block ?_)
  all_goals (refine WC.sr ?_)
  all_goals (refine Go ?_)
  all_goals (refine goC 3 4 ?_ ?_ <;> first | exact ⟨⟩ | refine Hb.mk fun hb => ?_ | skip)
  all_goals (first | (fail_if_success refine goB 3 ?_) | (
  refine goB 3 ?_
  all_goals (refine WC.seq ?_)
  all_goals (refine WC.sr ?_)
  all_goals (refine Go ?_)
  all_goals (refine Gs [(1, _), (4, _), (5, _)] ?_)
  all_goals (refine WC.block ?_)
  -- loop 0: slots that turn [4, 5], that stay [1]
  all_goals (refine WC.loopG (X := Nat × Value) (fun x => ([(5, In (x.1 : Int)), (4, x.2)] : Fr)) [(1, _)] (fun x h' => (x.1 = 0 ∧ x.2 = v3 ∧ h' = h3) ∨ (x.1 = 1 ∧ Own h' x.2 5 1 11 (bys [0, 3, 0, 0, 117, 115, 101, 114, 0, 117, 0]) ∧ Ext No h2 h' ∧ ∀ q, x.2.ownBlock = some q → h2.size ≤ q)) (fun x => 1 - x.1) ((0, v3)) ⟨rfl, rfl, rfl, trivial⟩ (by exact .inl ⟨rfl, rfl, rfl⟩) ?_)
  all_goals (rintro ⟨k, w⟩ h4 hI
             dsimp only at hI
             have X4 : Ext No h2 h4 := by rcases hI with ⟨_, _, rfl⟩ | ⟨_, _, x, _⟩; exact hx3; exact x
             have hb14 := X4.obj hb12 nos
             have hp4 := (X2.trans X4).obj hp nos)
  all_goals (refine WC.sub [(4, _), (5, _), (1, _)] ⟨rfl, rfl, rfl, trivial⟩ ?_)
  all_goals (dsimp only)
  all_goals (refine WC.seq ?_)
  all_goals (refine WC.sr ?_)
  all_goals (refine Go ?_)
  all_goals (refine WL.ld rfl (by first | exact cell_blk hb14 rfl | assumption | exact cell_blk (by assumption) rfl) rfl rfl rfl ?_)
  all_goals (refine Go ?_)
  all_goals (refine Gs [(1, _), (4, _), (5, _), (20, _)] ?_)
  all_goals (refine goC 5 6 ?_ ?_ <;> first | exact ⟨⟩ | refine Hb.mk fun hb => ?_ | skip)
  all_goals (first | (fail_if_success refine goB 5 ?_) | (
  refine goB 5 ?_
  all_goals (refine WC.skip ?_)
  skip))
  all_goals (first | (fail_if_success refine goB 6 ?_) | (
  refine goB 6 ?_
  all_goals (refine WC.exit ?_)
  all_goals (repeat' (with_reducible first | refine thenP_x ?_ | refine blockP_miss rfl ?_ | refine blockP_hit ?_ | refine blockP_n ?_ | refine thenP_n ?_))
  all_goals (refine Br.out (i := 1001) ?_)
  skip))
  all_goals (refine Gn ?_)
  all_goals (first | (refine Br.keep ?_) | (refine WC.seq ?_))
  all_goals (first | (refine Br.keep ?_) | (refine WC.block ?_))
  all_goals (first | (refine Br.keep ?_) | (refine WC.sr ?_))
  all_goals (first | (refine Br.keep ?_) | (obtain ⟨rfl, rfl, rfl⟩ : k = 0 ∧ w = v3 ∧ h4 = h3 := by rcases hI with e | ⟨e, _⟩; exact e; exfalso; omega))
  all_goals (first | (refine Br.keep ?_) | (refine WL.step (ok_move rfl) rfl rfl rfl ?_))
  all_goals (refine Go ?_)
  all_goals (first | (refine Br.keep ?_) | (refine WL.ld rfl (by first | exact cell_blk hb14 rfl | assumption | exact cell_blk (by assumption) rfl) rfl rfl rfl ?_))
  all_goals (refine Go ?_)
  all_goals (first | (refine Br.keep ?_) | (refine WL.step (ok_idxAddrA Tryz.underlying28 (fun w => Tryz.sizeOf125 w) rfl rfl rfl (by omega) (by first | rfl | assumption)) rfl rfl rfl ?_))
  all_goals (refine Go ?_)
  all_goals (first | (refine Br.keep ?_) | (refine WL.ld rfl (by first | exact cell_blk hp4 rfl | assumption | exact cell_blk (by assumption) rfl) rfl rfl rfl ?_))
  all_goals (first
               | (refine Br.keep ?_)
               | (refine WL.stepR (okE_appendS rfl Tryz.underlying22 Tryz.underlying9 (show Tryz.prog.info? 5 = some Tryz.t5 by kernel_rfl) rfl rfl rfl rfl rfl ho3 (by omega)) rfl rfl rfl ?_
                  rintro v5 h5 ⟨ho5, hx5, hf5, _⟩
                  have ho5 : Own h5 v5 5 1 8 (bys [0, 3, 0, 0, 117, 115, 101, 114]) := ho5
                  have X5 : Ext No h2 h5 := hx3.trans' hx5 (fun q hq e => by have := hf3 q e; omega)
                  have f5 : ∀ q, v5.ownBlock = some q → h2.size ≤ q := fun q hq => (hf5 q hq).elim (hf3 q) (fun e => by have := hx3.size; omega)))
  all_goals (first
               | (refine Br.keep ?_)
               | (refine WL.stepR (okE_buildSlice (vs := [_]) (cs := [_]) (fun | [a0] => [a0] | _ => []) Tryz.underlying22 rfl rfl (by kernel_rfl)) rfl rfl rfl ?_
                  rintro _ h6 ⟨b6, rfl, hg6, hb6, hx6⟩))
  all_goals (first
               | (refine Br.keep ?_)
               | (refine WL.stepR (ok_append (sz := 1) (bytes := 1) rfl Tryz.underlying22 (show Tryz.prog.info? 5 = some Tryz.t5 by kernel_rfl) rfl rfl rfl rfl (by decide) rfl rfl (ho5.ext hx6 (fun _ _ => nos)) (rd_blk (len := 1) (sz := 1) (cs := [.int .u8 0]) hb6 rfl) (by simp [Value.oneCell']) (by simp only [maxLen]; omega) (by omega)) rfl rfl rfl ?_
                  rintro v7 h7 ⟨ho7, hx7, hl7⟩
                  have ho7 : Own h7 v7 5 1 9 (bys [0, 3, 0, 0, 117, 115, 101, 114, 0]) := ho7
                  have X7 : Ext No h2 h7 := (X5.trans hx6).trans' hx7 (fun q hq e => by have := f5 q e; omega)
                  have f7 := fresh_of hl7 f5 (X5.trans hx6).size))
  all_goals (refine Go ?_)
  all_goals (first | (refine Br.keep ?_) | (refine Gs [(1, _), (4, _), (5, _)] ?_))
  all_goals (first | (refine Br.keep ?_) | (refine WC.region ?_))
  all_goals (refine Go ?_)
  all_goals (first | (refine Br.keep ?_) | (refine WL.ld rfl (by first | exact cell_blk (X7.obj hb12 nos) rfl | assumption | exact cell_blk (by assumption) rfl) rfl rfl rfl ?_))
  all_goals (refine Go ?_)
  all_goals (first | (refine Br.keep ?_) | (refine WL.step (ok_idxAddrA Tryz.underlying28 (fun w => Tryz.sizeOf125 w) rfl rfl rfl (by omega) (by first | rfl | assumption)) rfl rfl rfl ?_))
  all_goals (refine Go ?_)
  all_goals (first | (refine Br.keep ?_) | (refine WL.ld rfl (by first | exact cell_blk ((X2.trans X7).obj hp nos) rfl | assumption | exact cell_blk (by assumption) rfl) rfl rfl rfl ?_))
  all_goals (first
               | (refine Br.keep ?_)
               | (refine WL.stepR (okE_appendS rfl Tryz.underlying22 Tryz.underlying9 (show Tryz.prog.info? 5 = some Tryz.t5 by kernel_rfl) rfl rfl rfl rfl rfl ho7 (by omega)) rfl rfl rfl ?_
                  rintro v8 h8 ⟨ho8, hx8, hf8, _⟩
                  have ho8 : Own h8 v8 5 1 10 (bys [0, 3, 0, 0, 117, 115, 101, 114, 0, 117]) := ho8
                  have X8 : Ext No h2 h8 := X7.trans' hx8 (fun q hq e => by have := f7 q e; omega)
                  have f8 : ∀ q, v8.ownBlock = some q → h2.size ≤ q := fun q hq => (hf8 q hq).elim (f7 q) (fun e => by have := X7.size; omega)))
  all_goals (first
               | (refine Br.keep ?_)
               | (refine WL.stepR (okE_buildSlice (vs := [_]) (cs := [_]) (fun | [a0] => [a0] | _ => []) Tryz.underlying22 rfl rfl (by kernel_rfl)) rfl rfl rfl ?_
                  rintro _ h9 ⟨b9, rfl, hg9, hb9, hx9⟩))
  all_goals (first
               | (refine Br.keep ?_)
               | (refine WL.stepR (ok_append (sz := 1) (bytes := 1) rfl Tryz.underlying22 (show Tryz.prog.info? 5 = some Tryz.t5 by kernel_rfl) rfl rfl rfl rfl (by decide) rfl rfl (ho8.ext hx9 (fun _ _ => nos)) (rd_blk (len := 1) (sz := 1) (cs := [.int .u8 0]) hb9 rfl) (by simp [Value.oneCell']) (by simp only [maxLen]; omega) (by omega)) rfl rfl rfl ?_
                  rintro v10 h10 ⟨ho10, hx10, hl10⟩
                  have ho10 : Own h10 v10 5 1 11 (bys [0, 3, 0, 0, 117, 115, 101, 114, 0, 117, 0]) := ho10
                  have X10 : Ext No h2 h10 := (X8.trans hx9).trans' hx10 (fun q hq e => by have := f8 q e; omega)
                  have f10 := fresh_of hl10 f8 (X8.trans hx9).size))
  all_goals (refine Go ?_)
  all_goals (first | (refine Br.keep ?_) | (refine Gs [(1, _), (4, _), (5, _)] ?_))
  all_goals (first | (refine Br.keep ?_) | (refine WC.region ?_))
  all_goals (refine Go ?_)
  all_goals (first | (refine Br.keep ?_) | (exact ⟨(0 + 1, _), ⟨rfl, rfl, rfl, trivial⟩, (by exact .inr ⟨rfl, ho10, X10, f10⟩), (by first | omega | (dsimp only; omega) | simp)⟩))
  all_goals (try (refine Br.mk (i := 1001) ?_))
  all_goals (refine Gn ?_)
  all_goals (refine WC.region ?_)
  all_goals (refine Go ?_)
  all_goals (refine WL.stepR (okE_buildSlice (vs := [_]) (cs := [_]) (fun | [a0] => [a0] | _ => []) Tryz.underlying22 rfl rfl (by kernel_rfl)) rfl rfl rfl ?_
             rintro _ h6 ⟨b6, rfl, hg6, hb6, hx6⟩)
  all_goals (obtain ⟨ek, ho4, f4⟩ : k = 1 ∧ Own h4 w 5 1 11 (bys [0, 3, 0, 0, 117, 115, 101, 114, 0, 117, 0]) ∧ ∀ q, w.ownBlock = some q → h2.size ≤ q := by rcases hI with ⟨e, _⟩ | ⟨e, o, _, f⟩; exfalso; omega; exact ⟨e, o, f⟩)
  all_goals (refine WL.stepR (ok_append (sz := 1) (bytes := 1) rfl Tryz.underlying22 (show Tryz.prog.info? 5 = some Tryz.t5 by kernel_rfl) rfl rfl rfl rfl (by decide) rfl rfl (ho4.ext hx6 (fun _ _ => nos)) (rd_blk (len := 1) (sz := 1) (cs := [.int .u8 0]) hb6 rfl) (by simp [Value.oneCell']) (by simp only [maxLen]; omega) (by omega)) rfl rfl rfl ?_
             rintro v7 h7 ⟨ho7, hx7, hl7⟩
             have ho7 : Own h7 v7 5 1 12 (bys body5) := ho7)
  all_goals (refine Go ?_)
  skip))
  all_goals (first | (fail_if_success refine goB 4 ?_) | (
  refine goB 4 ?_
  all_goals (refine WC.sr ?_)
  all_goals (refine Go ?_)
  all_goals (refine Gs [(1, _), (4, _), (46, _)] ?_)
  all_goals (refine goC 7 8 ?_ ?_ <;> first | exact ⟨⟩ | refine Hb.mk fun hb => ?_ | skip)
  all_goals (first | (fail_if_success refine goB 8 ?_) | (
  refine goB 8 ?_
  all_goals (refine WC.skip ?_)
  skip))
  skip))
  all_goals (refine Gn ?_)
  all_goals (refine WC.sr ?_)
  all_goals (refine Go ?_)
  all_goals (refine Gt ?_)
  all_goals (exact ⟨v7, rfl, ho7, (X2.trans (X4.trans hx6)).trans' hx7 (fun q hq e => by have := f4 q e; have := X2.size; omega)⟩)
abbrev helloL : List UInt8 := [0, 0, 0, 16, 0, 3, 0, 0, 117, 115, 101, 114, 0, 117, 0, 0]
set_option maxHeartbeats 2000000 in
set_option maxRecDepth 100000 in
theorem bytes04_0 {h : Heap} {v : Value} (hv : Rd h v 1 12 (bys body5)) : CallsH Tryz.prog 70 ⟨[.agg ⟨[.int .u8 0, v]⟩]⟩ h fun u h' => Own h' u 5 1 16 (bys helloL) ∧ Ext No h h' ∧ ∀ q, u.ownBlock = some q → h.size ≤ q := by
  obtain ⟨A, c, rfl, _⟩ := id hv
  refine calls [(0, _)] Tryz.func70 rfl Tryz.ntmps70 rfl ⟨rfl, trivial⟩ ?_
  all_goals (refine WC.sr ?_)
  all_goals (refine WL.stepR (okE_box rfl) rfl rfl rfl ?_
             rintro _ h1 ⟨b1, rfl, hg1, hb1, hx1⟩)
  all_goals (refine Go ?_)
  all_goals (refine WC.sr ?_)
  all_goals (refine Go ?_)
  all_goals (refine WC.seq ?_)
  all_goals (refine WC.sr ?_)
  all_goals (refine Go ?_)
  all_goals (refine WL.ld rfl (by first | exact cell_blk hb1 rfl | assumption | exact cell_blk (by assumption) rfl) rfl rfl rfl ?_)
  all_goals (refine Go ?_)
  all_goals (refine Gs [(1, _), (3, _), (6, _)] ?_)
  all_goals (refine goC 1 2 ?_ ?_ <;> first | exact ⟨⟩ | refine Hb.mk fun hb => ?_ | skip)
  all_goals (first | (fail_if_success refine goB 1 ?_) | (
  refine goB 1 ?_
  all_goals (refine WC.region ?_)
  all_goals (refine Go ?_)
  all_goals (refine Ld ?_)
  all_goals (refine WL.stepR (okE_buildSlice (vs := [_]) (cs := [_]) (fun | [a0] => [a0] | _ => []) Tryz.underlying22 rfl rfl (by kernel_rfl)) rfl rfl rfl ?_
             rintro _ h1 ⟨b1, rfl, hg1, hb1, hx1⟩)
  all_goals (refine WL.stepR (ok_append (sz := 1) (bytes := 1) rfl Tryz.underlying22 (show Tryz.prog.info? 5 = some Tryz.t5 by kernel_rfl) rfl rfl rfl rfl (by decide) rfl rfl (by assumption) (by first | assumption | exact rd_blk (by assumption) rfl) (by simp [Value.oneCell']) (by simp only [maxLen]; omega) (by omega)) rfl rfl rfl ?_
             rintro v1 h1 ⟨ho1, hx1, hl1⟩)
  all_goals (refine Go ?_)
  skip))
  all_goals (first | (fail_if_success refine goB 2 ?_) | (
  refine goB 2 ?_
  all_goals (refine WC.skip ?_)
  skip))
  all_goals (refine Gn ?_)
  all_goals (refine WC.seq ?_)
  all_goals (refine WC.drawH (fun h' => Ext No h1 h') 9 10 rfl fol ?_)
  all_goals (refine WH.tk 0 rfl (fun hq hC => ok_move rfl) rfl rfl rfl ?_)
  all_goals (refine WH.tk 1 rfl (fun hq hC => ok_fieldAddr rfl Tryz.underlying38 rfl (fun w => Tryz.sizeOf22 w)) rfl rfl rfl ?_)
  all_goals (refine WH.tk 2 rfl (fun hq hC => ok_load (fun w => Tryz.isAgg22 w) rfl (by first | exact hC.cell (by first | exact cell_blk hb1 rfl | assumption | exact cell_blk (by assumption) rfl) nos)) rfl rfl rfl ?_)
  all_goals (refine WH.tk 3 rfl (fun hq hC => ok_lenL rfl Tryz.underlying22 rfl) rfl rfl rfl ?_)
  all_goals (first | (refine WH.tk 4 rfl (fun hq hC => ok_addI rfl rfl (by omega)) rfl rfl rfl ?_) | (refine WH.tk 4 rfl (fun hq hC => ok_add rfl rfl) rfl rfl rfl ?_))
  all_goals (refine WH.tk 6 rfl (fun hq hC => ok_fieldAddr rfl Tryz.underlying38 rfl (fun w => Tryz.sizeOf22 w)) rfl rfl rfl ?_)
  all_goals (refine WH.tk 7 rfl (fun hq hC => ok_load (fun w => Tryz.isAgg22 w) rfl (by first | exact hC.cell (by first | exact cell_blk hb1 rfl | assumption | exact cell_blk (by assumption) rfl) nos)) rfl rfl rfl ?_)
  all_goals (refine WH.one 5 (by kernel_rfl) ?_)
  all_goals (refine Comes1.call (vs := [_, _, _]) rfl rfl (fun a w => Tryz.call119 a w) rfl (put01 [] 16 4 (.inr (.inr rfl)) (by unfold Rt; decide) (Rd.nil _ _) (by decide)) rfl rfl rfl ?_ (fun _ => by kernel_rfl)
             rintro v5 h5 ⟨ho5, hx5, hf5⟩
             have ho5 : Own h5 v5 5 1 4 (bys [0, 0, 0, 16]) := ho5)
  all_goals (refine ⟨fun _ => hx5, ?_⟩)
  all_goals (refine WH.one 8 (by kernel_rfl) ?_)
  all_goals (refine Comes1.run rfl (ok_append (sz := 1) (bytes := 1) rfl Tryz.underlying22 (show Tryz.prog.info? 5 = some Tryz.t5 by kernel_rfl) rfl rfl rfl rfl (by decide) rfl rfl ho5 (hv.ext0 (hx1.trans hx5)) (by intro c hc; obtain ⟨b, _, rfl⟩ := List.mem_map.1 hc; rfl) (by simp only [maxLen]; omega) (by omega)) rfl rfl rfl ?_ (fun _ => by kernel_rfl)
             rintro v8 h8 ⟨ho8, hx8, hl8⟩
             have ho8 : Own h8 v8 5 1 16 (bys helloL) := ho8)
  all_goals (refine ⟨fun _ => hx5.trans' hx8 (fun q hq e => by have := hf5 q e; omega), ?_⟩)
  all_goals (have hX8 := hx5.trans' hx8 (fun q hq e => by have := hf5 q e; omega))
  all_goals (refine WH.one 9 (by kernel_rfl) ?_)
  all_goals (refine Comes1.run rfl (OkP.r (ok_assign rfl)) rfl rfl rfl ?_ (fun _ => by kernel_rfl)
             rintro _ hz ⟨rfl, _⟩
             subst hz)
  all_goals (refine ⟨fun _ => hX8, ?_⟩)
  all_goals (refine WH.done (by kernel_rfl) ?_)
  all_goals (refine Gn ?_)
  all_goals (refine Gs [(2, _)] ?_)
  all_goals (refine Gt ?_)
  all_goals (exact ⟨ho8, hx1.trans hX8, fresh_of hl8 (fun q hq => by have := hf5 q hq; have := hx1.size; omega) (by have := hx1.size; have := hx5.size; omega)⟩)
set_option maxHeartbeats 2000000 in
set_option maxRecDepth 100000 in
theorem hello_doc {h : Heap} : CallsH Tryz.prog 34 ⟨[]⟩ h fun u h' => Own h' u 5 1 16 (bys helloL) ∧ Ext No h h' ∧ ∀ q, u.ownBlock = some q → h.size ≤ q := by
  have kb := fun (g : Heap) (p : Nat) (hp : g[p]? = some (.cells ⟨[St userL, St uL]⟩ 125 (0, 0))) => build05 hp
  refine calls [] Tryz.func34 rfl Tryz.ntmps34 rfl trivial ?_
  all_goals (refine WC.sr ?_)
  all_goals (refine Go ?_)
  all_goals (refine WC.sr ?_)
  all_goals (refine WL.step (ok_buildF (vs := [_, _]) (cs := [_, _]) (fun | [a0, a1] => [a0, a1] | _ => []) rfl rfl (by kernel_rfl)) rfl rfl rfl ?_)
  all_goals (refine WL.stepR (okE_buildSlice (vs := [_]) (cs := [_, _]) (fun | [.agg ⟨[a0, a1]⟩] => [a0, a1] | _ => []) Tryz.underlying28 rfl rfl (by kernel_rfl)) rfl rfl rfl ?_
             rintro _ h1 ⟨b1, rfl, hg1, hb1, hx1⟩)
  all_goals (refine WL.step (ok_buildF (vs := [_, _]) (cs := [_, _, _, _]) (fun | [a0, a3] => [a0, (.int .i64 0), (.int .i64 0), a3] | _ => []) rfl rfl (by kernel_rfl)) rfl rfl rfl ?_)
  all_goals (refine WL.call (vs := [_]) rfl (fun a w => Tryz.call69 a w) rfl (kb _ _ hb1) rfl rfl rfl ?_
             rintro _ h2 ⟨v2, rfl, ho2, hx2⟩
             obtain ⟨A2, c2, rfl, _⟩ := id ho2.slice)
  all_goals (refine Go ?_)
  all_goals (refine Gs [(1, _)] ?_)
  all_goals (refine WC.sr ?_)
  all_goals (refine Go ?_)
  all_goals (refine WL.step (ok_buildF (vs := [_]) (cs := [_, _]) (fun | [a1] => [(.int .u8 0), a1] | _ => []) rfl rfl (by kernel_rfl)) rfl rfl rfl ?_)
  all_goals (refine WL.call (vs := [_]) rfl (fun a w => Tryz.call70 a w) rfl (bytes04_0 ho2.rd) rfl rfl rfl ?_
             rintro v3 h3 ⟨ho3, hx3, hf3⟩)
  all_goals (refine Go ?_)
  all_goals (refine Gs [(0, _)] ?_)
  all_goals (refine Gt ?_)
  all_goals (exact ⟨ho3, (hx1.trans hx2).trans hx3, fun q hq => by have := hf3 q hq; have := hx1.size; have := hx2.size; omega⟩)
end Go.Proofs.YtdjjpbbhcidaaaaGreatDoor


/-
  Copies of rows of cells, and of bytes.
-/
namespace Go.Proofs.YtdjjpbbhcidaaaaGreatDoor
open Go Go.RK

set_option maxHeartbeats 2000000 in
set_option maxRecDepth 100000 in
theorem clone_byt {h : Heap} {A : Option Addr} {c : Nat} (l : List UInt8) (hr : Rd h (.slice A l.length c) 1 l.length (bys l)) (hm : l.length ≤ 140737488355328) :
    CallsH Tryz.prog 41 ⟨[.slice A l.length c]⟩ h fun u h' => Own h' u 5 1 l.length (bys l) ∧ Ext No h h' ∧ (∀ k, u.ownBlock = some k → h.size ≤ k) := by
  cases A with
  | none =>
    have h0 : l = [] := by
      cases l with
      | nil => rfl
      | cons a l => obtain ⟨b, o, e, _⟩ := Rd.at_ hr (by simp); cases e
    subst h0
    refine calls [(0, _)] Tryz.func41 rfl Tryz.ntmps41 rfl ⟨rfl, trivial⟩ ?_
    all_goals (refine WC.sr ?_)
    all_goals (refine Go ?_)
    all_goals (refine WC.seq ?_)
    all_goals (refine WC.sr ?_)
    all_goals (refine Go ?_)
    all_goals (refine WL.step (ok_eqlSn Tryz.underlying22 rfl rfl) rfl rfl rfl ?_)
    all_goals (refine Gn ?_)
    all_goals (refine goC 1 2 ?_ ?_ <;> first | exact ⟨⟩ | refine Hb.mk fun hb => ?_ | skip)
    all_goals (first | (fail_if_success refine goB 1 ?_) | (
    refine goB 1 ?_
    all_goals (refine WC.sr ?_)
    all_goals (refine Go ?_)
    all_goals (refine Gt ?_)
    all_goals (exact ⟨Own.nil _ _ _, .refl _ _, by simp [Value.ownBlock]⟩)
    skip))
    all_goals (first | (fail_if_success refine goB 2 ?_) | (
    refine goB 2 ?_
    all_goals (refine WC.skip ?_)
    skip))
    all_goals (refine Gn ?_)
    all_goals (refine WC.sr ?_)
    all_goals (refine WL.stepR (okE_buildSlice (vs := []) (cs := []) (fun _ => []) Tryz.underlying22 rfl rfl (by kernel_rfl)) rfl rfl rfl ?_
               rintro _ h1 ⟨b1, rfl, hg1, hb1, hx1⟩)
    all_goals (refine Go ?_)
    all_goals (refine WL.stepR (ok_append (sz := 1) (bytes := 1) rfl Tryz.underlying22 (show Tryz.prog.info? 5 = some Tryz.t5 by kernel_rfl) rfl rfl rfl rfl (by decide) rfl rfl (by assumption) (by first | assumption | exact rd_blk (by assumption) rfl) (by simp [Value.oneCell']) (by simp only [maxLen]; omega) (by omega)) rfl rfl rfl ?_
               rintro v1 h1 ⟨ho1, hx1, hl1⟩)
    all_goals (refine Go ?_)
    all_goals (refine Gs [(2, _)] ?_)
    all_goals (refine Gt ?_)
    all_goals (exact ⟨Own.nil _ _ _, .refl _ _, by simp [Value.ownBlock]⟩)
  | some a =>
    refine calls [(0, _)] Tryz.func41 rfl Tryz.ntmps41 rfl ⟨rfl, trivial⟩ ?_
    all_goals (refine WC.sr ?_)
    all_goals (refine Go ?_)
    all_goals (refine WC.seq ?_)
    all_goals (refine WC.sr ?_)
    all_goals (refine Go ?_)
    all_goals (refine WL.step (ok_eqlSn Tryz.underlying22 rfl rfl) rfl rfl rfl ?_)
    all_goals (refine Gn ?_)
    all_goals (refine goC 1 2 ?_ ?_ <;> first | exact ⟨⟩ | refine Hb.mk fun hb => ?_ | skip)
    all_goals (first | (fail_if_success refine goB 1 ?_) | (
    refine goB 1 ?_
    all_goals (refine WC.sr ?_)
    all_goals (refine Go ?_)
    all_goals (refine Gt ?_)
    all_goals (exact ⟨by simpa using ho2, hx1.trans' hx2 (fun k hk e => by simp [Value.ownBlock] at e; omega), fresh_of hl2 (fun k hk => by simp [Value.ownBlock] at hk; omega) hx1.size⟩)
    skip))
    all_goals (first | (fail_if_success refine goB 2 ?_) | (
    refine goB 2 ?_
    all_goals (refine WC.skip ?_)
    skip))
    all_goals (refine Gn ?_)
    all_goals (refine WC.sr ?_)
    all_goals (refine WL.stepR (okE_buildSlice (vs := []) (cs := []) (fun _ => []) Tryz.underlying22 rfl rfl (by kernel_rfl)) rfl rfl rfl ?_
               rintro _ h1 ⟨b1, rfl, hg1, hb1, hx1⟩)
    all_goals (refine Go ?_)
    all_goals (have hr1 := hr.ext0 hx1)
    all_goals (refine WL.stepR (ok_append (sz := 1) (bytes := 1) rfl Tryz.underlying22 (show Tryz.prog.info? 5 = some Tryz.t5 by kernel_rfl) rfl rfl rfl rfl (by decide) rfl rfl (own_blk hb1 rfl (by simp [maxLen])) hr1 (by intro c hc; obtain ⟨b, _, rfl⟩ := List.mem_map.1 hc; rfl) (by simp only [maxLen]; omega) (by omega)) rfl rfl rfl ?_
               rintro v2 h2 ⟨ho2, hx2, hl2⟩)
    all_goals (refine Go ?_)
    all_goals (refine Gs [(2, _)] ?_)
    all_goals (refine Gt ?_)
    all_goals (exact ⟨by simpa using ho2, hx1.trans' hx2 (fun k hk e => by simp [Value.ownBlock] at e; omega), fresh_of hl2 (fun k hk => by simp [Value.ownBlock] at hk; omega) hx1.size⟩)
end Go.Proofs.YtdjjpbbhcidaaaaGreatDoor


/-
  FRAMES (layer 4), by the code: bytes come, and messages are taken.
-/
namespace Go.Proofs.YtdjjpbbhcidaaaaGreatDoor
open Go Go.RK

def numB (l : List UInt8) : Int := l.foldl (fun n x => n * 256 + (x.toNat : Int)) 0
theorem numB_snoc (l : List UInt8) (x : UInt8) : numB (l ++ [x]) = numB l * 256 + (x.toNat : Int) := by simp [numB]
set_option maxHeartbeats 2000000 in
set_option maxRecDepth 100000 in
theorem sized_4 {h : Heap} : CallsH Tryz.prog 135 ⟨[In 4]⟩ h fun u h' => u = .bool true ∧ h' = h := by
  refine calls [(0, _)] Tryz.func135 rfl Tryz.ntmps135 rfl ⟨rfl, trivial⟩ ?_
  all_goals (refine WC.sr ?_)
  all_goals (refine Go ?_)
  all_goals (refine WC.seq ?_)
  all_goals (refine WC.sr ?_)
  all_goals (refine Go ?_)
  all_goals (refine WC.block ?_)
  all_goals (refine WC.seq ?_)
  all_goals (refine WC.sr ?_)
  all_goals (refine Go ?_)
  all_goals (refine goC 1 2 ?_ ?_ <;> first | exact ⟨⟩ | refine Hb.mk fun hb => ?_ | skip)
  all_goals (first | (fail_if_success refine goB 1 ?_) | (
  refine goB 1 ?_
  all_goals (refine WC.skip ?_)
  skip))
  all_goals (first | (fail_if_success refine goB 2 ?_) | (
  refine goB 2 ?_
  all_goals (refine WC.sr ?_)
  all_goals (refine Go ?_)
  all_goals (refine Gs [(3, _), (4, _)] ?_)
  all_goals (refine goC 3 4 ?_ ?_ <;> first | exact ⟨⟩ | refine Hb.mk fun hb => ?_ | skip)
  all_goals (first | (fail_if_success refine goB 3 ?_) | (
  refine goB 3 ?_
  all_goals (refine WC.skip ?_)
  skip))
  all_goals (first | (fail_if_success refine goB 4 ?_) | (
  refine goB 4 ?_
  all_goals (refine WC.region ?_)
  all_goals (refine Go ?_)
  skip))
  skip))
  all_goals (refine Gn ?_)
  all_goals (refine goC 5 6 ?_ ?_ <;> first | exact ⟨⟩ | refine Hb.mk fun hb => ?_ | skip)
  all_goals (first | (fail_if_success refine goB 5 ?_) | (
  refine goB 5 ?_
  all_goals (refine WC.sr ?_)
  all_goals (refine Go ?_)
  all_goals (refine Gt ?_)
  all_goals (exact ⟨rfl, rfl⟩)
  skip))
  all_goals (first | (fail_if_success refine goB 6 ?_) | (
  refine goB 6 ?_
  all_goals (refine WC.skip ?_)
  skip))
  all_goals (refine Gn ?_)
  all_goals (refine WC.sr ?_)
  all_goals (refine Go ?_)
  all_goals (refine Gt ?_)
  all_goals (exact ⟨rfl, rfl⟩)
set_option maxHeartbeats 2000000 in
set_option maxRecDepth 100000 in
theorem get_v {h : Heap} {A : Option Addr} {c : Nat} (l : List UInt8) (hr : Rd h (.slice A l.length c) 1 l.length (bys l)) (k : Nat) (hl : k + 4 ≤ l.length) (hm : l.length ≤ 1000000) :
    CallsH Tryz.prog 131 ⟨[.slice A l.length c, In (k : Int), In 4]⟩ h fun u h' => u = .tuple ⟨[In (numB ((l.drop k).take 4)), In 0]⟩ ∧ h' = h := by
  have hcap : l.length ≤ c := by
    obtain ⟨A1, c1, hv, hcap, _⟩ := id hr
    simp only [Value.slice.injEq] at hv
    obtain ⟨_, _, rfl⟩ := hv
    exact hcap
  have hs := (hr.drop (l := k) (by omega)).take (k := 4) (by omega)
  have hml : ((l.drop k).take 4).length = 4 := by simp; omega
  have hmb : ((bys l).drop (k * 1)).take (4 * 1) = bys ((l.drop k).take 4) := by simp [bys]
  rw [hmb] at hs
  generalize (l.drop k).take 4 = m at *
  refine calls [(0, _), (1, _), (2, _)] Tryz.func131 rfl Tryz.ntmps131 rfl ⟨rfl, rfl, rfl, trivial⟩ ?_
  all_goals (refine WC.sr ?_)
  all_goals (refine Go ?_)
  all_goals (refine WC.seq ?_)
  all_goals (refine WC.block ?_)
  all_goals (refine WC.seq ?_)
  all_goals (refine WC.sr ?_)
  all_goals (refine Go ?_)
  all_goals (refine WL.call (vs := [_]) rfl (fun a w => Tryz.call135 a w) rfl (sized_4) rfl rfl rfl ?_
             rintro _ hz ⟨rfl, _⟩
             subst hz)
  all_goals (refine Go ?_)
  all_goals (refine Gs [(0, _), (1, _), (2, _), (11, _)] ?_)
  all_goals (refine goC 1 2 ?_ ?_ <;> first | exact ⟨⟩ | refine Hb.mk fun hb => ?_ | skip)
  all_goals (first | (fail_if_success refine goB 1 ?_) | (
  refine goB 1 ?_
  all_goals (refine WC.skip ?_)
  skip))
  all_goals (first | (fail_if_success refine goB 2 ?_) | (
  refine goB 2 ?_
  all_goals (refine WC.region ?_)
  all_goals (refine Go ?_)
  skip))
  all_goals (refine Gn ?_)
  all_goals (refine goC 3 4 ?_ ?_ <;> first | exact ⟨⟩ | refine Hb.mk fun hb => ?_ | skip)
  all_goals (first | (fail_if_success refine goB 3 ?_) | (
  refine goB 3 ?_
  all_goals (refine WC.sr ?_)
  all_goals (refine Go ?_)
  all_goals (refine Gs [(6, _), (7, _)] ?_)
  all_goals (refine Gt ?_)
  all_goals (first | exact ⟨by rw [hn, List.take_of_length_le (by omega)], rfl⟩ | (exfalso; omega))
  skip))
  all_goals (first | (fail_if_success refine goB 4 ?_) | (
  refine goB 4 ?_
  all_goals (refine WC.seq ?_)
  all_goals (refine WC.sr ?_)
  all_goals (refine Go ?_)
  all_goals (refine Gs [(0, _), (1, _), (2, _), (17, _)] ?_)
  all_goals (refine goC 5 6 ?_ ?_ <;> first | exact ⟨⟩ | refine Hb.mk fun hb => ?_ | skip)
  all_goals (first | (fail_if_success refine goB 5 ?_) | (
  refine goB 5 ?_
  all_goals (refine WC.skip ?_)
  skip))
  all_goals (first | (fail_if_success refine goB 6 ?_) | (
  refine goB 6 ?_
  all_goals (refine WC.region ?_)
  all_goals (refine Go ?_)
  skip))
  all_goals (refine Gn ?_)
  all_goals (refine goC 7 8 ?_ ?_ <;> first | exact ⟨⟩ | refine Hb.mk fun hb => ?_ | skip)
  all_goals (first | (fail_if_success refine goB 7 ?_) | (
  refine goB 7 ?_
  all_goals (refine WC.sr ?_)
  all_goals (refine Go ?_)
  all_goals (refine Gs [(6, _), (7, _)] ?_)
  all_goals (refine Gt ?_)
  all_goals (first | exact ⟨by rw [hn, List.take_of_length_le (by omega)], rfl⟩ | (exfalso; omega))
  skip))
  all_goals (first | (fail_if_success refine goB 8 ?_) | (
  refine goB 8 ?_
  all_goals (refine WC.skip ?_)
  skip))
  skip))
  all_goals (refine Gn ?_)
  all_goals (refine WC.sr ?_)
  all_goals (refine Go ?_)
  all_goals (refine WC.seq ?_)
  all_goals (refine WC.sr ?_)
  all_goals (refine Go ?_)
  all_goals (refine WL.step (ok_slice_lhN (l := k) (k := k + 4) Tryz.underlying22 (fun w => Tryz.sizeOf5 w) rfl rfl rfl (by omega)) rfl rfl rfl ?_
             rw [show k + 4 - k = 4 by omega]
             generalize (if c = k then A else A.map (·.add (k * 1))) = S at *)
  all_goals (refine Go ?_)
  all_goals (refine Gs [(8, _), (33, _), (34, _), (35, _)] ?_)
  all_goals (refine WC.block ?_)
  -- loop 0: slots that turn [8, 35], that stay [33, 34]
  all_goals (refine WC.loopG (X := Nat × Int) (fun x => ([(35, In (x.1 : Int)), (8, In x.2)] : Fr)) [(33, _), (34, _)] (fun x h' => h' = h ∧ x.1 ≤ 4 ∧ x.2 = numB (m.take x.1) ∧ 0 ≤ x.2 ∧ x.2 + 1 ≤ 256 ^ x.1) (fun x => 4 - x.1) ((0, 0)) ⟨rfl, rfl, rfl, rfl, trivial⟩ (by exact ⟨rfl, by simp, rfl, by simp, by simp⟩) ?_)
  all_goals (rintro ⟨j, n⟩ h1 ⟨hz, hj, hn, hn0, hn1⟩
             dsimp only at hj hn hn0 hn1
             subst hz)
  all_goals (refine WC.sub [(8, _), (35, _), (33, _), (34, _)] ⟨rfl, rfl, rfl, rfl, trivial⟩ ?_)
  all_goals (dsimp only)
  all_goals (refine WC.sr ?_)
  all_goals (refine Go ?_)
  all_goals (refine WC.seq ?_)
  all_goals (refine goC 9 10 ?_ ?_ <;> first | exact ⟨⟩ | refine Hb.mk fun hb => ?_ | skip)
  all_goals (first | (fail_if_success refine goB 9 ?_) | (
  refine goB 9 ?_
  all_goals (refine WC.skip ?_)
  skip))
  all_goals (first | (fail_if_success refine goB 10 ?_) | (
  refine goB 10 ?_
  all_goals (refine WC.exit ?_)
  all_goals (repeat' (with_reducible first | refine thenP_x ?_ | refine blockP_miss rfl ?_ | refine blockP_hit ?_ | refine blockP_n ?_ | refine thenP_n ?_))
  all_goals (refine Br.out (i := 1001) ?_)
  skip))
  all_goals (refine Gn ?_)
  all_goals (first | (refine Br.keep ?_) | (refine WC.seq ?_))
  all_goals (first | (refine Br.keep ?_) | (refine WC.block ?_))
  all_goals (first | (refine Br.keep ?_) | (refine WC.sr ?_))
  all_goals (first
               | (refine Br.keep ?_)
               | (obtain ⟨bL, oL, hA, hbL, hat⟩ := Rd.at_ hs (by omega)
                  obtain ⟨y, hy⟩ : ∃ y, m[j]? = some y := ⟨_, List.getElem?_eq_getElem (by omega)⟩
                  have hc1 := hat.get (p := oL + j * 1) j (show (bys m)[j]? = some (By y) by simp [bys, hy]) (by omega)
                  have hpl := pow_le (show j ≤ 3 by omega)
                  have hyl := y.toNat_lt))
  all_goals (first | (refine Br.keep ?_) | (refine WL.step (ok_idxAddrA Tryz.underlying22 (fun w => Tryz.sizeOf5 w) rfl rfl rfl (by omega) (by first | rfl | assumption)) rfl rfl rfl ?_))
  all_goals (first | (refine Br.keep ?_) | (refine WL.ld rfl (by first | exact hc1 | assumption | exact cell_blk (by assumption) rfl) rfl rfl rfl ?_))
  all_goals (refine Go ?_)
  all_goals (first | (refine Br.keep ?_) | (refine WC.region ?_))
  all_goals (refine Go ?_)
  all_goals (first | (refine Br.keep ?_) | (refine WL.step (ok_shlU rfl rfl (by decide) (by rw [show (2 : Int) ^ ((8 : Int)).toNat = 256 from rfl]; constructor <;> omega)) rfl rfl rfl ?_))
  all_goals (first | (refine Br.keep ?_) | (rw [show (2 : Int) ^ ((8 : Int)).toNat = 256 from rfl]))
  all_goals (refine Go ?_)
  all_goals (first | (refine Br.keep ?_) | (first | (refine WL.step (ok_convI Tryz.underlying5 Tryz.underlying3 rfl (by omega)) rfl rfl rfl ?_) | (refine WL.step (ok_conv Tryz.underlying5 Tryz.underlying3 rfl) rfl rfl rfl ?_)))
  all_goals (first | (refine Br.keep ?_) | (refine WL.step (ok_or rfl rfl) rfl rfl rfl ?_))
  all_goals (first | (refine Br.keep ?_) | (rw [or_byte ⟨by omega, by omega⟩ ⟨by omega, by omega⟩]))
  all_goals (refine Go ?_)
  all_goals (first | (refine Br.keep ?_) | (refine Gs [(8, _), (33, _), (34, _), (35, _)] ?_))
  all_goals (first | (refine Br.keep ?_) | (refine WC.region ?_))
  all_goals (refine Go ?_)
  all_goals (first | (refine Br.keep ?_) | (exact ⟨(j + 1, _), ⟨rfl, rfl, rfl, rfl, trivial⟩, (by exact ⟨rfl, by omega, by rw [List.take_add_one, hy, Option.toList_some, numB_snoc, ← hn], by omega, by rw [Int.pow_succ]; omega⟩), (by simp; omega)⟩))
  all_goals (try (refine Br.mk (i := 1001) ?_))
  all_goals (refine Gn ?_)
  all_goals (refine Gs [(8, _)] ?_)
  all_goals (refine WC.sr ?_)
  all_goals (refine Go ?_)
  all_goals (refine Gt ?_)
  all_goals (first | exact ⟨by rw [hn, List.take_of_length_le (by omega)], rfl⟩ | (exfalso; omega))
end Go.Proofs.YtdjjpbbhcidaaaaGreatDoor


/-
  FRAMES (layer 4), by the code: a framer takes bytes, and gives messages.
-/
namespace Go.Proofs.YtdjjpbbhcidaaaaGreatDoor
open Go Go.RK

/-- A framer at b: its bytes are l. -/
structure Fw (h : Heap) (b : Nat) (ty : Bool) (v : Value) (l : List UInt8) : Prop where
  blk : h[b]? = some (.cells ⟨[.bool ty, v, In 65536, In 262144, In 0]⟩ 87 (0, 0))
  own : Own h v 5 1 l.length (bys l)
section
variable {h h' : Heap} {b : Nat} {ty : Bool} {v : Value} {l : List UInt8} {S : Nat → Prop}
theorem Fw.ext (k : Fw h b ty v l) (x : Ext S h h') (h1 : ¬ S b) (h2 : ∀ q, v.ownBlock = some q → ¬ S q) : Fw h' b ty v l := ⟨x.obj k.blk h1, k.own.ext x h2⟩
theorem Fw.ext0 (k : Fw h b ty v l) (x : Ext No h h') : Fw h' b ty v l := k.ext x nos (fun _ _ => nos)
theorem Fw.ne (k : Fw h b ty v l) : ∀ q, v.ownBlock = some q → q ≠ b := fun q hq e => by
  have := own_ne k.own k.blk (by decide)
  exact this (e ▸ hq)
set_option maxHeartbeats 2000000 in
set_option maxRecDepth 100000 in
theorem new_fw {h : Heap} : CallsH Tryz.prog 66 ⟨[In 65536, In 262144, .bool true]⟩ h fun u h' => ∃ b, u = .tuple ⟨[.pointer (some ⟨b, 0, none⟩), In 0]⟩ ∧ Fw h' b false (.slice none 0 0) [] ∧ h.size ≤ b ∧ Ext No h h' := by
  refine calls [(0, _), (1, _), (2, _)] Tryz.func66 rfl Tryz.ntmps66 rfl ⟨rfl, rfl, rfl, trivial⟩ ?_
  all_goals (refine WC.sr ?_)
  all_goals (refine Go ?_)
  all_goals (refine WC.seq ?_)
  all_goals (refine WC.sr ?_)
  all_goals (refine Go ?_)
  all_goals (refine goP 10 ?_ ?_ <;> first | exact ⟨⟩ | refine Hb.mk fun hb => ?_ | skip)
  all_goals (refine Gg ?_)
  all_goals (refine Go ?_)
  all_goals (refine goP 14 ?_ ?_ <;> first | exact ⟨⟩ | refine Hb.mk fun hb => ?_ | skip)
  all_goals (refine Gg ?_)
  all_goals (refine Go ?_)
  all_goals (refine goP 19 ?_ ?_ <;> first | exact ⟨⟩ | refine Hb.mk fun hb => ?_ | skip)
  all_goals (refine Gg ?_)
  all_goals (refine Go ?_)
  all_goals (refine Gs [(0, _), (1, _), (2, _), (22, _)] ?_)
  all_goals (refine goC 1 2 ?_ ?_ <;> first | exact ⟨⟩ | refine Hb.mk fun hb => ?_ | skip)
  all_goals (first | (fail_if_success refine goB 1 ?_) | (
  refine goB 1 ?_
  all_goals (refine WC.sr ?_)
  all_goals (refine Go ?_)
  all_goals (refine Gs [(6, _), (7, _)] ?_)
  all_goals (refine Gt ?_)
  all_goals (exact ⟨b1, rfl, ⟨hb1, Own.nil _ _ _⟩, hg1, hx1⟩)
  skip))
  all_goals (first | (fail_if_success refine goB 2 ?_) | (
  refine goB 2 ?_
  all_goals (refine WC.skip ?_)
  skip))
  all_goals (refine Gn ?_)
  all_goals (refine WC.sr ?_)
  all_goals (refine Go ?_)
  all_goals (refine WL.step (ok_buildF (vs := [_]) (cs := [_]) (fun | [a0] => [a0] | _ => []) rfl rfl (by kernel_rfl)) rfl rfl rfl ?_)
  all_goals (refine Go ?_)
  all_goals (refine WL.step (ok_buildF (vs := [_, _, _]) (cs := [_, _, _, _, _]) (fun | [.agg ⟨[a0]⟩, a2, a3] => [a0, (.slice none 0 0), a2, a3, (.int .i64 0)] | _ => []) rfl rfl (by kernel_rfl)) rfl rfl rfl ?_)
  all_goals (refine WL.stepR (okE_box rfl) rfl rfl rfl ?_
             rintro _ h1 ⟨b1, rfl, hg1, hb1, hx1⟩)
  all_goals (refine Go ?_)
  all_goals (refine Gs [(6, _), (7, _)] ?_)
  all_goals (refine Gt ?_)
  all_goals (exact ⟨b1, rfl, ⟨hb1, Own.nil _ _ _⟩, hg1, hx1⟩)
set_option maxHeartbeats 2000000 in
set_option maxRecDepth 100000 in
theorem fw_ready (k : Fw h b ty v l) : CallsH Tryz.prog 65 ⟨[.pointer (some ⟨b, 0, none⟩)]⟩ h fun u h' => u = .bool true ∧ h' = h := by
  have hb := k.blk
  refine calls [(0, _)] Tryz.func65 rfl Tryz.ntmps65 rfl ⟨rfl, trivial⟩ ?_
  all_goals (refine WC.sr ?_)
  all_goals (refine Go ?_)
  all_goals (refine WC.sr ?_)
  all_goals (refine Go ?_)
  all_goals (refine WL.step (ok_neqPn Tryz.underlying26 rfl rfl) rfl rfl rfl ?_)
  all_goals (refine Go ?_)
  all_goals (refine goP 5 ?_ ?_ <;> first | exact ⟨⟩ | refine Hb.mk fun hb => ?_ | skip)
  all_goals (refine Gg ?_)
  all_goals (first | (refine WL.pass rfl rfl rfl ?_) | (refine WL.step (ok_nilCheck rfl) rfl rfl rfl ?_))
  all_goals (refine Gg ?_)
  all_goals (first | (refine WL.pass rfl rfl rfl ?_) | (refine Ld ?_))
  all_goals (refine Gg ?_)
  all_goals (refine Go ?_)
  all_goals (refine Gs [(2, _)] ?_)
  all_goals (refine Gt ?_)
  all_goals (exact ⟨rfl, rfl⟩)
set_option maxHeartbeats 2000000 in
set_option maxRecDepth 100000 in
theorem fw_head (ty : Bool) : CallsH Tryz.prog 49 ⟨[.agg ⟨[.bool ty]⟩]⟩ h fun u h' => u = In ((if ty = true then 1 else 0 : Nat) : Int) ∧ Ext No h h' := by
  cases ty
  all_goals
    refine calls [(0, _)] Tryz.func49 rfl Tryz.ntmps49 rfl ⟨rfl, trivial⟩ ?_
    all_goals (refine WC.sr ?_)
    all_goals (refine WL.stepR (okE_box rfl) rfl rfl rfl ?_
               rintro _ h1 ⟨b1, rfl, hg1, hb1, hx1⟩)
    all_goals (refine Go ?_)
    all_goals (refine WC.seq ?_)
    all_goals (refine WC.sr ?_)
    all_goals (refine Go ?_)
    all_goals (refine WL.ld rfl (by first | exact cell_blk hb1 rfl | assumption | exact cell_blk (by assumption) rfl) rfl rfl rfl ?_)
    all_goals (refine Gn ?_)
    all_goals (refine Gs [(4, _)] ?_)
    all_goals (refine goC 1 2 ?_ ?_ <;> first | exact ⟨⟩ | refine Hb.mk fun hb => ?_ | skip)
    all_goals (first | (fail_if_success refine goB 1 ?_) | (
    refine goB 1 ?_
    all_goals (refine WC.sr ?_)
    all_goals (refine Go ?_)
    all_goals (refine Gt ?_)
    all_goals (exact ⟨rfl, hx1⟩)
    skip))
    all_goals (first | (fail_if_success refine goB 2 ?_) | (
    refine goB 2 ?_
    all_goals (refine WC.skip ?_)
    skip))
    all_goals (refine Gn ?_)
    all_goals (refine WC.sr ?_)
    all_goals (refine Go ?_)
    all_goals (refine Gt ?_)
    all_goals (exact ⟨rfl, hx1⟩)
set_option maxHeartbeats 2000000 in
set_option maxRecDepth 100000 in
theorem fw_feed {w : Value} (k : Fw h b ty v l) (m : List UInt8) (hr : Rd h w 1 m.length (bys m)) (hl : l.length + m.length ≤ 262144) :
    CallsH Tryz.prog 31 ⟨[.pointer (some ⟨b, 0, none⟩), w]⟩ h fun u h' => u = In 0 ∧ ∃ v', Fw h' b ty v' (l ++ m) ∧ Ext (fun q => q = b ∨ v.ownBlock = some q) h h' ∧ ∀ q, v'.ownBlock = some q → v.ownBlock = some q ∨ h.size ≤ q := by
  have kr := fw_ready k
  have hb := k.blk
  have ho := k.own
  have hne := k.ne
  obtain ⟨A, c, rfl, _⟩ := id hr
  obtain ⟨B, d, rfl, _⟩ := id ho.slice
  refine calls [(0, _), (1, _)] Tryz.func31 rfl Tryz.ntmps31 rfl ⟨rfl, rfl, trivial⟩ ?_
  all_goals (refine WC.sr ?_)
  all_goals (refine Go ?_)
  all_goals (refine WC.seq ?_)
  all_goals (refine WC.block ?_)
  all_goals (refine WC.sr ?_)
  all_goals (refine Go ?_)
  all_goals (refine WL.call (vs := [_]) rfl (fun a w => Tryz.call65 a w) rfl (kr) rfl rfl rfl ?_
             rintro _ hz ⟨rfl, _⟩
             subst hz)
  all_goals (refine Go ?_)
  all_goals (refine Gs [(0, _), (1, _), (5, _)] ?_)
  all_goals (refine goC 1 2 ?_ ?_ <;> first | exact ⟨⟩ | refine Hb.mk fun hb => ?_ | skip)
  all_goals (first | (fail_if_success refine goB 1 ?_) | (
  refine goB 1 ?_
  all_goals (refine WC.sr ?_)
  all_goals (refine Go ?_)
  all_goals (refine Gt ?_)
  all_goals (refine ⟨rfl, _, ⟨hb3, ?_⟩, (hx2.mono fun _ _ e => .inr e).trans (hx3.mono fun _ _ e => .inl e), fun q hq => hl2.elim (fun e => .inl (e ▸ hq)) (fun e => .inr (by rw [e] at hq; injection hq with hq; omega))⟩
             have := ho2.ext hx3 (fun q hq e => by subst e; exact hl2.elim (fun e => hne _ (e ▸ hq) rfl) (fun e => by rw [e] at hq; injection hq with hq; omega))
             rw [List.length_append, show bys (l ++ m) = bys l ++ bys m from List.map_append ..]
             exact this)
  skip))
  all_goals (first | (fail_if_success refine goB 2 ?_) | (
  refine goB 2 ?_
  all_goals (refine WC.seq ?_)
  all_goals (refine WC.drawE fol (by kernel_rfl) ?_)
  all_goals (refine WQ.stepE (ok_move rfl) rfl rfl rfl ?_)
  all_goals (refine WQ.stepE (ok_lenL rfl Tryz.underlying22 rfl) rfl rfl rfl ?_)
  all_goals (refine WQ.stepE (ok_move rfl) rfl rfl rfl ?_)
  all_goals (refine WQ.stepE (ok_nilCheck rfl) rfl rfl rfl ?_)
  all_goals (refine WQ.stepE (ok_fieldAddr rfl Tryz.underlying87 rfl (fun w => Tryz.sizeOf3 w)) rfl rfl rfl ?_)
  all_goals (refine WQ.stepE (ok_load (fun w => Tryz.isAgg3 w) rfl (by first | exact cell_blk hb rfl | assumption | exact cell_blk (by assumption) rfl)) rfl rfl rfl ?_)
  all_goals (refine WQ.stepE (ok_move rfl) rfl rfl rfl ?_)
  all_goals (refine WQ.stepE (ok_nilCheck rfl) rfl rfl rfl ?_)
  all_goals (refine WQ.stepE (ok_fieldAddr rfl Tryz.underlying87 rfl (fun w => Tryz.sizeOf22 w)) rfl rfl rfl ?_)
  all_goals (refine WQ.stepE (ok_load (fun w => Tryz.isAgg22 w) rfl (by first | exact cell_blk hb rfl | assumption | exact cell_blk (by assumption) rfl)) rfl rfl rfl ?_)
  all_goals (refine WQ.stepE (ok_lenL rfl Tryz.underlying22 rfl) rfl rfl rfl ?_)
  all_goals (first | (refine WQ.stepE (ok_subI rfl rfl (by omega)) rfl rfl rfl ?_) | (refine WQ.stepE (ok_sub rfl rfl) rfl rfl rfl ?_))
  all_goals (first | (refine WQ.stepE (OkP.bool_t (by omega) (ok_gtr rfl rfl)) rfl rfl rfl ?_) | (refine WQ.stepE (OkP.bool_f (by omega) (ok_gtr rfl rfl)) rfl rfl rfl ?_) | (refine WQ.stepE (ok_gtr rfl rfl) rfl rfl rfl ?_))
  all_goals (refine WQ.stepE (ok_assign rfl) rfl rfl rfl ?_)
  all_goals (refine WQ.nil ?_)
  all_goals (refine Gn ?_)
  all_goals (refine Gs [(0, _), (1, _), (9, _)] ?_)
  all_goals (refine goC 3 4 ?_ ?_ <;> first | exact ⟨⟩ | refine Hb.mk fun hb => ?_ | skip)
  all_goals (first | (fail_if_success refine goB 3 ?_) | (
  refine goB 3 ?_
  all_goals (refine WC.sr ?_)
  all_goals (refine Go ?_)
  all_goals (refine Gt ?_)
  all_goals (refine ⟨rfl, _, ⟨hb3, ?_⟩, (hx2.mono fun _ _ e => .inr e).trans (hx3.mono fun _ _ e => .inl e), fun q hq => hl2.elim (fun e => .inl (e ▸ hq)) (fun e => .inr (by rw [e] at hq; injection hq with hq; omega))⟩
             have := ho2.ext hx3 (fun q hq e => by subst e; exact hl2.elim (fun e => hne _ (e ▸ hq) rfl) (fun e => by rw [e] at hq; injection hq with hq; omega))
             rw [List.length_append, show bys (l ++ m) = bys l ++ bys m from List.map_append ..]
             exact this)
  skip))
  all_goals (first | (fail_if_success refine goB 4 ?_) | (
  refine goB 4 ?_
  all_goals (refine WC.skip ?_)
  skip))
  skip))
  all_goals (refine Gn ?_)
  all_goals (refine WC.sr ?_)
  all_goals (refine Go ?_)
  all_goals (refine WL.step (ok_nilCheck rfl) rfl rfl rfl ?_)
  all_goals (refine Go ?_)
  all_goals (refine WL.ld rfl (by first | exact cell_blk hb rfl | assumption | exact cell_blk (by assumption) rfl) rfl rfl rfl ?_)
  all_goals (refine Go ?_)
  all_goals (refine WL.stepR (ok_append (sz := 1) (bytes := 1) rfl Tryz.underlying22 (show Tryz.prog.info? 5 = some Tryz.t5 by kernel_rfl) rfl rfl rfl rfl (by decide) rfl rfl ho hr (by intro c hc; obtain ⟨b, _, rfl⟩ := List.mem_map.1 hc; rfl) (by simp only [maxLen]; omega) (by omega)) rfl rfl rfl ?_
             rintro v2 h2 ⟨ho2, hx2, hl2⟩)
  all_goals (obtain ⟨B2, d2, rfl, _⟩ := id ho2.slice
             have hb2 := hx2.obj hb (fun e => hne _ e rfl)
             have lb := lt_of_some hb)
  all_goals (refine WL.step (ok_nilCheck rfl) rfl rfl rfl ?_)
  all_goals (refine Go ?_)
  all_goals (refine WL.stepR0 (okE_store (fun w => Tryz.sizeOf22 w) rfl rfl hb2 (Nat.le_of_ble_eq_true rfl) rfl rfl) rfl rfl ?_
             rintro _ h3 ⟨hb3, hx3⟩)
  all_goals (refine Gn ?_)
  all_goals (refine Gs [] ?_)
  all_goals (refine WC.sr ?_)
  all_goals (refine Go ?_)
  all_goals (refine Gt ?_)
  all_goals (refine ⟨rfl, _, ⟨hb3, ?_⟩, (hx2.mono fun _ _ e => .inr e).trans (hx3.mono fun _ _ e => .inl e), fun q hq => hl2.elim (fun e => .inl (e ▸ hq)) (fun e => .inr (by rw [e] at hq; injection hq with hq; omega))⟩
             have := ho2.ext hx3 (fun q hq e => by subst e; exact hl2.elim (fun e => hne _ (e ▸ hq) rfl) (fun e => by rw [e] at hq; injection hq with hq; omega))
             rw [List.length_append, show bys (l ++ m) = bys l ++ bys m from List.map_append ..]
             exact this)
set_option maxHeartbeats 2000000 in
set_option maxRecDepth 100000 in
theorem fw_size (k : Fw h b ty v l) (hd : Nat) (he : (if ty = true then 1 else 0) = hd) (hl : hd + 4 ≤ l.length) (hm : l.length ≤ 1000000) : CallsH Tryz.prog 126 ⟨[.pointer (some ⟨b, 0, none⟩)]⟩ h fun u h' => u = .tuple ⟨[In (numB ((l.drop hd).take 4)), .bool true]⟩ ∧ Ext No h h' := by
  have hb := k.blk
  have ho := k.own
  obtain ⟨B, d, rfl, _⟩ := id ho.slice
  have kh := fun h' => fw_head (h := h') ty
  rw [he] at kh
  have kg := fun h' (x : Ext No h h') => get_v l (ho.rd.ext0 x) hd hl hm
  refine calls [(0, _)] Tryz.func126 rfl Tryz.ntmps126 rfl ⟨rfl, trivial⟩ ?_
  all_goals (refine WC.sr ?_)
  all_goals (refine Go ?_)
  all_goals (refine WC.seq ?_)
  all_goals (refine WC.drawH (fun h' => Ext No h h') 15 15 rfl fol ?_)
  all_goals (refine WH.tk 0 rfl (fun hq hC => ok_move rfl) rfl rfl rfl ?_)
  all_goals (refine WH.tk 1 rfl (fun hq hC => ok_nilCheck rfl) rfl rfl rfl ?_)
  all_goals (refine WH.tk 2 rfl (fun hq hC => ok_fieldAddr rfl Tryz.underlying87 rfl (fun w => Tryz.sizeOf22 w)) rfl rfl rfl ?_)
  all_goals (refine WH.tk 3 rfl (fun hq hC => ok_load (fun w => Tryz.isAgg22 w) rfl (by first | exact hC.cell (by first | exact cell_blk hb rfl | assumption | exact cell_blk (by assumption) rfl) nos)) rfl rfl rfl ?_)
  all_goals (refine WH.tk 4 rfl (fun hq hC => ok_move rfl) rfl rfl rfl ?_)
  all_goals (refine WH.tk 5 rfl (fun hq hC => ok_nilCheck rfl) rfl rfl rfl ?_)
  all_goals (refine WH.tk 6 rfl (fun hq hC => ok_fieldAddr rfl Tryz.underlying87 rfl (fun w => Tryz.sizeOf85 w)) rfl rfl rfl ?_)
  all_goals (refine WH.tk 7 rfl (fun hq hC => ok_loadN (fun w => Tryz.isAgg85 w) (fun w => Tryz.sizeOf85 w) rfl rfl (by exact At.pre (xs := [_]) (ys := [_, _, _, _]) ((At.of_block hb).ext hC nos))) rfl rfl rfl ?_)
  all_goals (refine WH.one 8 (by kernel_rfl) ?_)
  all_goals (refine Comes1.call (vs := [_]) rfl rfl (fun a w => Tryz.call49 a w) rfl (kh _) rfl rfl rfl ?_ (fun _ => by kernel_rfl)
             rintro _ h1 ⟨rfl, hx1⟩)
  all_goals (refine ⟨fun _ => hx1, ?_⟩)
  all_goals (refine WH.one 9 (by kernel_rfl) ?_)
  all_goals (refine Comes1.call (vs := [_, _, _]) rfl rfl (fun a w => Tryz.call131 a w) rfl (kg _ hx1) rfl rfl rfl ?_ (fun _ => by kernel_rfl)
             rintro _ hq ⟨rfl, hz⟩
             replace hz := hz.symm
             subst hz)
  all_goals (refine ⟨fun _ => hx1, ?_⟩)
  all_goals (refine WH.tk 10 rfl (fun hq hC => ok_move rfl) rfl rfl rfl ?_)
  all_goals (refine WH.tk 11 rfl (fun hq hC => ok_extract rfl rfl) rfl rfl rfl ?_)
  all_goals (refine WH.tk 12 rfl (fun hq hC => ok_extract rfl rfl) rfl rfl rfl ?_)
  all_goals (refine WH.tk 13 rfl (fun hq hC => ok_assign rfl) rfl rfl rfl ?_)
  all_goals (refine WH.tk 14 rfl (fun hq hC => ok_assign rfl) rfl rfl rfl ?_)
  all_goals (refine WH.done (by kernel_rfl) ?_)
  all_goals (refine Gn ?_)
  all_goals (refine Gs [(4, _), (5, _)] ?_)
  all_goals (refine WC.sr ?_)
  all_goals (refine Go ?_)
  all_goals (refine Gs [(2, _), (3, _)] ?_)
  all_goals (refine Gt ?_)
  all_goals (exact ⟨rfl, by first | exact hx1 | exact hC⟩)
set_option maxHeartbeats 2000000 in
set_option maxRecDepth 100000 in
theorem fw_check (k : Fw h b ty v l) (n : Nat) (hn : 4 ≤ n ∧ n ≤ 65536) : CallsH Tryz.prog 127 ⟨[.pointer (some ⟨b, 0, none⟩), In (n : Int)]⟩ h fun u h' => u = In 0 ∧ h' = h := by
  have hb := k.blk
  refine calls [(0, _), (1, _)] Tryz.func127 rfl Tryz.ntmps127 rfl ⟨rfl, rfl, trivial⟩ ?_
  all_goals (refine WC.sr ?_)
  all_goals (refine Go ?_)
  all_goals (refine WC.seq ?_)
  all_goals (refine WC.block ?_)
  all_goals (refine WC.sr ?_)
  all_goals (refine Go ?_)
  all_goals (refine goC 1 2 ?_ ?_ <;> first | exact ⟨⟩ | refine Hb.mk fun hb => ?_ | skip)
  all_goals (first | (fail_if_success refine goB 1 ?_) | (
  refine goB 1 ?_
  all_goals (refine WC.sr ?_)
  all_goals (refine Go ?_)
  all_goals (refine Gs [(4, _)] ?_)
  all_goals (refine Gt ?_)
  all_goals (first | exact ⟨rfl, rfl⟩ | (exfalso; omega))
  skip))
  all_goals (first | (fail_if_success refine goB 2 ?_) | (
  refine goB 2 ?_
  all_goals (refine WC.sr ?_)
  all_goals (refine Go ?_)
  all_goals (refine WL.step (ok_nilCheck rfl) rfl rfl rfl ?_)
  all_goals (refine Go ?_)
  all_goals (refine WL.ld rfl (by first | exact cell_blk hb rfl | assumption | exact cell_blk (by assumption) rfl) rfl rfl rfl ?_)
  all_goals (refine Go ?_)
  all_goals (refine Gs [(8, _)] ?_)
  all_goals (refine goC 3 4 ?_ ?_ <;> first | exact ⟨⟩ | refine Hb.mk fun hb => ?_ | skip)
  all_goals (first | (fail_if_success refine goB 3 ?_) | (
  refine goB 3 ?_
  all_goals (refine WC.sr ?_)
  all_goals (refine Go ?_)
  all_goals (refine Gt ?_)
  all_goals (first | exact ⟨rfl, rfl⟩ | (exfalso; omega))
  skip))
  all_goals (first | (fail_if_success refine goB 4 ?_) | (
  refine goB 4 ?_
  all_goals (refine WC.skip ?_)
  skip))
  skip))
  all_goals (refine Gn ?_)
  all_goals (refine WC.sr ?_)
  all_goals (refine Go ?_)
  all_goals (refine Gt ?_)
  all_goals (first | exact ⟨rfl, rfl⟩ | (exfalso; omega))
set_option maxHeartbeats 2000000 in
set_option maxRecDepth 100000 in
theorem fw_whole (k : Fw h b ty v l) (hd n : Nat) (he : (if ty = true then 1 else 0) = hd) (hn : numB ((l.drop hd).take 4) = (n : Int)) (h4 : 4 ≤ n ∧ n ≤ 65536) (hl : hd + n ≤ l.length) (hm : l.length ≤ 1000000) :
    CallsH Tryz.prog 81 ⟨[.pointer (some ⟨b, 0, none⟩)]⟩ h fun u h' => u = .tuple ⟨[In ((hd + n : Nat) : Int), .bool true, In 0]⟩ ∧ Fw h' b ty v l ∧ Ext (fun q => q = b) h h' := by
  have hb := k.blk
  have lb := lt_of_some hb
  have ks := fw_size k hd he (by omega) hm
  rw [hn] at ks
  have kc := fun (g : Heap) (x : Ext No h g) => fw_check (k.ext0 x) n h4
  have kh := fun h' => fw_head (h := h') ty
  rw [he] at kh
  obtain ⟨B, d, rfl, _⟩ := id k.own.slice
  refine calls [(0, _)] Tryz.func81 rfl Tryz.ntmps81 rfl ⟨rfl, trivial⟩ ?_
  all_goals (refine WC.sr ?_)
  all_goals (refine Go ?_)
  all_goals (refine WC.seq ?_)
  all_goals (refine WC.sr ?_)
  all_goals (refine Go ?_)
  all_goals (refine WL.step (ok_nilCheck rfl) rfl rfl rfl ?_)
  all_goals (refine Go ?_)
  all_goals (refine WL.ld rfl (by first | exact cell_blk hb rfl | assumption | exact cell_blk (by assumption) rfl) rfl rfl rfl ?_)
  all_goals (refine Go ?_)
  all_goals (refine Gs [(0, _), (12, _)] ?_)
  all_goals (refine goC 1 2 ?_ ?_ <;> first | exact ⟨⟩ | refine Hb.mk fun hb => ?_ | skip)
  all_goals (first | (fail_if_success refine goB 1 ?_) | (
  refine goB 1 ?_
  all_goals (refine WC.seq ?_)
  all_goals (refine WC.drawE fol (by kernel_rfl) ?_)
  all_goals (refine WQ.stepE (ok_move rfl) rfl rfl rfl ?_)
  all_goals (refine WQ.stepE (ok_nilCheck rfl) rfl rfl rfl ?_)
  all_goals (refine WQ.stepE (ok_fieldAddr rfl Tryz.underlying87 rfl (fun w => Tryz.sizeOf41 w)) rfl rfl rfl ?_)
  all_goals (refine WQ.stepE (ok_load (fun w => Tryz.isAgg41 w) rfl (by first | assumption | exact cell_blk (by assumption) rfl)) rfl rfl rfl ?_)
  all_goals (refine WQ.stepE (ok_assign rfl) rfl rfl rfl ?_)
  all_goals (refine WQ.stepE (ok_assign rfl) rfl rfl rfl ?_)
  all_goals (refine WQ.stepE (ok_assign rfl) rfl rfl rfl ?_)
  all_goals (refine WQ.nil ?_)
  all_goals (refine Gn ?_)
  all_goals (refine Gs [(2, _), (3, _), (4, _)] ?_)
  all_goals (refine Gt ?_)
  all_goals (exact ⟨rfl, k3, X3⟩)
  skip))
  all_goals (first | (fail_if_success refine goB 2 ?_) | (
  refine goB 2 ?_
  all_goals (refine WC.skip ?_)
  skip))
  all_goals (refine Gn ?_)
  all_goals (refine WC.sr ?_)
  all_goals (refine Go ?_)
  all_goals (refine WL.call (vs := [_]) rfl (fun a w => Tryz.call126 a w) rfl (ks) rfl rfl rfl ?_
             rintro _ h1 ⟨rfl, hx1⟩)
  all_goals (have hb1 := hx1.obj hb nos)
  all_goals (refine Go ?_)
  all_goals (refine Gs [(0, _), (5, _), (6, _)] ?_)
  all_goals (refine WC.seq ?_)
  all_goals (refine WC.sr ?_)
  all_goals (refine Go ?_)
  all_goals (refine goC 3 4 ?_ ?_ <;> first | exact ⟨⟩ | refine Hb.mk fun hb => ?_ | skip)
  all_goals (first | (fail_if_success refine goB 3 ?_) | (
  refine goB 3 ?_
  all_goals (refine WC.sr ?_)
  all_goals (refine Go ?_)
  all_goals (refine Gs [(2, _), (3, _), (4, _)] ?_)
  all_goals (refine Gt ?_)
  all_goals (exact ⟨rfl, k3, X3⟩)
  skip))
  all_goals (first | (fail_if_success refine goB 4 ?_) | (
  refine goB 4 ?_
  all_goals (refine WC.skip ?_)
  skip))
  all_goals (refine Gn ?_)
  all_goals (refine WC.seq ?_)
  all_goals (refine WC.sr ?_)
  all_goals (refine Go ?_)
  all_goals (refine WL.call (vs := [_, _]) rfl (fun a w => Tryz.call127 a w) rfl (kc _ hx1) rfl rfl rfl ?_
             rintro _ hq ⟨rfl, hz⟩
             replace hz := hz.symm
             subst hz)
  all_goals (refine WL.step (ok_nilCheck rfl) rfl rfl rfl ?_)
  all_goals (refine Go ?_)
  all_goals (refine WL.stepR0 (okE_store (fun w => Tryz.sizeOf41 w) rfl rfl hb1 (Nat.le_of_ble_eq_true rfl) rfl rfl) rfl rfl ?_
             rintro _ h2 ⟨hb2, hx2⟩)
  all_goals (have k2 : Fw h2 b ty (.slice B l.length d) l := ⟨hb2, (k.ext0 hx1).own.ext hx2 (k.ext0 hx1).ne⟩)
  all_goals (refine Gn ?_)
  all_goals (refine Gs [(0, _), (5, _)] ?_)
  all_goals (refine WC.sr ?_)
  all_goals (refine Go ?_)
  all_goals (refine WL.step (ok_nilCheck rfl) rfl rfl rfl ?_)
  all_goals (refine Go ?_)
  all_goals (refine WL.ld rfl (by first | exact cell_blk hb2 rfl | assumption | exact cell_blk (by assumption) rfl) rfl rfl rfl ?_)
  all_goals (refine Go ?_)
  all_goals (refine Gs [(0, _), (5, _), (34, _)] ?_)
  all_goals (refine goC 5 6 ?_ ?_ <;> first | exact ⟨⟩ | refine Hb.mk fun hb => ?_ | skip)
  all_goals (first | (fail_if_success refine goB 5 ?_) | (
  refine goB 5 ?_
  all_goals (refine WC.seq ?_)
  all_goals (refine WC.drawE fol (by kernel_rfl) ?_)
  all_goals (refine WQ.stepE (ok_move rfl) rfl rfl rfl ?_)
  all_goals (refine WQ.stepE (ok_nilCheck rfl) rfl rfl rfl ?_)
  all_goals (refine WQ.stepE (ok_fieldAddr rfl Tryz.underlying87 rfl (fun w => Tryz.sizeOf41 w)) rfl rfl rfl ?_)
  all_goals (refine WQ.stepE (ok_load (fun w => Tryz.isAgg41 w) rfl (by first | assumption | exact cell_blk (by assumption) rfl)) rfl rfl rfl ?_)
  all_goals (refine WQ.stepE (ok_assign rfl) rfl rfl rfl ?_)
  all_goals (refine WQ.stepE (ok_assign rfl) rfl rfl rfl ?_)
  all_goals (refine WQ.stepE (ok_assign rfl) rfl rfl rfl ?_)
  all_goals (refine WQ.nil ?_)
  all_goals (refine Gn ?_)
  all_goals (refine Gs [(2, _), (3, _), (4, _)] ?_)
  all_goals (refine Gt ?_)
  all_goals (exact ⟨rfl, k3, X3⟩)
  skip))
  all_goals (first | (fail_if_success refine goB 6 ?_) | (
  refine goB 6 ?_
  all_goals (refine WC.skip ?_)
  skip))
  all_goals (refine Gn ?_)
  all_goals (refine WC.sr ?_)
  all_goals (refine Go ?_)
  all_goals (refine WL.step (ok_nilCheck rfl) rfl rfl rfl ?_)
  all_goals (refine Go ?_)
  all_goals (refine WL.step (ok_loadN (fun w => Tryz.isAgg85 w) (fun w => Tryz.sizeOf85 w) rfl rfl (by exact At.pre (xs := [_]) (ys := [_, _, _, _]) (At.of_block hb2))) rfl rfl rfl ?_)
  all_goals (refine WL.call (vs := [_]) rfl (fun a w => Tryz.call49 a w) rfl (kh _) rfl rfl rfl ?_
             rintro _ h3 ⟨rfl, hx3⟩)
  all_goals (have k3 := k2.ext0 hx3
             have hb3 := k3.blk
             have X3 : Ext (fun q => q = b) h h3 := (hx1.mono fun _ _ e => e.elim).trans (hx2.trans (hx3.mono fun _ _ e => e.elim)))
  all_goals (refine Go ?_)
  all_goals (refine Gs [(0, _), (7, _)] ?_)
  all_goals (refine WC.seq ?_)
  all_goals (refine WC.drawE fol (by kernel_rfl) ?_)
  all_goals (refine WQ.stepE (ok_move rfl) rfl rfl rfl ?_)
  all_goals (refine WQ.stepE (ok_move rfl) rfl rfl rfl ?_)
  all_goals (refine WQ.stepE (ok_move rfl) rfl rfl rfl ?_)
  all_goals (refine WQ.stepE (ok_nilCheck rfl) rfl rfl rfl ?_)
  all_goals (refine WQ.stepE (ok_fieldAddr rfl Tryz.underlying87 rfl (fun w => Tryz.sizeOf22 w)) rfl rfl rfl ?_)
  all_goals (refine WQ.stepE (ok_load (fun w => Tryz.isAgg22 w) rfl (by first | exact cell_blk hb3 rfl | assumption | exact cell_blk (by assumption) rfl)) rfl rfl rfl ?_)
  all_goals (refine WQ.stepE (ok_lenL rfl Tryz.underlying22 rfl) rfl rfl rfl ?_)
  all_goals (first | (refine WQ.stepE (OkP.bool_t (by omega) (ok_leq rfl rfl)) rfl rfl rfl ?_))
  all_goals (refine WQ.stepE (ok_assign rfl) rfl rfl rfl ?_)
  all_goals (refine WQ.stepE (ok_assign rfl) rfl rfl rfl ?_)
  all_goals (refine WQ.stepE (ok_assign rfl) rfl rfl rfl ?_)
  all_goals (refine WQ.nil ?_)
  all_goals (refine Gn ?_)
  all_goals (refine Gs [(2, _), (3, _), (4, _)] ?_)
  all_goals (refine Gt ?_)
  all_goals (exact ⟨rfl, k3, X3⟩)
set_option maxHeartbeats 2000000 in
set_option maxRecDepth 100000 in
theorem fw_begin (k : Fw h b ty v l) : CallsH Tryz.prog 53 ⟨[.pointer (some ⟨b, 0, none⟩)]⟩ h fun u h' => u = .tuple ⟨[]⟩ ∧ Fw h' b true v l ∧ Ext (fun q => q = b) h h' := by
  have kr := fw_ready k
  have hb := k.blk
  have ho := k.own
  have hne := k.ne
  obtain ⟨B, d, rfl, _⟩ := id ho.slice
  refine calls [(0, _)] Tryz.func53 rfl Tryz.ntmps53 rfl ⟨rfl, trivial⟩ ?_
  all_goals (refine WC.sr ?_)
  all_goals (refine Go ?_)
  all_goals (refine WL.call (vs := [_]) rfl (fun a w => Tryz.call65 a w) rfl (kr) rfl rfl rfl ?_
             rintro _ hz ⟨rfl, _⟩
             subst hz)
  all_goals (refine Gn ?_)
  all_goals (refine goC 1 2 ?_ ?_ <;> first | exact ⟨⟩ | refine Hb.mk fun hb => ?_ | skip)
  all_goals (first | (fail_if_success refine goB 1 ?_) | (
  refine goB 1 ?_
  all_goals (refine WC.region ?_)
  all_goals (refine Go ?_)
  all_goals (refine WL.step (ok_nilCheck rfl) rfl rfl rfl ?_)
  all_goals (refine Go ?_)
  all_goals (refine WL.stepR0 (okE_store (fun w => Tryz.sizeOf4 w) rfl rfl hb (Nat.le_of_ble_eq_true rfl) rfl rfl) rfl rfl ?_
             rintro _ h3 ⟨hb3, hx3⟩)
  all_goals (refine Gn ?_)
  skip))
  all_goals (first | (fail_if_success refine goB 2 ?_) | (
  refine goB 2 ?_
  all_goals (refine WC.skip ?_)
  skip))
  all_goals (refine Gn ?_)
  all_goals (refine retP_n [] trivial ?_)
  all_goals (exact ⟨rfl, ⟨hb3, ho.ext hx3 hne⟩, hx3⟩)
end
end Go.Proofs.YtdjjpbbhcidaaaaGreatDoor


/-
  FRAMES (layer 4), by the code: the next message, and what is left.
-/
namespace Go.Proofs.YtdjjpbbhcidaaaaGreatDoor
open Go Go.RK

theorem bys1 (l : List UInt8) : ∀ c ∈ bys l, c.oneCell' = true := fun c hc => by obtain ⟨b, _, rfl⟩ := List.mem_map.1 hc; rfl
set_option maxHeartbeats 2000000 in
set_option maxRecDepth 100000 in
theorem delete_byt {h : Heap} {A : Option Addr} {c k : Nat} (l : List UInt8) (ho : Own h (.slice A l.length c) 5 1 l.length (bys l)) (hk : 0 < k ∧ k ≤ l.length) (hm : l.length ≤ 1000000) :
    CallsH Tryz.prog 48 ⟨[.slice A l.length c, In 0, In (k : Int)]⟩ h fun u h' => Own h' u 5 1 (l.drop k).length (bys (l.drop k)) ∧ Ext (fun b => (Value.slice A l.length c).ownBlock = some b) h h' ∧ u.ownBlock = (Value.slice A l.length c).ownBlock := by
  obtain ⟨b, c', cs, hv, hb, hnc, hcm, hcl, hct⟩ := ho.block (by omega)
  simp only [Value.slice.injEq] at hv
  obtain ⟨rfl, _, rfl⟩ := hv
  simp only [Nat.mul_one] at hcl hct
  unfold maxLen at hcm
  have e3 : (l.drop k).length = l.length - k := List.length_drop ..
  have hrd := ho.rd.drop (l := k) (by omega)
  refine calls [(0, _), (1, _), (2, _)] Tryz.func48 rfl Tryz.ntmps48 rfl ⟨rfl, rfl, rfl, trivial⟩ ?_
  all_goals (refine WC.sr ?_)
  all_goals (refine Go ?_)
  all_goals (refine WC.sr ?_)
  all_goals (refine Go ?_)
  all_goals (refine WL.step (ok_slice_lhm Tryz.underlying22 (fun w => Tryz.sizeOf5 w) rfl rfl rfl rfl (by omega)) rfl rfl rfl ?_)
  all_goals (refine Gn ?_)
  all_goals (refine Gs [(0, _), (1, _), (2, _)] ?_)
  all_goals (refine WC.seq ?_)
  all_goals (refine WC.sr ?_)
  all_goals (refine Go ?_)
  all_goals (refine goC 1 2 ?_ ?_ <;> first | exact ⟨⟩ | refine Hb.mk fun hb => ?_ | skip)
  all_goals (first | (fail_if_success refine goB 1 ?_) | (
  refine goB 1 ?_
  all_goals (refine WC.sr ?_)
  all_goals (refine Go ?_)
  all_goals (refine Gs [(6, _)] ?_)
  all_goals (refine Gt ?_)
  all_goals (rw [e6] at hl3
             refine ⟨?_, (hx2.trans hx3).mono (fun q _ e => by simp [e, Value.ownBlock]), rfl⟩
             rw [e3]
             simp only [Int.toNat_zero, Nat.zero_add, Nat.mul_one] at ht3 ⊢
             exact Own.of_block (c := c) hb3 (by omega) (by unfold maxLen; omega) (by rw [hl3, Nat.mul_one]) (by rw [Nat.mul_one, ht3 _ (by omega), List.take_append_of_le_length (by omega), List.take_of_length_le (by omega)]))
  skip))
  all_goals (first | (fail_if_success refine goB 2 ?_) | (
  refine goB 2 ?_
  all_goals (refine WC.skip ?_)
  skip))
  all_goals (refine Gn ?_)
  all_goals (refine WC.sr ?_)
  all_goals (refine Go ?_)
  all_goals (refine Gs [(0, _), (1, _), (2, _), (7, _)] ?_)
  all_goals (refine WC.seq ?_)
  all_goals (refine WC.drawT 6 fol (by kernel_rfl) ?_)
  all_goals (show WS _ _ _ [_, _, _, _, _, _] _ _ _)
  all_goals (refine WS.step (ok_move rfl) rfl rfl rfl ?_)
  all_goals (refine WS.step (ok_move rfl) rfl rfl rfl ?_)
  all_goals (first | (refine WS.step (ok_slice_hN Tryz.underlying22 (fun w => Tryz.sizeOf5 w) rfl rfl (by omega)) rfl rfl rfl ?_) | (refine WS.step (ok_slice_h Tryz.underlying22 (fun w => Tryz.sizeOf5 w) rfl rfl (by omega)) rfl rfl rfl ?_))
  all_goals (refine WS.step (ok_move rfl) rfl rfl rfl ?_)
  all_goals (refine WS.step (ok_move rfl) rfl rfl rfl ?_)
  all_goals (first | (refine WS.step (ok_slice_lN Tryz.underlying22 (fun w => Tryz.sizeOf5 w) rfl rfl (by omega)) rfl rfl rfl ?_) | (refine WS.step (ok_slice_lS Tryz.underlying22 (fun w => Tryz.sizeOf5 w) rfl rfl (by omega)) rfl rfl rfl ?_) | (refine WS.step (ok_slice_l Tryz.underlying22 (fun w => Tryz.sizeOf5 w) rfl rfl (by omega)) rfl rfl rfl ?_))
  all_goals (refine WS.nil ?_)
  all_goals (show WL _ _ _ [_, _] _ _ _)
  all_goals (refine WL.stepR (okE_appendR (sz := 1) rfl Tryz.underlying22 (show Tryz.prog.info? 5 = some Tryz.t5 by kernel_rfl) rfl rfl rfl hb (by omega) hrd (fun v hv => bys1 l v (List.mem_of_mem_drop hv)) (by omega)) rfl rfl rfl ?_
             rintro _ h2 ⟨rfl, hb2, hx2⟩)
  all_goals (simp only [Int.toNat_zero, List.take_zero, List.nil_append, Nat.zero_add, Nat.zero_mul, Nat.mul_one] at hb2
             have e4 : List.drop k (bys l) = bys (l.drop k) := by simp [bys]
             rw [e4] at hb2
             have e5 : (bys (l.drop k)).length = l.length - k := by simp [bys]
             have e6 : (bys (l.drop k) ++ List.drop (l.length - k) cs).length = c := by rw [List.length_append, e5, List.length_drop, hcl]; omega)
  all_goals (refine WL.step (ok_assign rfl) rfl rfl rfl ?_)
  all_goals (refine WL.nil ?_)
  all_goals (refine Gn ?_)
  all_goals (refine Gs [(0, _), (7, _)] ?_)
  all_goals (refine WC.sr ?_)
  all_goals (refine Go ?_)
  all_goals (first | (refine WL.step (ok_slice_lhN Tryz.underlying22 (fun w => Tryz.sizeOf5 w) rfl rfl rfl (by omega)) rfl rfl rfl ?_) | (refine WL.step (ok_slice_lh Tryz.underlying22 (fun w => Tryz.sizeOf5 w) rfl rfl rfl (by omega)) rfl rfl rfl ?_))
  all_goals (refine WL.stepR0 (okE_clear rfl Tryz.underlying22 (fun w => Tryz.zeroValue5 w) rfl (by first | rfl | assumption | exact (if_neg (by omega)).trans (congrArg some (Addr.add_lit _ _ _))) (by omega) hb2 (by show 0 + _ * 1 + _ * 1 ≤ _; simp [e3]; omega) (by simp [Value.cells, Value.oneCell'])) rfl rfl ?_
             rintro _ h3 ⟨cs3, hb3, hl3, ht3, hx3⟩)
  all_goals (refine Gn ?_)
  all_goals (refine Gs [(0, _)] ?_)
  all_goals (refine WC.sr ?_)
  all_goals (refine Go ?_)
  all_goals (refine Gt ?_)
  all_goals (rw [e6] at hl3
             refine ⟨?_, (hx2.trans hx3).mono (fun q _ e => by simp [e, Value.ownBlock]), rfl⟩
             rw [e3]
             simp only [Int.toNat_zero, Nat.zero_add, Nat.mul_one] at ht3 ⊢
             exact Own.of_block (c := c) hb3 (by omega) (by unfold maxLen; omega) (by rw [hl3, Nat.mul_one]) (by rw [Nat.mul_one, ht3 _ (by omega), List.take_append_of_le_length (by omega), List.take_of_length_le (by omega)]))
end Go.Proofs.YtdjjpbbhcidaaaaGreatDoor


