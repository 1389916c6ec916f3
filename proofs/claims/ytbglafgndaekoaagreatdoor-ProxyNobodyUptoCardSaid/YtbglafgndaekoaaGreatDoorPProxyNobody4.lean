/-
  SEVERAL TEXTS IN ONE: Back, K17, BkChk, BkChk2, Ev, EntO, BkO, BkS, BkR, BkC, BkC2, K25, Flt, FltE, Srl, SrlX, K24, K14, Num, Flt4n, BkWn, BkPn, BkC3, BkQw.
-/
import Derived.Test.YtbglafgndaekoaaGreatDoorPProxyNobody3
import Derived.ChangeKeysEq
import Derived.Laws.Entries
import Derived.Lib.AppendStr
/-
  api.Back, and the document's compare of two of them.
-/
namespace Go.Proofs.YtbglafgndaekoaaGreatDoor
open Go Go.RK

structure ColD where
  nm : List UInt8
  t : Int
  a : Int
  o : Int
  s : Int
  m : Int
  f : Int
deriving DecidableEq
def ColD.sca (c : ColD) : List Sca := [.s c.nm, .i .i64 c.t, .i .i64 c.a, .i .i64 c.o, .i .i64 c.s, .i .i64 c.m, .i .i64 c.f]
def ColD.cells (c : ColD) : List Value := [St c.nm, In c.t, In c.a, In c.o, In c.s, In c.m, In c.f]
theorem ColD.len (c : ColD) : c.cells.length = 7 := rfl
theorem ColD.inj (c d : ColD) : c.sca = d.sca ↔ c = d := by cases c; cases d; simp [ColD.sca]
structure FieldD where
  k : Int
  t : List UInt8
deriving DecidableEq
def FieldD.sca (c : FieldD) : List Sca := [.i .u8 c.k, .s c.t]
def FieldD.cells (c : FieldD) : List Value := [.int .u8 c.k, St c.t]
theorem FieldD.len (c : FieldD) : c.cells.length = 2 := rfl
theorem FieldD.inj (c d : FieldD) : c.sca = d.sca ↔ c = d := by cases c; cases d; simp [FieldD.sca]
structure Bk where
  kind : Int
  status : Int
  tag : List UInt8
  name : List UInt8
  value : List UInt8
  n : Int
  m : Int
  vo : Value
  oids : List Int
  vc : Value
  cols : List ColD
  vr : Value
  row : List Cel
  vf : Value
  fields : List FieldD
def Bk.cells (b : Bk) : List Value := [.int .u8 b.kind, .int .u8 b.status, St b.tag, St b.name, St b.value, In b.n, In b.m, b.vo, b.vc, b.vr, b.vf]
structure Bk.ok (h : Heap) (b : Bk) : Prop where
  oids : Rd h b.vo 1 b.oids.length (ints b.oids) ∧ b.oids.length ≤ maxLen
  cols : Rd h b.vc 7 b.cols.length (b.cols.flatMap ColD.cells) ∧ b.cols.length ≤ maxLen
  row : Cels h b.vr b.row
  fields : Rd h b.vf 2 b.fields.length (b.fields.flatMap FieldD.cells) ∧ b.fields.length ≤ maxLen
theorem Bk.ok.ext0 {h h' : Heap} {b : Bk} (k : b.ok h) (a : Ext No h h') : b.ok h' := ⟨⟨k.1.1.ext0 a, k.1.2⟩, ⟨k.2.1.ext0 a, k.2.2⟩, k.3.ext0 a, ⟨k.4.1.ext0 a, k.4.2⟩⟩
def Bk.pl (b : Bk) := (b.kind, b.status, b.tag, b.name, b.value, b.n, b.m, b.oids, b.cols, b.row.map Cel.pl, b.fields)

set_option maxHeartbeats 2000000 in
set_option maxRecDepth 100000 in
theorem ints_ref {h : Heap} {v u : Value} (l m : List Int) (hr : Rd h v 1 l.length (ints l)) (hs : Rd h u 1 m.length (ints m)) (hl : l.length ≤ maxLen) (hm : m.length ≤ maxLen) :
    CallsH Tryz.prog 247 ⟨[v, u]⟩ h fun u h' => u = .bool (decide (l = m)) ∧ h' = h := by
  unfold maxLen at hl hm
  obtain ⟨A, c, rfl, _⟩ := id hr
  obtain ⟨B, d, rfl, _⟩ := id hs
  refine calls [(0, _), (1, _)] Tryz.func247 rfl Tryz.ntmps247 rfl ⟨rfl, rfl, trivial⟩ ?_
  all_goals (refine WC.sr ?_)
  all_goals (refine Go ?_)
  all_goals (refine WC.seq ?_)
  all_goals (refine WC.sr ?_)
  all_goals (refine Go ?_)
  all_goals (refine Gs [(0, _), (1, _), (10, _)] ?_)
  all_goals (refine goC 1 2 ?_ ?_ <;> first | exact ⟨⟩ | refine Hb.mk fun hb => ?_ | skip)
  all_goals (first | (fail_if_success refine goB 1 ?_) | (
  refine goB 1 ?_
  all_goals (refine WC.sr ?_)
  all_goals (refine Go ?_)
  all_goals (refine Gt ?_)
  all_goals (first | exact ⟨by rw [decide_eq_false (fun e => by subst e; omega)], rfl⟩ | exact ⟨by rw [decide_eq_false (fun e => by subst e; rw [hy] at hz; injection hz with hz; omega)], rfl⟩ | exact ⟨by rw [decide_eq_true (by rw [List.take_of_length_le (by omega), List.take_of_length_le (by omega)] at hn; exact hn)], rfl⟩)
  skip))
  all_goals (first | (fail_if_success refine goB 2 ?_) | (
  refine goB 2 ?_
  all_goals (refine WC.skip ?_)
  skip))
  all_goals (refine Gn ?_)
  all_goals (refine WC.seq ?_)
  all_goals (refine WC.sr ?_)
  all_goals (refine Go ?_)
  all_goals (refine WC.block ?_)
  -- loop 0: slots that turn [5], that stay [0, 1]
  all_goals (refine WC.loopG (X := Nat) (fun x => ([(5, In (x : Int))] : Fr)) [(0, _), (1, _)] (fun k h' => h' = h ∧ k ≤ l.length ∧ l.take k = m.take k) (fun k => l.length - k) (0) ⟨rfl, rfl, rfl, trivial⟩ (by exact ⟨rfl, Nat.zero_le _, by simp⟩) ?_)
  all_goals (rintro k _ ⟨rfl, hk, hn⟩)
  all_goals (refine WC.sub [(5, _), (0, _), (1, _)] ⟨rfl, rfl, rfl, trivial⟩ ?_)
  all_goals (refine WC.seq ?_)
  all_goals (refine WC.sr ?_)
  all_goals (refine Go ?_)
  all_goals (refine goC 3 4 ?_ ?_ <;> first | exact ⟨⟩ | refine Hb.mk fun hb => ?_ | skip)
  all_goals (first | (fail_if_success refine goB 3 ?_) | (
  refine goB 3 ?_
  all_goals (refine WC.skip ?_)
  skip))
  all_goals (first | (fail_if_success refine goB 4 ?_) | (
  refine goB 4 ?_
  all_goals (refine WC.exit ?_)
  all_goals (repeat' (with_reducible first | refine thenP_x ?_ | refine blockP_miss rfl ?_ | refine blockP_hit ?_ | refine blockP_n ?_ | refine thenP_n ?_))
  all_goals (refine Br.out (i := 1000) ?_)
  skip))
  all_goals (refine Gn ?_)
  all_goals (first | (refine Br.keep ?_) | (refine Gs [(0, _), (1, _), (5, _)] ?_))
  all_goals (first | (refine Br.keep ?_) | (refine WC.seq ?_))
  all_goals (first | (refine Br.keep ?_) | (refine WC.block ?_))
  all_goals (first | (refine Br.keep ?_) | (refine WC.seq ?_))
  all_goals (first
               | (refine Br.keep ?_)
               | (obtain ⟨b, o, hA, hbL, hat⟩ := Rd.at_ hr (by omega)
                  obtain ⟨b2, o2, hB, hb2, hat2⟩ := Rd.at_ hs (by omega)
                  obtain ⟨y, hy⟩ : ∃ y, l[k]? = some y := ⟨_, List.getElem?_eq_getElem (by omega)⟩
                  obtain ⟨z, hz⟩ : ∃ z, m[k]? = some z := ⟨_, List.getElem?_eq_getElem (by omega)⟩
                  have hc := hat.get (p := o + k * 1) k (get_int hy) (by omega)
                  have hc2 := hat2.get (p := o2 + k * 1) k (get_int hz) (by omega)))
  all_goals (first | (refine Br.keep ?_) | (refine WC.drawE fol (by kernel_rfl) ?_))
  all_goals (first | (refine Br.keep ?_) | (refine WQ.stepE (ok_move rfl) rfl rfl rfl ?_))
  all_goals (first | (refine Br.keep ?_) | (refine WQ.stepE (ok_move rfl) rfl rfl rfl ?_))
  all_goals (first | (refine Br.keep ?_) | (refine WQ.stepE (ok_idxAddrA Tryz.underlying23 (fun w => Tryz.sizeOf3 w) rfl rfl rfl (by omega) (by first | rfl | assumption)) rfl rfl rfl ?_))
  all_goals (first | (refine Br.keep ?_) | (refine WQ.stepE (ok_load (fun w => Tryz.isAgg3 w) rfl (by first | assumption | exact cell_blk (by assumption) rfl)) rfl rfl rfl ?_))
  all_goals (first | (refine Br.keep ?_) | (refine WQ.stepE (ok_move rfl) rfl rfl rfl ?_))
  all_goals (first | (refine Br.keep ?_) | (refine WQ.stepE (ok_move rfl) rfl rfl rfl ?_))
  all_goals (first | (refine Br.keep ?_) | (refine WQ.stepE (ok_idxAddrA Tryz.underlying23 (fun w => Tryz.sizeOf3 w) rfl rfl rfl (by omega) (by first | rfl | assumption)) rfl rfl rfl ?_))
  all_goals (first | (refine Br.keep ?_) | (refine WQ.stepE (ok_load (fun w => Tryz.isAgg3 w) rfl (by first | assumption | exact cell_blk (by assumption) rfl)) rfl rfl rfl ?_))
  all_goals (first | (refine Br.keep ?_) | (first | (refine WQ.stepE (OkP.nbool_t (by omega) (ok_neq rfl rfl)) rfl rfl rfl ?_) | (refine WQ.stepE (OkP.nbool_f (by omega) (ok_neq rfl rfl)) rfl rfl rfl ?_) | (refine WQ.stepE (ok_neq rfl rfl) rfl rfl rfl ?_)))
  all_goals (first | (refine Br.keep ?_) | (refine WQ.nil ?_))
  all_goals (refine Gn ?_)
  all_goals (first | (refine Br.keep ?_) | (refine Gs [(0, _), (1, _), (5, _), (25, _)] ?_))
  all_goals (first | (refine Br.keep ?_) | (refine goC 5 6 ?_ ?_ <;> first | exact ⟨⟩ | refine Hb.mk fun hb => ?_ | skip))
  all_goals (first | (fail_if_success refine goB 5 ?_) | (
  refine goB 5 ?_
  all_goals (refine WC.sr ?_)
  all_goals (refine Go ?_)
  all_goals (refine Gs [(4, _)] ?_)
  all_goals (refine Gt ?_)
  all_goals (first | exact ⟨by rw [decide_eq_false (fun e => by subst e; omega)], rfl⟩ | exact ⟨by rw [decide_eq_false (fun e => by subst e; rw [hy] at hz; injection hz with hz; omega)], rfl⟩ | exact ⟨by rw [decide_eq_true (by rw [List.take_of_length_le (by omega), List.take_of_length_le (by omega)] at hn; exact hn)], rfl⟩)
  skip))
  all_goals (first | (fail_if_success refine goB 6 ?_) | (
  refine goB 6 ?_
  all_goals (refine WC.skip ?_)
  skip))
  all_goals (refine Gn ?_)
  all_goals (first | (refine Br.keep ?_) | (refine WC.region ?_))
  all_goals (refine Go ?_)
  all_goals (first | (refine Br.keep ?_) | (exact ⟨k + 1, ⟨rfl, rfl, rfl, trivial⟩, (by exact ⟨rfl, by omega, by rw [List.take_add_one, List.take_add_one, hn, hy, hz, show y = z by omega]⟩), (by omega)⟩))
  all_goals (try (refine Br.mk (i := 1000) ?_))
  all_goals (refine Gn ?_)
  all_goals (refine Gs [] ?_)
  all_goals (refine WC.sr ?_)
  all_goals (refine Go ?_)
  all_goals (refine Gt ?_)
  all_goals (first | exact ⟨by rw [decide_eq_false (fun e => by subst e; omega)], rfl⟩ | exact ⟨by rw [decide_eq_false (fun e => by subst e; rw [hy] at hz; injection hz with hz; omega)], rfl⟩ | exact ⟨by rw [decide_eq_true (by rw [List.take_of_length_le (by omega), List.take_of_length_le (by omega)] at hn; exact hn)], rfl⟩)

end Go.Proofs.YtbglafgndaekoaaGreatDoor


/-
  THE COMPARE OF ARRAYS OF TEXTS. No program is named here.
-/
namespace Go.RK
open Go

section
variable {P : Program}
variable {f : Fr} {h : Heap} {d : Option Tmp} {ty : TypeId} {pos : String} {af : Array Edge} {g : Option (Nat × Bool)}
end
end Go.RK

/-
  back.Check, of messages that may be.
-/
namespace Go.Proofs.YtbglafgndaekoaaGreatDoor
open Go Go.RK

/-- A bound. -/
structure BndD where
  n : Int
  lo : Int
  hi : Int
def BndD.cells (b : BndD) : List Value := [In b.n, In b.lo, In b.hi]
theorem BndD.len (b : BndD) : b.cells.length = 3 := rfl
def BndD.ok (b : BndD) : Prop := b.lo ≤ b.n ∧ b.n ≤ b.hi
/-- A column that may be. -/
def ColD.okB (c : ColD) : Prop := cleanB c.nm = true ∧ (0 ≤ c.t ∧ c.t ≤ 4294967295) ∧ (0 ≤ c.a ∧ c.a ≤ 65535) ∧ (0 ≤ c.o ∧ c.o ≤ 4294967295) ∧ (-32768 ≤ c.s ∧ c.s ≤ 32767) ∧ (-2147483648 ≤ c.m ∧ c.m ≤ 2147483647) ∧ (0 ≤ c.f ∧ c.f ≤ 65535)
def FieldD.okB (c : FieldD) : Prop := c.k ≠ 0 ∧ cleanB c.t = true
def Cel.okB (c : Cel) : Prop := (c.null = true → c.bytes.length = 0) ∧ c.bytes.length ≤ 1048576
end Go.Proofs.YtbglafgndaekoaaGreatDoor


/-
  back.Check, of messages that may be: the fields of a kind; all of it.
-/
namespace Go.Proofs.YtbglafgndaekoaaGreatDoor
open Go Go.RK

def zB (k : Int) : Bk := ⟨k, 0, [], [], [], 0, 0, .slice none 0 0, [], .slice none 0 0, [], .slice none 0 0, [], .slice none 0 0, []⟩
/-- A message with no fields but those that its body has. -/
def ofB (b : Bk) : Bk :=
  if b.kind = 83 then { zB b.kind with name := b.name, value := b.value }
  else if b.kind = 75 then { zB b.kind with n := b.n, m := b.m }
  else if b.kind = 90 then { zB b.kind with status := b.status }
  else if b.kind = 67 then { zB b.kind with tag := b.tag }
  else if b.kind = 68 then { zB b.kind with vr := b.vr, row := b.row }
  else if b.kind = 84 then { zB b.kind with vc := b.vc, cols := b.cols }
  else if b.kind = 116 then { zB b.kind with vo := b.vo, oids := b.oids }
  else if b.kind = 69 ∨ b.kind = 78 then { zB b.kind with vf := b.vf, fields := b.fields }
  else zB b.kind
theorem cels_no (h : Heap) : Cels h (.slice none 0 0) [] := ⟨Rd.nil _ _, ⟨by simp, _, _, rfl, by decide⟩, by simp⟩
theorem zB_ok (h : Heap) (k : Int) : (zB k).ok h := ⟨⟨Rd.nil _ _, by simp [zB]⟩, ⟨Rd.nil _ _, by simp [zB]⟩, cels_no h, ⟨Rd.nil _ _, by simp [zB]⟩⟩
theorem ofB_ok {h : Heap} {b : Bk} (k : b.ok h) : (ofB b).ok h := by
  obtain ⟨k1, k2, k3, k4⟩ := k
  obtain ⟨z1, z2, z3, z4⟩ := zB_ok h b.kind
  unfold ofB
  repeat' split
  all_goals first | exact ⟨z1, z2, z3, z4⟩ | exact ⟨z1, z2, k3, z4⟩ | exact ⟨z1, k2, z3, z4⟩ | exact ⟨k1, z2, z3, z4⟩ | exact ⟨z1, z2, z3, k4⟩
/-! ### Check -/
def kindsB : List UInt8 := [82, 83, 75, 90, 49, 50, 51, 110, 115, 73, 67, 68, 84, 116, 69, 78]
def Bk.stOk (b : Bk) : Prop := b.kind ≠ 90 ∨ b.status = 73 ∨ b.status = 84 ∨ b.status = 69
/-- A message that may be. -/
structure Bk.may (b : Bk) : Prop where
  kind : ∃ k : UInt8, Value.int .u8 b.kind = By k ∧ kindsB.contains k = true
  tag : cleanB b.tag = true
  name : cleanB b.name = true
  value : cleanB b.value = true
  cols : b.cols.length ≤ 65535 ∧ ∀ c ∈ b.cols, c.okB
  fields : b.fields.length ≤ 65535 ∧ ∀ f ∈ b.fields, f.okB
  row : b.row.length ≤ 65535 ∧ ∀ c ∈ b.row, c.okB
  oids : b.oids.length ≤ 65535 ∧ ∀ n ∈ b.oids, 0 ≤ n ∧ n ≤ 4294967295
  n : 0 ≤ b.n ∧ b.n ≤ 4294967295
  m : 0 ≤ b.m ∧ b.m ≤ 4294967295
  st : b.stOk
  own : (ofB b).pl = b.pl
end Go.Proofs.YtbglafgndaekoaaGreatDoor


/-
  LISTS OF REPLIES (layer 7): whether all of a list may be, at any list.
-/
namespace Go.Proofs.YtbglafgndaekoaaGreatDoor
open Go Go.RK

def BndD.okB (b : BndD) : Bool := decide (b.lo ≤ b.n) && decide (b.n ≤ b.hi)
instance (c : ColD) : Decidable c.okB := by unfold ColD.okB; exact inferInstance
instance (c : FieldD) : Decidable c.okB := by unfold FieldD.okB; exact inferInstance
instance (c : Cel) : Decidable c.okB := by unfold Cel.okB; exact inferInstance
def oidB (n : Int) : Bool := decide (0 ≤ n) && decide (n ≤ 4294967295)
end Go.Proofs.YtbglafgndaekoaaGreatDoor


/-
  api.Entry as it comes in; whether entries are few (without the cache's texts).
-/
namespace Go.Proofs.YtbglafgndaekoaaGreatDoor
open Go Go.RK

abbrev COp := Int × Int × Unit
def copCells : COp → List Value := fun p => [In p.1] ++ ([In p.2.1] ++ [])
abbrev Ops (h : Heap) (v : Value) (l : List COp) : Prop := Rd h v 2 l.length (l.flatMap copCells) ∧ l.length * 16 ≤ reachBytes
theorem Ops.ext0 {h h' : Heap} {v : Value} {l : List COp} (k : Ops h v l) (a : Ext No h h') : Ops h' v l := ⟨k.1.ext0 a, k.2⟩
/-- A row of ops among others. -/
structure Ob where
  v : Value
  l : List COp
def Obs (h : Heap) (v : Value) (L : List Ob) : Prop := Rd h v 1 L.length (L.map Ob.v) ∧ L.length * 24 ≤ reachBytes ∧ ∀ r ∈ L, Ops h r.v r.l
theorem Obs.ext0 {h h' : Heap} {v : Value} {L : List Ob} (k : Obs h v L) (a : Ext No h h') : Obs h' v L := ⟨k.1.ext0 a, k.2.1, fun r hr => (k.2.2 r hr).ext0 a⟩
abbrev TOp := Bool × List UInt8 × Int × Unit
def topCells : TOp → List Value := fun p => [.bool p.1] ++ ([St p.2.1] ++ ([In p.2.2.1] ++ []))
abbrev Tops (h : Heap) (v : Value) (l : List TOp) : Prop := Rd h v 3 l.length (l.flatMap topCells) ∧ l.length ≤ maxLen
/-- An entry. -/
structure En where
  kind : Int
  hide : Bool
  src : List UInt8
  dst : List UInt8
  vg : Value
  good : List TOp
  vb : Value
  bad : List TOp
  vc : Value
  ops : List COp
  vr : Value
  reply : List UInt8
def En.cells (e : En) : List Value := [In e.kind, .bool e.hide, St e.src, St e.dst, e.vg, e.vb, e.vc, e.vr]
theorem En.len (e : En) : e.cells.length = 8 := rfl
structure En.ok (h : Heap) (e : En) : Prop where
  good : Tops h e.vg e.good
  bad : Tops h e.vb e.bad
  ops : Ops h e.vc e.ops
  reply : Rd h e.vr 1 e.reply.length (bys e.reply) ∧ e.reply.length ≤ reachBytes
theorem En.ok.ext0 {h h' : Heap} {e : En} (k : e.ok h) (a : Ext No h h') : e.ok h' := ⟨⟨k.1.1.ext0 a, k.1.2⟩, ⟨k.2.1.ext0 a, k.2.2⟩, k.3.ext0 a, ⟨k.4.1.ext0 a, k.4.2⟩⟩
theorem En.ok.one {h : Heap} {e : En} (k : e.ok h) : ∀ v ∈ e.cells, v.oneCell' = true := by
  obtain ⟨A1, c1, e1, _⟩ := k.1.1
  obtain ⟨A2, c2, e2, _⟩ := k.2.1
  obtain ⟨A3, c3, e3, _⟩ := k.3.1
  obtain ⟨A4, c4, e4, _⟩ := k.4.1
  simp [En.cells, Value.oneCell', e1, e2, e3, e4]
def Ens (h : Heap) (v : Value) (L : List En) : Prop := Rd h v 8 L.length (L.flatMap En.cells) ∧ L.length ≤ maxLen ∧ ∀ e ∈ L, e.ok h
theorem Ens.ext0 {h h' : Heap} {v : Value} {L : List En} (k : Ens h v L) (a : Ext No h h') : Ens h' v L := ⟨k.1.ext0 a, k.2.1, fun r hr => (k.2.2 r hr).ext0 a⟩
/-! ### whether they are few -/
/-- One that is too long. -/
def En.far (e : En) : Bool := decide (10 < e.good.length) || decide (10 < e.bad.length) || decide (10 < e.ops.length) || decide (300 < e.reply.length) || decide (300 < e.src.length) || decide (300 < e.dst.length)
/-- Few and short. -/
def fewE (L : List En) (n : Nat) : Bool := decide (L.length ≤ n) && !L.any En.far
end Go.Proofs.YtbglafgndaekoaaGreatDoor


/-
  api.Back as it comes in; whether it is few.
-/
namespace Go.Proofs.YtbglafgndaekoaaGreatDoor
open Go Go.RK

theorem wf_u8 {n : Int} (h : (Lit.int .u8 n).wf = true) : 0 ≤ n ∧ n ≤ 255 := by simpa [Lit.wf, IntKind.min, IntKind.max, IntKind.signed, IntKind.bits] using h
/-- Numbers of a reply lie where their types have them lie. -/
structure Bk.wf (b : Bk) : Prop where
  kind : 0 ≤ b.kind ∧ b.kind ≤ 255
  status : 0 ≤ b.status ∧ b.status ≤ 255
  codes : ∀ f ∈ b.fields, 0 ≤ f.k ∧ f.k ≤ 255
/-! ### few -/
structure Bk.few (b : Bk) : Prop where
  oids : b.oids.length ≤ 50
  cols : b.cols.length ≤ 50
  row : b.row.length ≤ 50
  fields : b.fields.length ≤ 50
  names : ∀ c ∈ b.cols, c.nm.length ≤ 300
  cells : ∀ c ∈ b.row, c.bytes.length ≤ 300
  texts : ∀ f ∈ b.fields, f.t.length ≤ 1000
  tag : b.tag.length ≤ 300
  name : b.name.length ≤ 300
  value : b.value.length ≤ 300
end Go.Proofs.YtbglafgndaekoaaGreatDoor


/-
  REPLIES (layer 7): back.Same and back.Check, of any reply that is short.
-/
namespace Go.Proofs.YtbglafgndaekoaaGreatDoor
open Go Go.RK

theorem _root_.Go.RK.CallsH.dec {P : Program} {k : FuncId} {args : Array Value} {h : Heap} {p : Prop} [Decidable p] {K : Heap → Prop} (hc : CallsH P k args h fun u h' => u = .bool (decide p) ∧ K h') :
    CallsH P k args h fun u h' => ((u = .bool true ∧ p) ∨ (u = .bool false ∧ ¬p)) ∧ K h' := hc.mono fun v h' q => by
  by_cases e : p
  · exact ⟨.inl ⟨by rw [q.1, decide_eq_true e], e⟩, q.2⟩
  · exact ⟨.inr ⟨by rw [q.1, decide_eq_false e], e⟩, q.2⟩
theorem _root_.Go.RK.CallsH.bl {P : Program} {k : FuncId} {args : Array Value} {h : Heap} {b : Bool} {K : Heap → Prop} (hc : CallsH P k args h fun u h' => u = .bool b ∧ K h') :
    CallsH P k args h fun u h' => ((u = .bool true ∧ b = true) ∨ (u = .bool false ∧ b = false)) ∧ K h' := hc.mono fun v h' q => by
  cases b
  · exact ⟨.inr ⟨q.1, rfl⟩, q.2⟩
  · exact ⟨.inl ⟨q.1, rfl⟩, q.2⟩
end Go.Proofs.YtbglafgndaekoaaGreatDoor


/-
  REPLIES (layer 7): the document's compare and check, of any reply that is short.
-/
namespace Go.Proofs.YtbglafgndaekoaaGreatDoor
open Go Go.RK

/-- A server's kinds. -/
def KnownK (k : Int) : Prop := k = 82 ∨ k = 83 ∨ k = 75 ∨ k = 90 ∨ k = 49 ∨ k = 50 ∨ k = 51 ∨ k = 110 ∨ k = 115 ∨ k = 73 ∨ k = 67 ∨ k = 68 ∨ k = 84 ∨ k = 116 ∨ k = 69 ∨ k = 78
set_option maxHeartbeats 2000000 in
set_option maxRecDepth 100000 in
theorem kind07 {h : Heap} (k : Int) : CallsH Tryz.prog 150 ⟨[.int .u8 k]⟩ h fun u h' => (∃ x, u = .bool x ∧ (x = true ↔ KnownK k)) ∧ h' = h := by
  refine calls [(0, _)] Tryz.func150 rfl Tryz.ntmps150 rfl ⟨rfl, trivial⟩ ?_
  all_goals (refine WC.sr ?_)
  all_goals (refine Go ?_)
  all_goals (refine WC.seq ?_)
  all_goals (refine WC.sr ?_)
  all_goals (refine Go ?_)
  all_goals (refine WC.block ?_)
  all_goals (refine WC.seq ?_)
  all_goals (refine WC.sr ?_)
  all_goals (refine Go ?_)
  all_goals (refine goC 1 2 ?_ ?_ <;> first | exact ⟨⟩ | refine Hb.mk fun hb => ?_ | skip)
  all_goals (first | (fail_if_success refine goB 1 ?_) | (
  refine goB 1 ?_
  all_goals (refine WC.skip ?_)
  skip))
  all_goals (first | (fail_if_success refine goB 2 ?_) | (
  refine goB 2 ?_
  all_goals (refine WC.sr ?_)
  all_goals (refine Go ?_)
  all_goals (refine Gs [(3, _), (4, _)] ?_)
  all_goals (refine goC 3 4 ?_ ?_ <;> first | exact ⟨⟩ | refine Hb.mk fun hb => ?_ | skip)
  all_goals (first | (fail_if_success refine goB 3 ?_) | (
  refine goB 3 ?_
  all_goals (refine WC.skip ?_)
  skip))
  all_goals (first | (fail_if_success refine goB 4 ?_) | (
  refine goB 4 ?_
  all_goals (refine WC.sr ?_)
  all_goals (refine Go ?_)
  all_goals (refine goC 5 6 ?_ ?_ <;> first | exact ⟨⟩ | refine Hb.mk fun hb => ?_ | skip)
  all_goals (first | (fail_if_success refine goB 5 ?_) | (
  refine goB 5 ?_
  all_goals (refine WC.skip ?_)
  skip))
  all_goals (first | (fail_if_success refine goB 6 ?_) | (
  refine goB 6 ?_
  all_goals (refine WC.sr ?_)
  all_goals (refine Go ?_)
  all_goals (refine goC 7 8 ?_ ?_ <;> first | exact ⟨⟩ | refine Hb.mk fun hb => ?_ | skip)
  all_goals (first | (fail_if_success refine goB 7 ?_) | (
  refine goB 7 ?_
  all_goals (refine WC.skip ?_)
  skip))
  all_goals (first | (fail_if_success refine goB 8 ?_) | (
  refine goB 8 ?_
  all_goals (refine WC.sr ?_)
  all_goals (refine Go ?_)
  all_goals (refine goC 9 10 ?_ ?_ <;> first | exact ⟨⟩ | refine Hb.mk fun hb => ?_ | skip)
  all_goals (first | (fail_if_success refine goB 9 ?_) | (
  refine goB 9 ?_
  all_goals (refine WC.skip ?_)
  skip))
  all_goals (first | (fail_if_success refine goB 10 ?_) | (
  refine goB 10 ?_
  all_goals (refine WC.sr ?_)
  all_goals (refine Go ?_)
  all_goals (refine Gs [(3, _), (4, _)] ?_)
  all_goals (refine goC 11 12 ?_ ?_ <;> first | exact ⟨⟩ | refine Hb.mk fun hb => ?_ | skip)
  all_goals (first | (fail_if_success refine goB 11 ?_) | (
  refine goB 11 ?_
  all_goals (refine WC.skip ?_)
  skip))
  all_goals (first | (fail_if_success refine goB 12 ?_) | (
  refine goB 12 ?_
  all_goals (refine WC.sr ?_)
  all_goals (refine Go ?_)
  all_goals (refine goC 13 14 ?_ ?_ <;> first | exact ⟨⟩ | refine Hb.mk fun hb => ?_ | skip)
  all_goals (first | (fail_if_success refine goB 13 ?_) | (
  refine goB 13 ?_
  all_goals (refine WC.skip ?_)
  skip))
  all_goals (first | (fail_if_success refine goB 14 ?_) | (
  refine goB 14 ?_
  all_goals (refine WC.sr ?_)
  all_goals (refine Go ?_)
  all_goals (refine goC 15 16 ?_ ?_ <;> first | exact ⟨⟩ | refine Hb.mk fun hb => ?_ | skip)
  all_goals (first | (fail_if_success refine goB 15 ?_) | (
  refine goB 15 ?_
  all_goals (refine WC.skip ?_)
  skip))
  all_goals (first | (fail_if_success refine goB 16 ?_) | (
  refine goB 16 ?_
  all_goals (refine WC.sr ?_)
  all_goals (refine Go ?_)
  all_goals (refine goC 17 18 ?_ ?_ <;> first | exact ⟨⟩ | refine Hb.mk fun hb => ?_ | skip)
  all_goals (first | (fail_if_success refine goB 17 ?_) | (
  refine goB 17 ?_
  all_goals (refine WC.skip ?_)
  skip))
  all_goals (first | (fail_if_success refine goB 18 ?_) | (
  refine goB 18 ?_
  all_goals (refine WC.sr ?_)
  all_goals (refine Go ?_)
  all_goals (refine Gs [(3, _), (4, _)] ?_)
  all_goals (refine goC 19 20 ?_ ?_ <;> first | exact ⟨⟩ | refine Hb.mk fun hb => ?_ | skip)
  all_goals (first | (fail_if_success refine goB 19 ?_) | (
  refine goB 19 ?_
  all_goals (refine WC.skip ?_)
  skip))
  all_goals (first | (fail_if_success refine goB 20 ?_) | (
  refine goB 20 ?_
  all_goals (refine WC.sr ?_)
  all_goals (refine Go ?_)
  all_goals (refine goC 21 22 ?_ ?_ <;> first | exact ⟨⟩ | refine Hb.mk fun hb => ?_ | skip)
  all_goals (first | (fail_if_success refine goB 21 ?_) | (
  refine goB 21 ?_
  all_goals (refine WC.skip ?_)
  skip))
  all_goals (first | (fail_if_success refine goB 22 ?_) | (
  refine goB 22 ?_
  all_goals (refine WC.sr ?_)
  all_goals (refine Go ?_)
  all_goals (refine goC 23 24 ?_ ?_ <;> first | exact ⟨⟩ | refine Hb.mk fun hb => ?_ | skip)
  all_goals (first | (fail_if_success refine goB 23 ?_) | (
  refine goB 23 ?_
  all_goals (refine WC.skip ?_)
  skip))
  all_goals (first | (fail_if_success refine goB 24 ?_) | (
  refine goB 24 ?_
  all_goals (refine WC.sr ?_)
  all_goals (refine Go ?_)
  all_goals (refine goC 25 26 ?_ ?_ <;> first | exact ⟨⟩ | refine Hb.mk fun hb => ?_ | skip)
  all_goals (first | (fail_if_success refine goB 25 ?_) | (
  refine goB 25 ?_
  all_goals (refine WC.skip ?_)
  skip))
  all_goals (first | (fail_if_success refine goB 26 ?_) | (
  refine goB 26 ?_
  all_goals (refine WC.sr ?_)
  all_goals (refine Go ?_)
  all_goals (refine Gs [(3, _), (4, _)] ?_)
  all_goals (refine goC 27 28 ?_ ?_ <;> first | exact ⟨⟩ | refine Hb.mk fun hb => ?_ | skip)
  all_goals (first | (fail_if_success refine goB 27 ?_) | (
  refine goB 27 ?_
  all_goals (refine WC.skip ?_)
  skip))
  all_goals (first | (fail_if_success refine goB 28 ?_) | (
  refine goB 28 ?_
  all_goals (refine WC.sr ?_)
  all_goals (refine Go ?_)
  all_goals (refine goC 29 30 ?_ ?_ <;> first | exact ⟨⟩ | refine Hb.mk fun hb => ?_ | skip)
  all_goals (first | (fail_if_success refine goB 29 ?_) | (
  refine goB 29 ?_
  all_goals (refine WC.skip ?_)
  skip))
  all_goals (first | (fail_if_success refine goB 30 ?_) | (
  refine goB 30 ?_
  all_goals (refine WC.region ?_)
  all_goals (refine Go ?_)
  skip))
  skip))
  skip))
  skip))
  skip))
  skip))
  skip))
  skip))
  skip))
  skip))
  skip))
  skip))
  skip))
  skip))
  skip))
  all_goals (refine Gn ?_)
  all_goals (refine goC 31 32 ?_ ?_ <;> first | exact ⟨⟩ | refine Hb.mk fun hb => ?_ | skip)
  all_goals (first | (fail_if_success refine goB 31 ?_) | (
  refine goB 31 ?_
  all_goals (refine WC.sr ?_)
  all_goals (refine Go ?_)
  all_goals (refine Gt ?_)
  all_goals (first
              | exact ⟨⟨true, rfl, ⟨fun _ => by unfold KnownK; omega, fun _ => rfl⟩⟩, rfl⟩
              | exact ⟨⟨false, rfl, ⟨fun z => (by cases z), fun z => by unfold KnownK at z; exfalso; omega⟩⟩, rfl⟩)
  skip))
  all_goals (first | (fail_if_success refine goB 32 ?_) | (
  refine goB 32 ?_
  all_goals (refine WC.skip ?_)
  skip))
  all_goals (refine Gn ?_)
  all_goals (refine WC.sr ?_)
  all_goals (refine Go ?_)
  all_goals (refine Gt ?_)
  all_goals (first
              | exact ⟨⟨true, rfl, ⟨fun _ => by unfold KnownK; omega, fun _ => rfl⟩⟩, rfl⟩
              | exact ⟨⟨false, rfl, ⟨fun z => (by cases z), fun z => by unfold KnownK at z; exfalso; omega⟩⟩, rfl⟩)
theorem known_iff (k : UInt8) : kindsB.contains k = true ↔ KnownK (k.toNat : Int) := by
  simp only [kindsB, List.contains_cons, List.contains_nil, Bool.or_eq_true, beq_iff_eq, ← UInt8.toNat_inj, KnownK, Bool.or_false]
  simp
  omega
set_option maxHeartbeats 2000000 in
set_option maxRecDepth 100000 in
theorem in07 {h : Heap} (n lo hi : Int) : CallsH Tryz.prog 152 ⟨[In n, In lo, In hi]⟩ h fun u h' => u = .bool (decide (lo ≤ n ∧ n ≤ hi)) ∧ h' = h := by
  refine calls [(0, _), (1, _), (2, _)] Tryz.func152 rfl Tryz.ntmps152 rfl ⟨rfl, rfl, rfl, trivial⟩ ?_
  all_goals (refine WC.sr ?_)
  all_goals (refine Go ?_)
  all_goals (refine WC.sr ?_)
  all_goals (refine Go ?_)
  all_goals (refine goP 10 ?_ ?_ <;> first | exact ⟨⟩ | refine Hb.mk fun hb => ?_ | skip)
  all_goals (refine Gg ?_)
  all_goals (refine Go ?_)
  all_goals (refine Gs [(6, _)] ?_)
  all_goals (refine Gt ?_)
  all_goals (refine ⟨congrArg Value.bool ?_, rfl⟩
             by_cases q1 : lo ≤ n
             all_goals by_cases q2 : n ≤ hi
             all_goals first | (simp [q1, q2]; done) | (simp [q1, q2]; omega) | (exfalso; omega))
set_option maxHeartbeats 2000000 in
set_option maxRecDepth 100000 in
theorem clean07 {h : Heap} (s : List UInt8) (hm : s.length ≤ 1048576) : CallsH Tryz.prog 151 ⟨[St s]⟩ h fun u h' => u = .bool (cleanB s) ∧ h' = h := by
  have hci : cleanB s = true ↔ ∀ c ∈ s, c ≠ 0 := by
    unfold cleanB
    rw [Bool.not_eq_true', ← Bool.not_eq_true, List.contains_iff_mem]
    exact ⟨fun z c hc e => z (e ▸ hc), fun z hc => z 0 hc rfl⟩
  refine calls [(0, _)] Tryz.func151 rfl Tryz.ntmps151 rfl ⟨rfl, trivial⟩ ?_
  all_goals (refine WC.sr ?_)
  all_goals (refine Go ?_)
  all_goals (refine WC.seq ?_)
  all_goals (refine WC.sr ?_)
  all_goals (refine Go ?_)
  all_goals (refine WC.block ?_)
  -- loop 0: slots that turn [3], that stay [0]
  all_goals (refine WC.loopG (X := Nat) (fun x => ([(3, In (x : Int))] : Fr)) [(0, _)] (fun k h' => h = h' ∧ k ≤ s.length ∧ ∀ c ∈ s.take k, c ≠ 0) (fun k => s.length - k) (0) ⟨rfl, rfl, trivial⟩ (by exact ⟨rfl, Nat.zero_le _, fun c hc => by cases hc⟩) ?_)
  all_goals (rintro k h2 ⟨e, hk, hn⟩
             subst e)
  all_goals (refine WC.sub [(3, _), (0, _)] ⟨rfl, rfl, trivial⟩ ?_)
  all_goals (refine WC.seq ?_)
  all_goals (refine WC.sr ?_)
  all_goals (refine Go ?_)
  all_goals (refine goC 1 2 ?_ ?_ <;> first | exact ⟨⟩ | refine Hb.mk fun hb => ?_ | skip)
  all_goals (first | (fail_if_success refine goB 1 ?_) | (
  refine goB 1 ?_
  all_goals (refine WC.skip ?_)
  skip))
  all_goals (first | (fail_if_success refine goB 2 ?_) | (
  refine goB 2 ?_
  all_goals (refine WC.exit ?_)
  all_goals (repeat' (with_reducible first | refine thenP_x ?_ | refine blockP_miss rfl ?_ | refine blockP_hit ?_ | refine blockP_n ?_ | refine thenP_n ?_))
  all_goals (refine Br.out (i := 1000) ?_)
  skip))
  all_goals (refine Gn ?_)
  all_goals (first | (refine Br.keep ?_) | (refine Gs [(0, _), (3, _)] ?_))
  all_goals (first | (refine Br.keep ?_) | (refine WC.seq ?_))
  all_goals (first | (refine Br.keep ?_) | (refine WC.block ?_))
  all_goals (first | (refine Br.keep ?_) | (refine WC.seq ?_))
  all_goals (first | (refine Br.keep ?_) | (obtain ⟨y, hy⟩ : ∃ y, s[k]? = some y := ⟨_, List.getElem?_eq_getElem (by omega)⟩))
  all_goals (first | (refine Br.keep ?_) | (refine WC.region ?_))
  all_goals (refine Go ?_)
  all_goals (first | (refine Br.keep ?_) | (refine WL.step (ok_idxS Tryz.underlying9 rfl rfl (by omega) (by assumption)) rfl rfl rfl ?_))
  all_goals (refine Go ?_)
  all_goals (first | (refine Br.keep ?_) | (refine goC 3 4 ?_ ?_ <;> first | exact ⟨⟩ | refine Hb.mk fun hb => ?_ | skip))
  all_goals (first | (fail_if_success refine goB 3 ?_) | (
  refine goB 3 ?_
  all_goals (refine WC.sr ?_)
  all_goals (refine Go ?_)
  all_goals (refine Gs [(2, _)] ?_)
  all_goals (refine Gt ?_)
  all_goals (first
              | (refine ⟨congrArg Value.bool ?_, rfl⟩; symm; rw [hci]; rw [List.take_of_length_le (by omega)] at hn; exact hn)
              | (refine ⟨congrArg Value.bool ?_, rfl⟩; cases hq : cleanB s; rfl; exact absurd (UInt8.toNat_inj.1 (by simpa using hb)) (hci.1 hq _ (List.mem_of_getElem? hy))))
  skip))
  all_goals (first | (fail_if_success refine goB 4 ?_) | (
  refine goB 4 ?_
  all_goals (refine WC.skip ?_)
  skip))
  all_goals (refine Gn ?_)
  all_goals (first | (refine Br.keep ?_) | (refine Gs [(0, _), (3, _)] ?_))
  all_goals (first | (refine Br.keep ?_) | (refine WC.region ?_))
  all_goals (refine Go ?_)
  all_goals (first | (refine Br.keep ?_) | (exact ⟨k + 1, ⟨rfl, rfl, trivial⟩, (by exact ⟨rfl, by omega, fun c hc => by rw [List.take_add_one, hy] at hc; simp only [Option.toList_some, List.mem_append, List.mem_singleton] at hc; rcases hc with hc | rfl; exact hn c hc; exact (fun e => by subst e; simp at *)⟩), (by omega)⟩))
  all_goals (try (refine Br.mk (i := 1000) ?_))
  all_goals (refine Gn ?_)
  all_goals (refine Gs [] ?_)
  all_goals (refine WC.sr ?_)
  all_goals (refine Go ?_)
  all_goals (refine Gt ?_)
  all_goals (first
              | (refine ⟨congrArg Value.bool ?_, rfl⟩; symm; rw [hci]; rw [List.take_of_length_le (by omega)] at hn; exact hn)
              | (refine ⟨congrArg Value.bool ?_, rfl⟩; cases hq : cleanB s; rfl; exact absurd (UInt8.toNat_inj.1 (by simpa using hb)) (hci.1 hq _ (List.mem_of_getElem? hy))))
theorem col_cases (c : ColD) : (cleanB c.nm = true ∧ (0 ≤ c.t ∧ c.t ≤ 4294967295) ∧ (0 ≤ c.a ∧ c.a ≤ 65535) ∧ (0 ≤ c.o ∧ c.o ≤ 4294967295) ∧ (-32768 ≤ c.s ∧ c.s ≤ 32767) ∧ (-2147483648 ≤ c.m ∧ c.m ≤ 2147483647) ∧ (0 ≤ c.f ∧ c.f ≤ 65535)) ∨ (cleanB c.nm = false) ∨ (cleanB c.nm = true ∧ ¬(0 ≤ c.t ∧ c.t ≤ 4294967295)) ∨ (cleanB c.nm = true ∧ (0 ≤ c.t ∧ c.t ≤ 4294967295) ∧ ¬(0 ≤ c.a ∧ c.a ≤ 65535)) ∨ (cleanB c.nm = true ∧ (0 ≤ c.t ∧ c.t ≤ 4294967295) ∧ (0 ≤ c.a ∧ c.a ≤ 65535) ∧ ¬(0 ≤ c.o ∧ c.o ≤ 4294967295)) ∨ (cleanB c.nm = true ∧ (0 ≤ c.t ∧ c.t ≤ 4294967295) ∧ (0 ≤ c.a ∧ c.a ≤ 65535) ∧ (0 ≤ c.o ∧ c.o ≤ 4294967295) ∧ ¬(-32768 ≤ c.s ∧ c.s ≤ 32767)) ∨ (cleanB c.nm = true ∧ (0 ≤ c.t ∧ c.t ≤ 4294967295) ∧ (0 ≤ c.a ∧ c.a ≤ 65535) ∧ (0 ≤ c.o ∧ c.o ≤ 4294967295) ∧ (-32768 ≤ c.s ∧ c.s ≤ 32767) ∧ ¬(-2147483648 ≤ c.m ∧ c.m ≤ 2147483647)) ∨ (cleanB c.nm = true ∧ (0 ≤ c.t ∧ c.t ≤ 4294967295) ∧ (0 ≤ c.a ∧ c.a ≤ 65535) ∧ (0 ≤ c.o ∧ c.o ≤ 4294967295) ∧ (-32768 ≤ c.s ∧ c.s ≤ 32767) ∧ (-2147483648 ≤ c.m ∧ c.m ≤ 2147483647) ∧ ¬(0 ≤ c.f ∧ c.f ≤ 65535)) := by
  cases c1 : cleanB c.nm
  · exact .inr (.inl rfl)
  · by_cases c2 : (0 ≤ c.t ∧ c.t ≤ 4294967295)
    · by_cases c3 : (0 ≤ c.a ∧ c.a ≤ 65535)
      · by_cases c4 : (0 ≤ c.o ∧ c.o ≤ 4294967295)
        · by_cases c5 : (-32768 ≤ c.s ∧ c.s ≤ 32767)
          · by_cases c6 : (-2147483648 ≤ c.m ∧ c.m ≤ 2147483647)
            · by_cases c7 : (0 ≤ c.f ∧ c.f ≤ 65535)
              · exact .inl ⟨rfl, c2, c3, c4, c5, c6, c7⟩
              · exact .inr (.inr (.inr (.inr (.inr (.inr (.inr (⟨rfl, c2, c3, c4, c5, c6, c7⟩)))))))
            · exact .inr (.inr (.inr (.inr (.inr (.inr (.inl ⟨rfl, c2, c3, c4, c5, c6⟩))))))
          · exact .inr (.inr (.inr (.inr (.inr (.inl ⟨rfl, c2, c3, c4, c5⟩)))))
        · exact .inr (.inr (.inr (.inr (.inl ⟨rfl, c2, c3, c4⟩))))
      · exact .inr (.inr (.inr (.inl ⟨rfl, c2, c3⟩)))
    · exact .inr (.inr (.inl ⟨rfl, c2⟩))
theorem fld_cases (c : FieldD) : (c.k ≠ 0 ∧ cleanB c.t = true) ∨ c.k = 0 ∨ (c.k ≠ 0 ∧ cleanB c.t = false) := by
  by_cases h1 : c.k = 0
  · exact .inr (.inl h1)
  · cases h2 : cleanB c.t
    · exact .inr (.inr ⟨h1, rfl⟩)
    · exact .inl ⟨h1, rfl⟩
theorem all_take {α : Type} {p : α → Prop} {l : List α} {k : Nat} {y : α} (hy : l[k]? = some y) (hn : ∀ c ∈ l.take k, p c) (hp : p y) : ∀ c ∈ l.take (k + 1), p c := fun c hc => by
  rw [List.take_add_one, hy] at hc
  simp only [Option.toList_some, List.mem_append, List.mem_singleton] at hc
  rcases hc with hc | rfl
  · exact hn c hc
  · exact hp
set_option maxHeartbeats 2000000 in
set_option maxRecDepth 100000 in
theorem cols07 {h : Heap} {v : Value} (l : List ColD) (hr : Rd h v 7 l.length (l.flatMap ColD.cells)) (hm : l.length ≤ 65535) (ht : ∀ c ∈ l, c.nm.length ≤ 1048576) :
    CallsH Tryz.prog 154 ⟨[v]⟩ h fun u h' => u = .bool (decide (∀ c ∈ l, c.okB)) ∧ Ext No h h' := by
  obtain ⟨A, c, rfl, _⟩ := id hr
  refine calls [(0, _)] Tryz.func154 rfl Tryz.ntmps154 rfl ⟨rfl, trivial⟩ ?_
  all_goals (refine WC.sr ?_)
  all_goals (refine Go ?_)
  all_goals (refine WC.seq ?_)
  all_goals (refine WC.sr ?_)
  all_goals (refine Go ?_)
  all_goals (refine goC 1 2 ?_ ?_ <;> first | exact ⟨⟩ | refine Hb.mk fun hb => ?_ | skip)
  all_goals (first | (fail_if_success refine goB 1 ?_) | (
  refine goB 1 ?_
  all_goals (refine WC.sr ?_)
  all_goals (refine Go ?_)
  all_goals (refine Gs [(2, _)] ?_)
  all_goals (refine Gt ?_)
  all_goals (first
              | exact ⟨congrArg Value.bool (decide_eq_true (by rw [List.take_of_length_le (by omega)] at hn; exact hn)).symm, hx1⟩
              | (refine ⟨congrArg Value.bool (decide_eq_false (fun z => ?_)).symm, hx1.trans hX3⟩
                 obtain ⟨d1, d2, d3, d4, d5, d6, d7⟩ := z _ (List.mem_of_getElem? hy)
                 first | exact c7 d7 | exact c6 d6 | exact c5 d5 | exact c4 d4 | exact c3 d3 | exact c2 d2 | (rw [c1] at d1; cases d1)))
  skip))
  all_goals (first | (fail_if_success refine goB 2 ?_) | (
  refine goB 2 ?_
  all_goals (refine WC.skip ?_)
  skip))
  all_goals (refine Gn ?_)
  all_goals (refine Gs [(0, _)] ?_)
  all_goals (refine WC.seq ?_)
  all_goals (refine WC.sr ?_)
  all_goals (refine Go ?_)
  all_goals (refine WC.block ?_)
  -- loop 0: slots that turn [3], that stay [0]
  all_goals (refine WC.loopG (X := Nat) (fun x => ([(3, In (x : Int))] : Fr)) [(0, _)] (fun k h' => Ext No h h' ∧ k ≤ l.length ∧ ∀ c ∈ l.take k, c.okB) (fun k => l.length - k) (0) ⟨rfl, rfl, trivial⟩ (by exact ⟨.refl _ _, Nat.zero_le _, by simp⟩) ?_)
  all_goals (rintro k h1 ⟨hx1, hk, hn⟩)
  all_goals (refine WC.sub [(3, _), (0, _)] ⟨rfl, rfl, trivial⟩ ?_)
  all_goals (refine WC.seq ?_)
  all_goals (refine WC.sr ?_)
  all_goals (refine Go ?_)
  all_goals (refine goC 3 4 ?_ ?_ <;> first | exact ⟨⟩ | refine Hb.mk fun hb => ?_ | skip)
  all_goals (first | (fail_if_success refine goB 3 ?_) | (
  refine goB 3 ?_
  all_goals (refine WC.skip ?_)
  skip))
  all_goals (first | (fail_if_success refine goB 4 ?_) | (
  refine goB 4 ?_
  all_goals (refine WC.exit ?_)
  all_goals (repeat' (with_reducible first | refine thenP_x ?_ | refine blockP_miss rfl ?_ | refine blockP_hit ?_ | refine blockP_n ?_ | refine thenP_n ?_))
  all_goals (refine Br.out (i := 1000) ?_)
  skip))
  all_goals (refine Gn ?_)
  all_goals (first | (refine Br.keep ?_) | (refine Gs [(0, _), (3, _)] ?_))
  all_goals (first | (refine Br.keep ?_) | (refine WC.seq ?_))
  all_goals (first | (refine Br.keep ?_) | (refine WC.block ?_))
  all_goals (first | (refine Br.keep ?_) | (refine WC.sr ?_))
  all_goals (first
               | (refine Br.keep ?_)
               | (obtain ⟨bL, oL, hA, hbL, hat⟩ := Rd.at_ (hr.ext0 hx1) (by omega)
                  obtain ⟨y, hy⟩ : ∃ y, l[k]? = some y := ⟨_, List.getElem?_eq_getElem (by omega)⟩
                  have hyl := ht y (List.mem_of_getElem? hy)
                  have at1 : At h1 bL (oL + k * 7) y.cells := At.elem ColD.len hat hy
                  have hcc := col_cases y
                  obtain ⟨ynm, yt, ya, yo, ys, ym, yf⟩ := y
                  dsimp only [ColD.cells] at at1 hyl hcc))
  all_goals (first | (refine Br.keep ?_) | (refine WL.step (ok_move rfl) rfl rfl rfl ?_))
  all_goals (refine Go ?_)
  all_goals (first | (refine Br.keep ?_) | (refine WL.step (ok_idxAddrA Tryz.underlying24 (fun w => Tryz.sizeOf264 w) rfl rfl rfl (by omega) (by first | rfl | assumption)) rfl rfl rfl ?_))
  all_goals (first | (refine Br.keep ?_) | (refine WL.step (ok_loadN (fun w => Tryz.isAgg264 w) (fun w => Tryz.sizeOf264 w) rfl rfl (by exact at1)) rfl rfl rfl ?_))
  all_goals (first
               | (refine Br.keep ?_)
               | (refine WL.stepR (okE_alloc (fun w => Tryz.zeroValue264 w)) rfl rfl rfl ?_
                  rintro _ h2 ⟨b2, rfl, hg2, hb2, hx2⟩))
  all_goals (first
               | (refine Br.keep ?_)
               | (refine WL.stepR0 (okE_storeW (fun w => Tryz.sizeOf264 w) rfl rfl rfl hb2 rfl (by simp [Value.oneCell'])) rfl rfl ?_
                  rintro _ h3 ⟨hb3, hx3⟩))
  all_goals (first
               | (refine Br.keep ?_)
               | (have hX3 : Ext No h1 h3 := hx2.trans' hx3 (fun q hq e => by omega)
                  rcases hcc with ⟨c1, c2, c3, c4, c5, c6, c7⟩ | c1 | ⟨c1, c2⟩ | ⟨c1, c2, c3⟩ | ⟨c1, c2, c3, c4⟩ | ⟨c1, c2, c3, c4, c5⟩ | ⟨c1, c2, c3, c4, c5, c6⟩ | ⟨c1, c2, c3, c4, c5, c6, c7⟩))
  all_goals (refine Gn ?_)
  all_goals (first | (refine Br.keep ?_) | (refine Gs [(0, _), (3, _), (4, _)] ?_))
  all_goals (first | (refine Br.keep ?_) | (refine WC.seq ?_))
  all_goals (first | (refine Br.keep ?_) | (refine WC.sr ?_))
  all_goals (refine Go ?_)
  all_goals (first | (refine Br.keep ?_) | (refine Ld ?_))
  all_goals (first
               | (refine Br.keep ?_)
               | (refine WL.call (vs := [_]) rfl (fun a w => Tryz.call151 a w) rfl ((clean07 ynm hyl).as (congrArg Value.bool c1)) rfl rfl rfl ?_
                  rintro _ hz ⟨rfl, _⟩
                  subst hz))
  all_goals (refine Go ?_)
  all_goals (first | (refine Br.keep ?_) | (refine goP 22 ?_ ?_ <;> first | exact ⟨⟩ | refine Hb.mk fun hb => ?_ | skip))
  all_goals (refine Gg ?_)
  all_goals (first | (refine Br.keep ?_) | (first | (refine WL.pass rfl rfl rfl ?_) | (refine Ld ?_)))
  all_goals (first
               | (refine Br.keep ?_)
               | (first
                    | (refine WL.pass rfl rfl rfl ?_)
                    | (refine WL.call (vs := [_, _, _]) rfl (fun a w => Tryz.call152 a w) rfl ((in07 yt 0 4294967295).as (by first | exact congrArg Value.bool (decide_eq_true c2) | exact congrArg Value.bool (decide_eq_false c2))) rfl rfl rfl ?_
                       rintro _ hz ⟨rfl, _⟩
                       subst hz)))
  all_goals (refine Gg ?_)
  all_goals (refine Go ?_)
  all_goals (first | (refine Br.keep ?_) | (refine goP 28 ?_ ?_ <;> first | exact ⟨⟩ | refine Hb.mk fun hb => ?_ | skip))
  all_goals (refine Gg ?_)
  all_goals (first | (refine Br.keep ?_) | (first | (refine WL.pass rfl rfl rfl ?_) | (refine Ld ?_)))
  all_goals (first
               | (refine Br.keep ?_)
               | (first
                    | (refine WL.pass rfl rfl rfl ?_)
                    | (refine WL.call (vs := [_, _, _]) rfl (fun a w => Tryz.call152 a w) rfl ((in07 ya 0 65535).as (by first | exact congrArg Value.bool (decide_eq_true c3) | exact congrArg Value.bool (decide_eq_false c3))) rfl rfl rfl ?_
                       rintro _ hz ⟨rfl, _⟩
                       subst hz)))
  all_goals (refine Gg ?_)
  all_goals (refine Go ?_)
  all_goals (first | (refine Br.keep ?_) | (refine goP 34 ?_ ?_ <;> first | exact ⟨⟩ | refine Hb.mk fun hb => ?_ | skip))
  all_goals (refine Gg ?_)
  all_goals (first | (refine Br.keep ?_) | (first | (refine WL.pass rfl rfl rfl ?_) | (refine Ld ?_)))
  all_goals (first
               | (refine Br.keep ?_)
               | (first
                    | (refine WL.pass rfl rfl rfl ?_)
                    | (refine WL.call (vs := [_, _, _]) rfl (fun a w => Tryz.call152 a w) rfl ((in07 yo 0 4294967295).as (by first | exact congrArg Value.bool (decide_eq_true c4) | exact congrArg Value.bool (decide_eq_false c4))) rfl rfl rfl ?_
                       rintro _ hz ⟨rfl, _⟩
                       subst hz)))
  all_goals (refine Gg ?_)
  all_goals (refine Go ?_)
  all_goals (first | (refine Br.keep ?_) | (refine Gs [(0, _), (3, _), (4, _), (39, _)] ?_))
  all_goals (first | (refine Br.keep ?_) | (refine goC 5 6 ?_ ?_ <;> first | exact ⟨⟩ | refine Hb.mk fun hb => ?_ | skip))
  all_goals (first | (fail_if_success refine goB 5 ?_) | (
  refine goB 5 ?_
  all_goals (refine WC.sr ?_)
  all_goals (refine Go ?_)
  all_goals (refine Gs [(2, _)] ?_)
  all_goals (refine Gt ?_)
  all_goals (first
              | exact ⟨congrArg Value.bool (decide_eq_true (by rw [List.take_of_length_le (by omega)] at hn; exact hn)).symm, hx1⟩
              | (refine ⟨congrArg Value.bool (decide_eq_false (fun z => ?_)).symm, hx1.trans hX3⟩
                 obtain ⟨d1, d2, d3, d4, d5, d6, d7⟩ := z _ (List.mem_of_getElem? hy)
                 first | exact c7 d7 | exact c6 d6 | exact c5 d5 | exact c4 d4 | exact c3 d3 | exact c2 d2 | (rw [c1] at d1; cases d1)))
  skip))
  all_goals (first | (fail_if_success refine goB 6 ?_) | (
  refine goB 6 ?_
  all_goals (refine WC.skip ?_)
  skip))
  all_goals (refine Gn ?_)
  all_goals (first | (refine Br.keep ?_) | (refine WC.sr ?_))
  all_goals (refine Go ?_)
  all_goals (first | (refine Br.keep ?_) | (refine Ld ?_))
  all_goals (first
               | (refine Br.keep ?_)
               | (refine WL.call (vs := [_, _, _]) rfl (fun a w => Tryz.call152 a w) rfl ((in07 ys (-32768) 32767).as (by first | exact congrArg Value.bool (decide_eq_true c5) | exact congrArg Value.bool (decide_eq_false c5))) rfl rfl rfl ?_
                  rintro _ hz ⟨rfl, _⟩
                  subst hz))
  all_goals (refine Go ?_)
  all_goals (first | (refine Br.keep ?_) | (refine goP 44 ?_ ?_ <;> first | exact ⟨⟩ | refine Hb.mk fun hb => ?_ | skip))
  all_goals (refine Gg ?_)
  all_goals (first | (refine Br.keep ?_) | (first | (refine WL.pass rfl rfl rfl ?_) | (refine Ld ?_)))
  all_goals (first
               | (refine Br.keep ?_)
               | (first
                    | (refine WL.pass rfl rfl rfl ?_)
                    | (refine WL.call (vs := [_, _, _]) rfl (fun a w => Tryz.call152 a w) rfl ((in07 ym (-2147483648) 2147483647).as (by first | exact congrArg Value.bool (decide_eq_true c6) | exact congrArg Value.bool (decide_eq_false c6))) rfl rfl rfl ?_
                       rintro _ hz ⟨rfl, _⟩
                       subst hz)))
  all_goals (refine Gg ?_)
  all_goals (refine Go ?_)
  all_goals (first | (refine Br.keep ?_) | (refine goP 50 ?_ ?_ <;> first | exact ⟨⟩ | refine Hb.mk fun hb => ?_ | skip))
  all_goals (refine Gg ?_)
  all_goals (first | (refine Br.keep ?_) | (first | (refine WL.pass rfl rfl rfl ?_) | (refine Ld ?_)))
  all_goals (first
               | (refine Br.keep ?_)
               | (first
                    | (refine WL.pass rfl rfl rfl ?_)
                    | (refine WL.call (vs := [_, _, _]) rfl (fun a w => Tryz.call152 a w) rfl ((in07 yf 0 65535).as (by first | exact congrArg Value.bool (decide_eq_true c7) | exact congrArg Value.bool (decide_eq_false c7))) rfl rfl rfl ?_
                       rintro _ hz ⟨rfl, _⟩
                       subst hz)))
  all_goals (refine Gg ?_)
  all_goals (refine Go ?_)
  all_goals (first | (refine Br.keep ?_) | (refine Gs [(0, _), (3, _), (55, _)] ?_))
  all_goals (first | (refine Br.keep ?_) | (refine goC 7 8 ?_ ?_ <;> first | exact ⟨⟩ | refine Hb.mk fun hb => ?_ | skip))
  all_goals (first | (fail_if_success refine goB 7 ?_) | (
  refine goB 7 ?_
  all_goals (refine WC.sr ?_)
  all_goals (refine Go ?_)
  all_goals (refine Gt ?_)
  all_goals (first
              | exact ⟨congrArg Value.bool (decide_eq_true (by rw [List.take_of_length_le (by omega)] at hn; exact hn)).symm, hx1⟩
              | (refine ⟨congrArg Value.bool (decide_eq_false (fun z => ?_)).symm, hx1.trans hX3⟩
                 obtain ⟨d1, d2, d3, d4, d5, d6, d7⟩ := z _ (List.mem_of_getElem? hy)
                 first | exact c7 d7 | exact c6 d6 | exact c5 d5 | exact c4 d4 | exact c3 d3 | exact c2 d2 | (rw [c1] at d1; cases d1)))
  skip))
  all_goals (first | (fail_if_success refine goB 8 ?_) | (
  refine goB 8 ?_
  all_goals (refine WC.skip ?_)
  skip))
  all_goals (refine Gn ?_)
  all_goals (first | (refine Br.keep ?_) | (refine WC.region ?_))
  all_goals (refine Go ?_)
  all_goals (first | (refine Br.keep ?_) | (exact ⟨k + 1, ⟨rfl, rfl, trivial⟩, (by exact ⟨hx1.trans hX3, by omega, all_take hy hn ⟨c1, c2, c3, c4, c5, c6, c7⟩⟩), (by omega)⟩))
  all_goals (try (refine Br.mk (i := 1000) ?_))
  all_goals (refine Gn ?_)
  all_goals (refine Gs [] ?_)
  all_goals (refine WC.sr ?_)
  all_goals (refine Go ?_)
  all_goals (refine Gt ?_)
  all_goals (first
              | exact ⟨congrArg Value.bool (decide_eq_true (by rw [List.take_of_length_le (by omega)] at hn; exact hn)).symm, hx1⟩
              | (refine ⟨congrArg Value.bool (decide_eq_false (fun z => ?_)).symm, hx1.trans hX3⟩
                 obtain ⟨d1, d2, d3, d4, d5, d6, d7⟩ := z _ (List.mem_of_getElem? hy)
                 first | exact c7 d7 | exact c6 d6 | exact c5 d5 | exact c4 d4 | exact c3 d3 | exact c2 d2 | (rw [c1] at d1; cases d1)))
set_option maxHeartbeats 2000000 in
set_option maxRecDepth 100000 in
theorem fields07 {h : Heap} {v : Value} (l : List FieldD) (hr : Rd h v 2 l.length (l.flatMap FieldD.cells)) (hm : l.length ≤ 65535) (ht : ∀ c ∈ l, c.t.length ≤ 1048576) :
    CallsH Tryz.prog 155 ⟨[v]⟩ h fun u h' => u = .bool (decide (∀ c ∈ l, c.okB)) ∧ h' = h := by
  obtain ⟨A, c, rfl, _⟩ := id hr
  refine calls [(0, _)] Tryz.func155 rfl Tryz.ntmps155 rfl ⟨rfl, trivial⟩ ?_
  all_goals (refine WC.sr ?_)
  all_goals (refine Go ?_)
  all_goals (refine WC.seq ?_)
  all_goals (refine WC.sr ?_)
  all_goals (refine Go ?_)
  all_goals (refine goC 1 2 ?_ ?_ <;> first | exact ⟨⟩ | refine Hb.mk fun hb => ?_ | skip)
  all_goals (first | (fail_if_success refine goB 1 ?_) | (
  refine goB 1 ?_
  all_goals (refine WC.sr ?_)
  all_goals (refine Go ?_)
  all_goals (refine Gs [(2, _)] ?_)
  all_goals (refine Gt ?_)
  all_goals (first
              | exact ⟨congrArg Value.bool (decide_eq_true (by rw [List.take_of_length_le (by omega)] at hn; exact hn)).symm, rfl⟩
              | (refine ⟨congrArg Value.bool (decide_eq_false (fun z => ?_)).symm, rfl⟩
                 obtain ⟨d1, d2⟩ := z _ (List.mem_of_getElem? hy)
                 first | exact d1 c1 | (rw [c2] at d2; cases d2)))
  skip))
  all_goals (first | (fail_if_success refine goB 2 ?_) | (
  refine goB 2 ?_
  all_goals (refine WC.skip ?_)
  skip))
  all_goals (refine Gn ?_)
  all_goals (refine Gs [(0, _)] ?_)
  all_goals (refine WC.seq ?_)
  all_goals (refine WC.sr ?_)
  all_goals (refine Go ?_)
  all_goals (refine WC.block ?_)
  -- loop 0: slots that turn [3], that stay [0]
  all_goals (refine WC.loopG (X := Nat) (fun x => ([(3, In (x : Int))] : Fr)) [(0, _)] (fun k h' => h' = h ∧ k ≤ l.length ∧ ∀ c ∈ l.take k, c.okB) (fun k => l.length - k) (0) ⟨rfl, rfl, trivial⟩ (by exact ⟨rfl, Nat.zero_le _, by simp⟩) ?_)
  all_goals (rintro k h1 ⟨hz, hk, hn⟩
             subst h1)
  all_goals (refine WC.sub [(3, _), (0, _)] ⟨rfl, rfl, trivial⟩ ?_)
  all_goals (refine WC.seq ?_)
  all_goals (refine WC.sr ?_)
  all_goals (refine Go ?_)
  all_goals (refine goC 3 4 ?_ ?_ <;> first | exact ⟨⟩ | refine Hb.mk fun hb => ?_ | skip)
  all_goals (first | (fail_if_success refine goB 3 ?_) | (
  refine goB 3 ?_
  all_goals (refine WC.skip ?_)
  skip))
  all_goals (first | (fail_if_success refine goB 4 ?_) | (
  refine goB 4 ?_
  all_goals (refine WC.exit ?_)
  all_goals (repeat' (with_reducible first | refine thenP_x ?_ | refine blockP_miss rfl ?_ | refine blockP_hit ?_ | refine blockP_n ?_ | refine thenP_n ?_))
  all_goals (refine Br.out (i := 1000) ?_)
  skip))
  all_goals (refine Gn ?_)
  all_goals (first | (refine Br.keep ?_) | (refine Gs [(0, _), (3, _)] ?_))
  all_goals (first | (refine Br.keep ?_) | (refine WC.seq ?_))
  all_goals (first | (refine Br.keep ?_) | (refine WC.block ?_))
  all_goals (first | (refine Br.keep ?_) | (refine WC.sr ?_))
  all_goals (first
               | (refine Br.keep ?_)
               | (obtain ⟨bL, oL, hA, hbL, hat⟩ := Rd.at_ hr (by omega)
                  obtain ⟨y, hy⟩ : ∃ y, l[k]? = some y := ⟨_, List.getElem?_eq_getElem (by omega)⟩
                  have hyl := ht y (List.mem_of_getElem? hy)
                  have at1 : At h bL (oL + k * 2) y.cells := At.elem FieldD.len hat hy
                  have hcc := fld_cases y
                  obtain ⟨yk, yt⟩ := y
                  dsimp only [FieldD.cells] at at1 hyl hcc
                  rcases hcc with ⟨c1, c2⟩ | c1 | ⟨c1, c2⟩))
  all_goals (first | (refine Br.keep ?_) | (refine WL.step (ok_move rfl) rfl rfl rfl ?_))
  all_goals (refine Go ?_)
  all_goals (first | (refine Br.keep ?_) | (refine WL.step (ok_idxAddrA Tryz.underlying26 (fun w => Tryz.sizeOf266 w) rfl rfl rfl (by omega) (by first | rfl | assumption)) rfl rfl rfl ?_))
  all_goals (refine Go ?_)
  all_goals (first | (refine Br.keep ?_) | (refine WL.ld rfl (by first | exact at1.get 0 rfl rfl | assumption | exact cell_blk (by assumption) rfl) rfl rfl rfl ?_))
  all_goals (refine Go ?_)
  all_goals (first | (refine Br.keep ?_) | (refine goP 19 ?_ ?_ <;> first | exact ⟨⟩ | refine Hb.mk fun hb => ?_ | skip))
  all_goals (refine Gg ?_)
  all_goals (first | (refine Br.keep ?_) | (first | (refine WL.pass rfl rfl rfl ?_) | (refine WL.step (ok_idxAddrA Tryz.underlying26 (fun w => Tryz.sizeOf266 w) rfl rfl rfl (by omega) (by first | rfl | assumption)) rfl rfl rfl ?_)))
  all_goals (refine Gg ?_)
  all_goals (first | (refine Br.keep ?_) | (first | (refine WL.pass rfl rfl rfl ?_) | (refine WL.ld rfl (by first | exact at1.get 1 rfl rfl | assumption | exact cell_blk (by assumption) rfl) rfl rfl rfl ?_)))
  all_goals (first
               | (refine Br.keep ?_)
               | (first
                    | (refine WL.pass rfl rfl rfl ?_)
                    | (refine WL.call (vs := [_]) rfl (fun a w => Tryz.call151 a w) rfl ((clean07 yt hyl).as (congrArg Value.bool c2)) rfl rfl rfl ?_
                       rintro _ hz ⟨rfl, _⟩
                       subst hz)))
  all_goals (refine Gg ?_)
  all_goals (refine Go ?_)
  all_goals (first | (refine Br.keep ?_) | (refine Gs [(0, _), (3, _), (27, _)] ?_))
  all_goals (first | (refine Br.keep ?_) | (refine goC 5 6 ?_ ?_ <;> first | exact ⟨⟩ | refine Hb.mk fun hb => ?_ | skip))
  all_goals (first | (fail_if_success refine goB 5 ?_) | (
  refine goB 5 ?_
  all_goals (refine WC.sr ?_)
  all_goals (refine Go ?_)
  all_goals (refine Gt ?_)
  all_goals (first
              | exact ⟨congrArg Value.bool (decide_eq_true (by rw [List.take_of_length_le (by omega)] at hn; exact hn)).symm, rfl⟩
              | (refine ⟨congrArg Value.bool (decide_eq_false (fun z => ?_)).symm, rfl⟩
                 obtain ⟨d1, d2⟩ := z _ (List.mem_of_getElem? hy)
                 first | exact d1 c1 | (rw [c2] at d2; cases d2)))
  skip))
  all_goals (first | (fail_if_success refine goB 6 ?_) | (
  refine goB 6 ?_
  all_goals (refine WC.skip ?_)
  skip))
  all_goals (refine Gn ?_)
  all_goals (first | (refine Br.keep ?_) | (refine WC.region ?_))
  all_goals (refine Go ?_)
  all_goals (first | (refine Br.keep ?_) | (exact ⟨k + 1, ⟨rfl, rfl, trivial⟩, (by exact ⟨rfl, by omega, all_take hy hn ⟨c1, c2⟩⟩), (by omega)⟩))
  all_goals (try (refine Br.mk (i := 1000) ?_))
  all_goals (refine Gn ?_)
  all_goals (refine Gs [] ?_)
  all_goals (refine WC.sr ?_)
  all_goals (refine Go ?_)
  all_goals (refine Gt ?_)
  all_goals (first
              | exact ⟨congrArg Value.bool (decide_eq_true (by rw [List.take_of_length_le (by omega)] at hn; exact hn)).symm, rfl⟩
              | (refine ⟨congrArg Value.bool (decide_eq_false (fun z => ?_)).symm, rfl⟩
                 obtain ⟨d1, d2⟩ := z _ (List.mem_of_getElem? hy)
                 first | exact d1 c1 | (rw [c2] at d2; cases d2)))
set_option maxHeartbeats 2000000 in
set_option maxRecDepth 100000 in
theorem values07 {h : Heap} {v : Value} (l : List Cel) (hl : Cels h v l) (hm : l.length ≤ 65535) (ht : ∀ c ∈ l, c.bytes.length ≤ 1048576) :
    CallsH Tryz.prog 156 ⟨[v]⟩ h fun u h' => u = .bool (decide (∀ c ∈ l, c.okB)) ∧ h' = h := by
  obtain ⟨hr, ⟨_, A, c, rfl, _⟩, ho⟩ := hl
  refine calls [(0, _)] Tryz.func156 rfl Tryz.ntmps156 rfl ⟨rfl, trivial⟩ ?_
  all_goals (refine WC.sr ?_)
  all_goals (refine Go ?_)
  all_goals (refine WC.seq ?_)
  all_goals (refine WC.sr ?_)
  all_goals (refine Go ?_)
  all_goals (refine goC 1 2 ?_ ?_ <;> first | exact ⟨⟩ | refine Hb.mk fun hb => ?_ | skip)
  all_goals (first | (fail_if_success refine goB 1 ?_) | (
  refine goB 1 ?_
  all_goals (refine WC.sr ?_)
  all_goals (refine Go ?_)
  all_goals (refine Gs [(2, _)] ?_)
  all_goals (refine Gt ?_)
  all_goals (first
              | exact ⟨congrArg Value.bool (decide_eq_true (by rw [List.take_of_length_le (by omega)] at hn; exact hn)).symm, rfl⟩
              | (refine ⟨congrArg Value.bool (decide_eq_false (fun z => ?_)).symm, rfl⟩
                 obtain ⟨d1, d2⟩ := z _ (List.mem_of_getElem? hy)
                 first | exact c2 (d1 rfl) | (exfalso; omega)))
  skip))
  all_goals (first | (fail_if_success refine goB 2 ?_) | (
  refine goB 2 ?_
  all_goals (refine WC.skip ?_)
  skip))
  all_goals (refine Gn ?_)
  all_goals (refine Gs [(0, _)] ?_)
  all_goals (refine WC.seq ?_)
  all_goals (refine WC.sr ?_)
  all_goals (refine Go ?_)
  all_goals (refine WC.block ?_)
  -- loop 0: slots that turn [3], that stay [0]
  all_goals (refine WC.loopG (X := Nat) (fun x => ([(3, In (x : Int))] : Fr)) [(0, _)] (fun k h' => h' = h ∧ k ≤ l.length ∧ ∀ c ∈ l.take k, c.okB) (fun k => l.length - k) (0) ⟨rfl, rfl, trivial⟩ (by exact ⟨rfl, Nat.zero_le _, by simp⟩) ?_)
  all_goals (rintro k h1 ⟨hz, hk, hn⟩
             subst h1)
  all_goals (refine WC.sub [(3, _), (0, _)] ⟨rfl, rfl, trivial⟩ ?_)
  all_goals (refine WC.seq ?_)
  all_goals (refine WC.sr ?_)
  all_goals (refine Go ?_)
  all_goals (refine goC 3 4 ?_ ?_ <;> first | exact ⟨⟩ | refine Hb.mk fun hb => ?_ | skip)
  all_goals (first | (fail_if_success refine goB 3 ?_) | (
  refine goB 3 ?_
  all_goals (refine WC.skip ?_)
  skip))
  all_goals (first | (fail_if_success refine goB 4 ?_) | (
  refine goB 4 ?_
  all_goals (refine WC.exit ?_)
  all_goals (repeat' (with_reducible first | refine thenP_x ?_ | refine blockP_miss rfl ?_ | refine blockP_hit ?_ | refine blockP_n ?_ | refine thenP_n ?_))
  all_goals (refine Br.out (i := 1000) ?_)
  skip))
  all_goals (refine Gn ?_)
  all_goals (first | (refine Br.keep ?_) | (refine Gs [(0, _), (3, _)] ?_))
  all_goals (first | (refine Br.keep ?_) | (refine WC.seq ?_))
  all_goals (first | (refine Br.keep ?_) | (refine WC.block ?_))
  all_goals (first | (refine Br.keep ?_) | (refine WC.sr ?_))
  all_goals (first
               | (refine Br.keep ?_)
               | (obtain ⟨bL, oL, hA, hbL, hat⟩ := Rd.at_ hr (by omega)
                  obtain ⟨y, hy⟩ : ∃ y, l[k]? = some y := ⟨_, List.getElem?_eq_getElem (by omega)⟩
                  have hyl := ht y (List.mem_of_getElem? hy)
                  have hyo := (ho y (List.mem_of_getElem? hy)).1
                  have at1 : At h bL (oL + k * 2) y.cells := At.elem Cel.len hat hy
                  obtain ⟨yn, yv, yb⟩ := y
                  dsimp only [Cel.cells] at at1 hyl hyo
                  obtain ⟨yA, yc, rfl, _⟩ := id hyo
                  cases yn
                  all_goals by_cases c2 : yb.length = 0))
  all_goals (first | (refine Br.keep ?_) | (refine WL.step (ok_move rfl) rfl rfl rfl ?_))
  all_goals (refine Go ?_)
  all_goals (first | (refine Br.keep ?_) | (refine WL.step (ok_idxAddrA Tryz.underlying25 (fun w => Tryz.sizeOf262 w) rfl rfl rfl (by omega) (by first | rfl | assumption)) rfl rfl rfl ?_))
  all_goals (refine Go ?_)
  all_goals (first | (refine Br.keep ?_) | (refine WL.ld rfl (by first | exact at1.get 0 rfl rfl | assumption | exact cell_blk (by assumption) rfl) rfl rfl rfl ?_))
  all_goals (refine Go ?_)
  all_goals (first | (refine Br.keep ?_) | (refine goP 18 ?_ ?_ <;> first | exact ⟨⟩ | refine Hb.mk fun hb => ?_ | skip))
  all_goals (refine Gg ?_)
  all_goals (first | (refine Br.keep ?_) | (first | (refine WL.pass rfl rfl rfl ?_) | (refine WL.step (ok_idxAddrA Tryz.underlying25 (fun w => Tryz.sizeOf262 w) rfl rfl rfl (by omega) (by first | rfl | assumption)) rfl rfl rfl ?_)))
  all_goals (refine Gg ?_)
  all_goals (first | (refine Br.keep ?_) | (first | (refine WL.pass rfl rfl rfl ?_) | (refine WL.ld rfl (by first | exact at1.get 1 rfl rfl | assumption | exact cell_blk (by assumption) rfl) rfl rfl rfl ?_)))
  all_goals (refine Gg ?_)
  all_goals (refine Go ?_)
  all_goals (first | (refine Br.keep ?_) | (refine goP 27 ?_ ?_ <;> first | exact ⟨⟩ | refine Hb.mk fun hb => ?_ | skip))
  all_goals (refine Gg ?_)
  all_goals (first | (refine Br.keep ?_) | (first | (refine WL.pass rfl rfl rfl ?_) | (refine WL.step (ok_idxAddrA Tryz.underlying25 (fun w => Tryz.sizeOf262 w) rfl rfl rfl (by omega) (by first | rfl | assumption)) rfl rfl rfl ?_)))
  all_goals (refine Gg ?_)
  all_goals (first | (refine Br.keep ?_) | (first | (refine WL.pass rfl rfl rfl ?_) | (refine WL.ld rfl (by first | exact at1.get 1 rfl rfl | assumption | exact cell_blk (by assumption) rfl) rfl rfl rfl ?_)))
  all_goals (refine Gg ?_)
  all_goals (refine Go ?_)
  all_goals (first | (refine Br.keep ?_) | (refine Gs [(0, _), (3, _), (35, _)] ?_))
  all_goals (first | (refine Br.keep ?_) | (refine goC 5 6 ?_ ?_ <;> first | exact ⟨⟩ | refine Hb.mk fun hb => ?_ | skip))
  all_goals (first | (fail_if_success refine goB 5 ?_) | (
  refine goB 5 ?_
  all_goals (refine WC.sr ?_)
  all_goals (refine Go ?_)
  all_goals (refine Gt ?_)
  all_goals (first
              | exact ⟨congrArg Value.bool (decide_eq_true (by rw [List.take_of_length_le (by omega)] at hn; exact hn)).symm, rfl⟩
              | (refine ⟨congrArg Value.bool (decide_eq_false (fun z => ?_)).symm, rfl⟩
                 obtain ⟨d1, d2⟩ := z _ (List.mem_of_getElem? hy)
                 first | exact c2 (d1 rfl) | (exfalso; omega)))
  skip))
  all_goals (first | (fail_if_success refine goB 6 ?_) | (
  refine goB 6 ?_
  all_goals (refine WC.skip ?_)
  skip))
  all_goals (refine Gn ?_)
  all_goals (first | (refine Br.keep ?_) | (refine WC.region ?_))
  all_goals (refine Go ?_)
  all_goals (first | (refine Br.keep ?_) | (exact ⟨k + 1, ⟨rfl, rfl, trivial⟩, (by exact ⟨rfl, by omega, all_take hy hn ⟨(fun z => by first | exact c2 | cases z), hyl⟩⟩), (by omega)⟩))
  all_goals (try (refine Br.mk (i := 1000) ?_))
  all_goals (refine Gn ?_)
  all_goals (refine Gs [] ?_)
  all_goals (refine WC.sr ?_)
  all_goals (refine Go ?_)
  all_goals (refine Gt ?_)
  all_goals (first
              | exact ⟨congrArg Value.bool (decide_eq_true (by rw [List.take_of_length_le (by omega)] at hn; exact hn)).symm, rfl⟩
              | (refine ⟨congrArg Value.bool (decide_eq_false (fun z => ?_)).symm, rfl⟩
                 obtain ⟨d1, d2⟩ := z _ (List.mem_of_getElem? hy)
                 first | exact c2 (d1 rfl) | (exfalso; omega)))
set_option maxHeartbeats 4000000 in
set_option maxRecDepth 100000 in
theorem kept07 {h : Heap} (b : Bk) (hb : b.ok h) : CallsH Tryz.prog 158 ⟨[.agg ⟨b.cells⟩]⟩ h fun u h' => u = .agg ⟨(ofB b).cells⟩ ∧ Ext No h h' := by
  obtain ⟨k, st, t, n, v, x, y, vo, lo, vc, lc, vr, lr, vf, lf⟩ := b
  obtain ⟨⟨ho, _⟩, ⟨hc, _⟩, hr, hf, _⟩ := hb
  simp only at ho hc hr hf
  obtain ⟨A1, c1, rfl, _⟩ := id ho
  obtain ⟨A2, c2, rfl, _⟩ := id hc
  obtain ⟨_, ⟨_, A3, c3, rfl, _⟩, _⟩ := id hr
  obtain ⟨A4, c4, rfl, _⟩ := id hf
  dsimp only [Bk.cells]
  refine calls [(0, _)] Tryz.func158 rfl Tryz.ntmps158 rfl ⟨rfl, trivial⟩ ?_
  all_goals (refine WC.sr ?_)
  all_goals (refine WL.stepR (okE_box rfl) rfl rfl rfl ?_
             rintro _ h1 ⟨b1, rfl, hg1, hb1, hx1⟩)
  all_goals (refine WL.stepR (okE_alloc (fun w => Tryz.zeroValue28 w)) rfl rfl rfl ?_
             rintro _ h2 ⟨b2, rfl, hg2, hb2, hx2⟩)
  all_goals (have hb1a := hx2.obj hb1 nos)
  all_goals (refine Gn ?_)
  all_goals (refine WC.sr ?_)
  all_goals (refine Go ?_)
  all_goals (refine Ld ?_)
  all_goals (refine WL.step (ok_buildF (vs := [_]) (cs := [_, _, _, _, _, _, _, _, _, _, _]) (fun | [a0] => [a0, (.int .u8 0), (St []), (St []), (St []), (.int .i64 0), (.int .i64 0), (.slice none 0 0), (.slice none 0 0), (.slice none 0 0), (.slice none 0 0)] | _ => []) rfl rfl (by kernel_rfl)) rfl rfl rfl ?_)
  all_goals (refine WL.stepR (okE_alloc (fun w => Tryz.zeroValue28 w)) rfl rfl rfl ?_
             rintro _ h3 ⟨b3, rfl, hg3, hb3, hx3⟩)
  all_goals (have hb1b := hx3.obj hb1a nos
             have hb2b := hx3.obj hb2 nos
             have n13 : ¬ b1 = b3 := by have := lt_of_some hb1a; omega
             have n23 : ¬ b2 = b3 := by have := lt_of_some hb2; omega)
  all_goals (refine WL.stepR0 (okE_storeW (fun w => Tryz.sizeOf28 w) rfl rfl rfl (by assumption) rfl (by simp [Value.oneCell'])) rfl rfl ?_
             rintro _ h4 ⟨hb4, hx4⟩)
  all_goals (have hb1c := hx4.obj hb1b n13
             have hb2c := hx4.obj hb2b n23
             have hX4 : Ext No h h4 := ((hx1.trans hx2).trans hx3).trans' hx4 (fun q hq e => by have := hx1.size; have := hx2.size; omega))
  all_goals (refine Gn ?_)
  all_goals (refine Gs [(1, _), (2, _), (3, _)] ?_)
  all_goals (refine WC.seq ?_)
  all_goals (refine WC.sr ?_)
  all_goals (refine Go ?_)
  all_goals (refine Ld ?_)
  all_goals (refine Gn ?_)
  all_goals (refine WC.block ?_)
  all_goals (refine WC.sr ?_)
  all_goals (refine Go ?_)
  all_goals (refine goC 1 2 ?_ ?_ <;> first | exact ⟨⟩ | refine Hb.mk fun hb => ?_ | skip)
  all_goals (first | (fail_if_success refine goB 1 ?_) | (
  refine goB 1 ?_
  all_goals (refine WC.drawH (fun h' => Ext (fun q => q = b3) h4 h') 7 8 rfl fol ?_)
  all_goals (refine WH.tk 0 rfl (fun hq hC => ok_fieldAddr rfl Tryz.underlying28 rfl (fun w => Tryz.sizeOf9 w)) rfl rfl rfl ?_ (hC := (by first | exact Ext.refl _ _ | assumption | exact hx5.trans hx6)))
  all_goals (refine WH.tk 1 rfl (fun hq hC => ok_load (fun w => Tryz.isAgg9 w) rfl (by first | exact hC.cell (by first | exact cell_blk hb1c rfl | assumption | exact cell_blk (by assumption) rfl) n13)) rfl rfl rfl ?_ (hC := (by first | exact Ext.refl _ _ | assumption | exact hx5.trans hx6)))
  all_goals (refine WH.tk 2 rfl (fun hq hC => ok_fieldAddr rfl Tryz.underlying28 rfl (fun w => Tryz.sizeOf9 w)) rfl rfl rfl ?_ (hC := (by first | exact Ext.refl _ _ | assumption | exact hx5.trans hx6)))
  all_goals (refine WH.tk 3 rfl (fun hq hC => ok_load (fun w => Tryz.isAgg9 w) rfl (by first | exact hC.cell (by first | exact cell_blk hb1c rfl | assumption | exact cell_blk (by assumption) rfl) n13)) rfl rfl rfl ?_ (hC := (by first | exact Ext.refl _ _ | assumption | exact hx5.trans hx6)))
  all_goals (refine WH.tk 4 rfl (fun hq hC => ok_fieldAddr rfl Tryz.underlying28 rfl (fun w => Tryz.sizeOf9 w)) rfl rfl rfl ?_ (hC := (by first | exact Ext.refl _ _ | assumption | exact hx5.trans hx6)))
  all_goals (refine WH.one 5 (by kernel_rfl) ?_)
  all_goals (refine Comes1.run0 rfl (okE_store (fun w => Tryz.sizeOf9 w) rfl rfl (by assumption) (Nat.le_of_ble_eq_true rfl) rfl rfl) rfl rfl ?_ (fun _ => by kernel_rfl)
             rintro _ h5 ⟨hb5, hx5⟩)
  all_goals (refine ⟨fun _ => hx5, ?_⟩)
  all_goals (refine WH.tk 6 rfl (fun hq hC => ok_fieldAddr rfl Tryz.underlying28 rfl (fun w => Tryz.sizeOf9 w)) rfl rfl rfl ?_ (hC := (by first | exact Ext.refl _ _ | assumption | exact hx5.trans hx6)))
  all_goals (refine WH.one 7 (by kernel_rfl) ?_)
  all_goals (refine Comes1.run0 rfl (okE_store (fun w => Tryz.sizeOf9 w) rfl rfl (by assumption) (Nat.le_of_ble_eq_true rfl) rfl rfl) rfl rfl ?_ (fun _ => by kernel_rfl)
             rintro _ h6 ⟨hb6, hx6⟩)
  all_goals (refine ⟨fun _ => hx5.trans hx6, ?_⟩)
  all_goals (have hE := hx5.trans hx6
             have hb2z := hE.obj hb2c n23)
  all_goals (refine WH.done (by kernel_rfl) ?_)
  skip))
  all_goals (first | (fail_if_success refine goB 2 ?_) | (
  refine goB 2 ?_
  all_goals (refine WC.sr ?_)
  all_goals (refine Go ?_)
  all_goals (refine Gs [(1, _), (2, _), (3, _), (8, _), (17, _)] ?_)
  all_goals (refine goC 3 4 ?_ ?_ <;> first | exact ⟨⟩ | refine Hb.mk fun hb => ?_ | skip)
  all_goals (first | (fail_if_success refine goB 3 ?_) | (
  refine goB 3 ?_
  all_goals (refine WC.drawH (fun h' => Ext (fun q => q = b3) h4 h') 7 8 rfl fol ?_)
  all_goals (refine WH.tk 0 rfl (fun hq hC => ok_fieldAddr rfl Tryz.underlying28 rfl (fun w => Tryz.sizeOf3 w)) rfl rfl rfl ?_ (hC := (by first | exact Ext.refl _ _ | assumption | exact hx5.trans hx6)))
  all_goals (refine WH.tk 1 rfl (fun hq hC => ok_load (fun w => Tryz.isAgg3 w) rfl (by first | exact hC.cell (by first | exact cell_blk hb1c rfl | assumption | exact cell_blk (by assumption) rfl) n13)) rfl rfl rfl ?_ (hC := (by first | exact Ext.refl _ _ | assumption | exact hx5.trans hx6)))
  all_goals (refine WH.tk 2 rfl (fun hq hC => ok_fieldAddr rfl Tryz.underlying28 rfl (fun w => Tryz.sizeOf3 w)) rfl rfl rfl ?_ (hC := (by first | exact Ext.refl _ _ | assumption | exact hx5.trans hx6)))
  all_goals (refine WH.tk 3 rfl (fun hq hC => ok_load (fun w => Tryz.isAgg3 w) rfl (by first | exact hC.cell (by first | exact cell_blk hb1c rfl | assumption | exact cell_blk (by assumption) rfl) n13)) rfl rfl rfl ?_ (hC := (by first | exact Ext.refl _ _ | assumption | exact hx5.trans hx6)))
  all_goals (refine WH.tk 4 rfl (fun hq hC => ok_fieldAddr rfl Tryz.underlying28 rfl (fun w => Tryz.sizeOf3 w)) rfl rfl rfl ?_ (hC := (by first | exact Ext.refl _ _ | assumption | exact hx5.trans hx6)))
  all_goals (refine WH.one 5 (by kernel_rfl) ?_)
  all_goals (refine Comes1.run0 rfl (okE_store (fun w => Tryz.sizeOf3 w) rfl rfl (by assumption) (Nat.le_of_ble_eq_true rfl) rfl rfl) rfl rfl ?_ (fun _ => by kernel_rfl)
             rintro _ h5 ⟨hb5, hx5⟩)
  all_goals (refine ⟨fun _ => hx5, ?_⟩)
  all_goals (refine WH.tk 6 rfl (fun hq hC => ok_fieldAddr rfl Tryz.underlying28 rfl (fun w => Tryz.sizeOf3 w)) rfl rfl rfl ?_ (hC := (by first | exact Ext.refl _ _ | assumption | exact hx5.trans hx6)))
  all_goals (refine WH.one 7 (by kernel_rfl) ?_)
  all_goals (refine Comes1.run0 rfl (okE_store (fun w => Tryz.sizeOf3 w) rfl rfl (by assumption) (Nat.le_of_ble_eq_true rfl) rfl rfl) rfl rfl ?_ (fun _ => by kernel_rfl)
             rintro _ h6 ⟨hb6, hx6⟩)
  all_goals (refine ⟨fun _ => hx5.trans hx6, ?_⟩)
  all_goals (have hE := hx5.trans hx6
             have hb2z := hE.obj hb2c n23)
  all_goals (refine WH.done (by kernel_rfl) ?_)
  skip))
  all_goals (first | (fail_if_success refine goB 4 ?_) | (
  refine goB 4 ?_
  all_goals (refine WC.sr ?_)
  all_goals (refine Go ?_)
  all_goals (refine goC 5 6 ?_ ?_ <;> first | exact ⟨⟩ | refine Hb.mk fun hb => ?_ | skip)
  all_goals (first | (fail_if_success refine goB 5 ?_) | (
  refine goB 5 ?_
  all_goals (refine WC.region ?_)
  all_goals (refine Go ?_)
  all_goals (refine Ld ?_)
  all_goals (refine Go ?_)
  all_goals (refine WL.stepR0 (okE_store (fun w => Tryz.sizeOf5 w) rfl rfl (by assumption) (Nat.le_of_ble_eq_true rfl) rfl rfl) rfl rfl ?_
             rintro _ h5 ⟨hb5, hE⟩)
  all_goals (have hb2z := hE.obj hb2c n23)
  all_goals (refine Gn ?_)
  skip))
  all_goals (first | (fail_if_success refine goB 6 ?_) | (
  refine goB 6 ?_
  all_goals (refine WC.sr ?_)
  all_goals (refine Go ?_)
  all_goals (refine Gs [(1, _), (2, _), (3, _), (8, _), (30, _)] ?_)
  all_goals (refine goC 7 8 ?_ ?_ <;> first | exact ⟨⟩ | refine Hb.mk fun hb => ?_ | skip)
  all_goals (first | (fail_if_success refine goB 7 ?_) | (
  refine goB 7 ?_
  all_goals (refine WC.region ?_)
  all_goals (refine Go ?_)
  all_goals (refine Ld ?_)
  all_goals (refine Go ?_)
  all_goals (refine WL.stepR0 (okE_store (fun w => Tryz.sizeOf9 w) rfl rfl (by assumption) (Nat.le_of_ble_eq_true rfl) rfl rfl) rfl rfl ?_
             rintro _ h5 ⟨hb5, hE⟩)
  all_goals (have hb2z := hE.obj hb2c n23)
  all_goals (refine Gn ?_)
  skip))
  all_goals (first | (fail_if_success refine goB 8 ?_) | (
  refine goB 8 ?_
  all_goals (refine WC.sr ?_)
  all_goals (refine Go ?_)
  all_goals (refine goC 9 10 ?_ ?_ <;> first | exact ⟨⟩ | refine Hb.mk fun hb => ?_ | skip)
  all_goals (first | (fail_if_success refine goB 9 ?_) | (
  refine goB 9 ?_
  all_goals (refine WC.region ?_)
  all_goals (refine Go ?_)
  all_goals (refine Ld ?_)
  all_goals (refine Go ?_)
  all_goals (refine WL.stepR0 (okE_store (fun w => Tryz.sizeOf25 w) rfl rfl (by assumption) (Nat.le_of_ble_eq_true rfl) rfl rfl) rfl rfl ?_
             rintro _ h5 ⟨hb5, hE⟩)
  all_goals (have hb2z := hE.obj hb2c n23)
  all_goals (refine Gn ?_)
  skip))
  all_goals (first | (fail_if_success refine goB 10 ?_) | (
  refine goB 10 ?_
  all_goals (refine WC.sr ?_)
  all_goals (refine Go ?_)
  all_goals (refine Gs [(1, _), (2, _), (3, _), (8, _), (40, _)] ?_)
  all_goals (refine goC 11 12 ?_ ?_ <;> first | exact ⟨⟩ | refine Hb.mk fun hb => ?_ | skip)
  all_goals (first | (fail_if_success refine goB 11 ?_) | (
  refine goB 11 ?_
  all_goals (refine WC.region ?_)
  all_goals (refine Go ?_)
  all_goals (refine Ld ?_)
  all_goals (refine Go ?_)
  all_goals (refine WL.stepR0 (okE_store (fun w => Tryz.sizeOf24 w) rfl rfl (by assumption) (Nat.le_of_ble_eq_true rfl) rfl rfl) rfl rfl ?_
             rintro _ h5 ⟨hb5, hE⟩)
  all_goals (have hb2z := hE.obj hb2c n23)
  all_goals (refine Gn ?_)
  skip))
  all_goals (first | (fail_if_success refine goB 12 ?_) | (
  refine goB 12 ?_
  all_goals (refine WC.sr ?_)
  all_goals (refine Go ?_)
  all_goals (refine goC 13 14 ?_ ?_ <;> first | exact ⟨⟩ | refine Hb.mk fun hb => ?_ | skip)
  all_goals (first | (fail_if_success refine goB 13 ?_) | (
  refine goB 13 ?_
  all_goals (refine WC.region ?_)
  all_goals (refine Go ?_)
  all_goals (refine Ld ?_)
  all_goals (refine Go ?_)
  all_goals (refine WL.stepR0 (okE_store (fun w => Tryz.sizeOf23 w) rfl rfl (by assumption) (Nat.le_of_ble_eq_true rfl) rfl rfl) rfl rfl ?_
             rintro _ h5 ⟨hb5, hE⟩)
  all_goals (have hb2z := hE.obj hb2c n23)
  all_goals (refine Gn ?_)
  skip))
  all_goals (first | (fail_if_success refine goB 14 ?_) | (
  refine goB 14 ?_
  all_goals (refine WC.seq ?_)
  all_goals (refine WC.sr ?_)
  all_goals (refine Go ?_)
  all_goals (refine Gs [(1, _), (2, _), (3, _), (8, _), (50, _)] ?_)
  all_goals (refine goC 15 16 ?_ ?_ <;> first | exact ⟨⟩ | refine Hb.mk fun hb => ?_ | skip)
  all_goals (first | (fail_if_success refine goB 15 ?_) | (
  refine goB 15 ?_
  all_goals (refine WC.skip ?_)
  skip))
  all_goals (first | (fail_if_success refine goB 16 ?_) | (
  refine goB 16 ?_
  all_goals (refine WC.region ?_)
  all_goals (refine Go ?_)
  skip))
  all_goals (refine Gn ?_)
  all_goals (refine goC 17 18 ?_ ?_ <;> first | exact ⟨⟩ | refine Hb.mk fun hb => ?_ | skip)
  all_goals (first | (fail_if_success refine goB 17 ?_) | (
  refine goB 17 ?_
  all_goals (refine WC.region ?_)
  all_goals (refine Go ?_)
  all_goals (refine Ld ?_)
  all_goals (refine Go ?_)
  all_goals (refine WL.stepR0 (okE_store (fun w => Tryz.sizeOf26 w) rfl rfl (by assumption) (Nat.le_of_ble_eq_true rfl) rfl rfl) rfl rfl ?_
             rintro _ h5 ⟨hb5, hE⟩)
  all_goals (have hb2z := hE.obj hb2c n23)
  all_goals (refine Gn ?_)
  skip))
  all_goals (first | (fail_if_success refine goB 18 ?_) | (
  refine goB 18 ?_
  all_goals (refine WC.skip ?_)
  skip))
  skip))
  skip))
  skip))
  skip))
  skip))
  skip))
  skip))
  all_goals (refine Gn ?_)
  all_goals (refine WC.sr ?_)
  all_goals (refine WL.step (ok_loadN (fun w => Tryz.isAgg28 w) (fun w => Tryz.sizeOf28 w) rfl rfl (by exact (by first | exact At.of_block hb6 | exact At.of_block hb5 | exact At.of_block hb4))) rfl rfl rfl ?_)
  all_goals (refine WL.stepR0 (okE_storeW (fun w => Tryz.sizeOf28 w) rfl rfl rfl (by first | exact hb2z | exact hb2c) rfl (by simp [Value.oneCell'])) rfl rfl ?_
             rintro _ h9 ⟨hb9, hx9⟩)
  all_goals (refine Gn ?_)
  all_goals (refine Gs [(2, _)] ?_)
  all_goals (refine WC.ret ?_)
  all_goals (repeat' (with_reducible first | refine thenP_r ?_ | refine blockP_r ?_))
  all_goals (refine retP_1 _ ⟨⟨_, rfl, ld_blk (fun w => Tryz.isAgg28 w) (fun w => Tryz.sizeOf28 w) (by assumption) rfl⟩, trivial⟩ ?_)
  all_goals (have hs1 := hx1.size
             have hs2 := hx2.size
             refine ⟨?_, by first | exact (hX4.trans' hE (fun q hq e => by omega)).trans' hx9 (fun q hq e => by omega) | exact hX4.trans' hx9 (fun q hq e => by omega)⟩
             first
              | (exfalso; omega)
              | (simp only [ofB, if_pos, *]; rfl)
              | (simp [ofB, zB, Bk.cells, *]; done))

set_option maxHeartbeats 4000000 in
set_option maxRecDepth 100000 in
theorem same07A {h : Heap} (a b : Bk) (ha : a.ok h) (hb : b.ok h) :
    CallsH Tryz.prog 157 ⟨[.agg ⟨a.cells⟩, .agg ⟨b.cells⟩]⟩ h fun u h' => (∃ x, u = .bool x ∧ (x = true ↔ a.pl = b.pl)) ∧ Ext No h h' := by
  obtain ⟨k1, s1, t1, n1, v1, x1, y1, vo1, l1, vc1, c1, vr1, r1, vf1, f1⟩ := a
  obtain ⟨k2, s2, t2, n2, v2, x2, y2, vo2, l2, vc2, c2, vr2, r2, vf2, f2⟩ := b
  obtain ⟨⟨ao, hlo⟩, ⟨ac, hlc⟩, ar, af, hlf⟩ := ha
  obtain ⟨⟨bo, hmo⟩, ⟨bc, hmc⟩, br, bf, hmf⟩ := hb
  simp only at ao ac ar af bo bc br bf hlo hlc hlf hmo hmc hmf
  obtain ⟨Ao, co, rfl, _⟩ := id ao
  obtain ⟨Bo, do_, rfl, _⟩ := id bo
  obtain ⟨Ac, cc, rfl, _⟩ := id ac
  obtain ⟨Bc, dc, rfl, _⟩ := id bc
  obtain ⟨Af, cf, rfl, _⟩ := id af
  obtain ⟨Bf, df, rfl, _⟩ := id bf
  dsimp only [Bk.cells]
  have hpc : (k1 = k2 ∧ s1 = s2 ∧ t1 = t2 ∧ n1 = n2 ∧ v1 = v2 ∧ x1 = x2 ∧ y1 = y2) ∨ k1 ≠ k2 ∨ (k1 = k2 ∧ s1 ≠ s2) ∨ (k1 = k2 ∧ s1 = s2 ∧ t1 ≠ t2) ∨ (k1 = k2 ∧ s1 = s2 ∧ t1 = t2 ∧ n1 ≠ n2) ∨ (k1 = k2 ∧ s1 = s2 ∧ t1 = t2 ∧ n1 = n2 ∧ v1 ≠ v2) ∨ (k1 = k2 ∧ s1 = s2 ∧ t1 = t2 ∧ n1 = n2 ∧ v1 = v2 ∧ x1 ≠ x2) ∨ (k1 = k2 ∧ s1 = s2 ∧ t1 = t2 ∧ n1 = n2 ∧ v1 = v2 ∧ x1 = x2 ∧ y1 ≠ y2) := by
    by_cases e1 : k1 = k2
    · by_cases e2 : s1 = s2
      · by_cases e3 : t1 = t2
        · by_cases e4 : n1 = n2
          · by_cases e5 : v1 = v2
            · simp only [e1, e2, e3, e4, e5, true_and, ne_eq, not_true_eq_false, false_or]; omega
            · exact .inr (.inr (.inr (.inr (.inr (.inl ⟨e1, e2, e3, e4, e5⟩)))))
          · exact .inr (.inr (.inr (.inr (.inl ⟨e1, e2, e3, e4⟩))))
        · exact .inr (.inr (.inr (.inl ⟨e1, e2, e3⟩)))
      · exact .inr (.inr (.inl ⟨e1, e2⟩))
    · exact .inr (.inl e1)
  unfold maxLen at hlc hlf hmc hmf
  rcases hpc with ⟨rfl, rfl, rfl, rfl, rfl, rfl, rfl⟩ | q | ⟨rfl, q⟩ | ⟨rfl, rfl, q⟩ | ⟨rfl, rfl, rfl, q⟩ | ⟨rfl, rfl, rfl, rfl, q⟩ | ⟨rfl, rfl, rfl, rfl, rfl, q⟩ | ⟨rfl, rfl, rfl, rfl, rfl, rfl, q⟩
  case inl =>
    refine calls [(0, _), (1, _)] Tryz.func157 rfl Tryz.ntmps157 rfl ⟨rfl, rfl, trivial⟩ ?_
    all_goals (refine WC.sr ?_)
    all_goals (refine WL.stepR (okE_box rfl) rfl rfl rfl ?_
               rintro _ h1 ⟨b1, rfl, hg1, hb1, hx1⟩)
    all_goals (refine WL.stepR (okE_box rfl) rfl rfl rfl ?_
               rintro _ h2 ⟨b2, rfl, hg2, hb2, hx2⟩)
    all_goals (have hb1' := hx2.obj hb1 nos
               have hx := hx1.trans hx2)
    all_goals (refine Go ?_)
    all_goals (refine WC.sr ?_)
    all_goals (refine Go ?_)
    all_goals (refine Ld ?_)
    all_goals (refine Go ?_)
    all_goals (refine Ld ?_)
    all_goals (refine Go ?_)
    all_goals (refine goP 13 ?_ ?_ <;> first | exact ⟨⟩ | refine Hb.mk fun hb => ?_ | skip)
    all_goals (refine Gg ?_)
    all_goals (first | (refine WL.pass rfl rfl rfl ?_) | (refine Ld ?_))
    all_goals (refine Gg ?_)
    all_goals (first | (refine WL.pass rfl rfl rfl ?_) | (refine Ld ?_))
    all_goals (refine Gg ?_)
    all_goals (refine Go ?_)
    all_goals (refine goP 20 ?_ ?_ <;> first | exact ⟨⟩ | refine Hb.mk fun hb => ?_ | skip)
    all_goals (refine Gg ?_)
    all_goals (first | (refine WL.pass rfl rfl rfl ?_) | (refine Ld ?_))
    all_goals (refine Gg ?_)
    all_goals (first | (refine WL.pass rfl rfl rfl ?_) | (refine Ld ?_))
    all_goals (refine Gg ?_)
    all_goals (refine Go ?_)
    all_goals (refine goP 27 ?_ ?_ <;> first | exact ⟨⟩ | refine Hb.mk fun hb => ?_ | skip)
    all_goals (refine Gg ?_)
    all_goals (first | (refine WL.pass rfl rfl rfl ?_) | (refine Ld ?_))
    all_goals (refine Gg ?_)
    all_goals (first | (refine WL.pass rfl rfl rfl ?_) | (refine Ld ?_))
    all_goals (refine Gg ?_)
    all_goals (refine Go ?_)
    all_goals (refine goP 34 ?_ ?_ <;> first | exact ⟨⟩ | refine Hb.mk fun hb => ?_ | skip)
    all_goals (refine Gg ?_)
    all_goals (first | (refine WL.pass rfl rfl rfl ?_) | (refine Ld ?_))
    all_goals (refine Gg ?_)
    all_goals (first | (refine WL.pass rfl rfl rfl ?_) | (refine Ld ?_))
    all_goals (refine Gg ?_)
    all_goals (refine Go ?_)
    all_goals (refine goP 41 ?_ ?_ <;> first | exact ⟨⟩ | refine Hb.mk fun hb => ?_ | skip)
    all_goals (refine Gg ?_)
    all_goals (first | (refine WL.pass rfl rfl rfl ?_) | (refine Ld ?_))
    all_goals (refine Gg ?_)
    all_goals (first | (refine WL.pass rfl rfl rfl ?_) | (refine Ld ?_))
    all_goals (refine Gg ?_)
    all_goals (refine Go ?_)
    all_goals (refine goP 48 ?_ ?_ <;> first | exact ⟨⟩ | refine Hb.mk fun hb => ?_ | skip)
    all_goals (refine Gg ?_)
    all_goals (first | (refine WL.pass rfl rfl rfl ?_) | (refine Ld ?_))
    all_goals (refine Gg ?_)
    all_goals (first | (refine WL.pass rfl rfl rfl ?_) | (refine Ld ?_))
    all_goals (refine Gg ?_)
    all_goals (refine Go ?_)
    all_goals (refine Gs [(2, _), (3, _), (5, _)] ?_)
    all_goals (refine WC.seq ?_)
    all_goals (refine WC.sr ?_)
    all_goals (refine Go ?_)
    all_goals (refine goP 57 ?_ ?_ <;> first | exact ⟨⟩ | refine Hb.mk fun hb => ?_ | skip)
    all_goals (refine Gg ?_)
    all_goals (first | (refine WL.pass rfl rfl rfl ?_) | (refine Ld ?_))
    all_goals (refine Gg ?_)
    all_goals (first | (refine WL.pass rfl rfl rfl ?_) | (refine Ld ?_))
    all_goals (first
                 | (refine WL.pass rfl rfl rfl ?_)
                 | (refine WL.call (vs := [_, _]) rfl (fun a w => Tryz.call247 a w) rfl ((ints_ref l1 l2 (ao.ext0 hx) (bo.ext0 hx) hlo hmo).dec) rfl rfl rfl ?_
                    rintro _ h9 ⟨⟨rfl, ho⟩ | ⟨rfl, ho⟩, hz9⟩
                    all_goals subst h9))
    all_goals (refine Gg ?_)
    all_goals (refine Go ?_)
    all_goals (refine goP 65 ?_ ?_ <;> first | exact ⟨⟩ | refine Hb.mk fun hb => ?_ | skip)
    all_goals (refine Gg ?_)
    all_goals (first | (refine WL.pass rfl rfl rfl ?_) | (refine Ld ?_))
    all_goals (refine Gg ?_)
    all_goals (first | (refine WL.pass rfl rfl rfl ?_) | (refine Ld ?_))
    all_goals (first
                 | (refine WL.pass rfl rfl rfl ?_)
                 | (refine WL.call (vs := [_, _]) rfl (fun a w => Tryz.call248 a w) rfl ((cells_ref r1 r2 (ar.ext0 hx) (br.ext0 hx)).dec) rfl rfl rfl ?_
                    rintro _ h9 ⟨⟨rfl, hr⟩ | ⟨rfl, hr⟩, hz9⟩
                    all_goals subst h9))
    all_goals (refine Gg ?_)
    all_goals (refine Go ?_)
    all_goals (refine goP 73 ?_ ?_ <;> first | exact ⟨⟩ | refine Hb.mk fun hb => ?_ | skip)
    all_goals (refine Gg ?_)
    all_goals (first | (refine WL.pass rfl rfl rfl ?_) | (refine Ld ?_))
    all_goals (refine Gg ?_)
    all_goals (first | (refine WL.pass rfl rfl rfl ?_) | (refine Ld ?_))
    all_goals (refine Gg ?_)
    all_goals (refine Go ?_)
    all_goals (refine goP 82 ?_ ?_ <;> first | exact ⟨⟩ | refine Hb.mk fun hb => ?_ | skip)
    all_goals (refine Gg ?_)
    all_goals (first | (refine WL.pass rfl rfl rfl ?_) | (refine Ld ?_))
    all_goals (refine Gg ?_)
    all_goals (first | (refine WL.pass rfl rfl rfl ?_) | (refine Ld ?_))
    all_goals (refine Gg ?_)
    all_goals (refine Go ?_)
    all_goals (refine Gs [(2, _), (3, _), (90, _)] ?_)
    all_goals (refine goC 1 2 ?_ ?_ <;> first | exact ⟨⟩ | refine Hb.mk fun hb => ?_ | skip)
    all_goals (first | (fail_if_success refine goB 1 ?_) | (
    refine goB 1 ?_
    all_goals (refine WC.sr ?_)
    all_goals (refine Go ?_)
    all_goals (refine Gt ?_)
    all_goals (first
                | (refine ⟨⟨false, rfl, ⟨fun z => (by cases z), fun z => ?_⟩⟩, hx⟩
                   exfalso
                   simp only [Bk.pl, Prod.mk.injEq, true_and] at z
                   obtain ⟨z8, z9, z10, z11⟩ := z
                   first | exact ho z8 | exact hr z10 | exact hyz (by subst z9; rw [hy] at hz; exact Option.some.inj hz) | exact hyw (by subst z11; rw [hy] at hz; exact Option.some.inj hz) | (subst z9; subst z11; omega))
                | (refine ⟨⟨true, rfl, ⟨fun _ => ?_, fun _ => rfl⟩⟩, hx⟩
                   have hff : f1 = f2 := (by rw [List.take_of_length_le (by omega), List.take_of_length_le (by omega)] at hm; exact hm)
                   simp [Bk.pl, ho, hr, hcc, hff]))
    skip))
    all_goals (first | (fail_if_success refine goB 2 ?_) | (
    refine goB 2 ?_
    all_goals (refine WC.skip ?_)
    skip))
    all_goals (refine Gn ?_)
    all_goals (refine WC.seq ?_)
    all_goals (refine WC.sr ?_)
    all_goals (refine Go ?_)
    all_goals (refine WC.block ?_)
    -- loop 0: slots that turn [6], that stay [2, 3]
    all_goals (refine WC.loopG (X := Nat) (fun x => ([(6, In (x : Int))] : Fr)) [(2, _), (3, _)] (fun k h' => h' = h2 ∧ k ≤ c1.length ∧ c1.length = c2.length ∧ f1.length = f2.length ∧ c1.take k = c2.take k) (fun k => c1.length - k) (0) ⟨rfl, rfl, rfl, trivial⟩ (by exact ⟨rfl, Nat.zero_le _, by omega, by omega, by simp⟩) ?_)
    all_goals (rintro k h9 ⟨hz, hk, hlC, hlF, hn⟩
               subst h9)
    all_goals (refine WC.sub [(6, _), (2, _), (3, _)] ⟨rfl, rfl, rfl, trivial⟩ ?_)
    all_goals (refine WC.seq ?_)
    all_goals (refine WC.sr ?_)
    all_goals (refine Go ?_)
    all_goals (refine Ld ?_)
    all_goals (refine Go ?_)
    all_goals (refine Gs [(2, _), (3, _), (6, _), (95, _)] ?_)
    all_goals (refine goC 3 4 ?_ ?_ <;> first | exact ⟨⟩ | refine Hb.mk fun hb => ?_ | skip)
    all_goals (first | (fail_if_success refine goB 3 ?_) | (
    refine goB 3 ?_
    all_goals (refine WC.skip ?_)
    skip))
    all_goals (first | (fail_if_success refine goB 4 ?_) | (
    refine goB 4 ?_
    all_goals (refine WC.exit ?_)
    all_goals (repeat' (with_reducible first | refine thenP_x ?_ | refine blockP_miss rfl ?_ | refine blockP_hit ?_ | refine blockP_n ?_ | refine thenP_n ?_))
    all_goals (refine Br.out (i := 1000) ?_)
    skip))
    all_goals (refine Gn ?_)
    all_goals (first | (refine Br.keep ?_) | (refine WC.seq ?_))
    all_goals (first | (refine Br.keep ?_) | (refine WC.block ?_))
    all_goals (first | (refine Br.keep ?_) | (refine WC.seq ?_))
    all_goals (first
                 | (refine Br.keep ?_)
                 | (obtain ⟨g, o, hA, hbL, hat⟩ := Rd.at_ (ac.ext0 hx) (by omega)
                    obtain ⟨g2, o2, hB, hbL2, hat2⟩ := Rd.at_ (bc.ext0 hx) (by omega)
                    obtain ⟨y, hy⟩ : ∃ y, c1[k]? = some y := ⟨_, List.getElem?_eq_getElem (by omega)⟩
                    obtain ⟨z, hz⟩ : ∃ y, c2[k]? = some y := ⟨_, List.getElem?_eq_getElem (by omega)⟩
                    have at1 : At _ g (o + k * 7) y.cells := At.elem ColD.len hat hy
                    have at2 : At _ g2 (o2 + k * 7) z.cells := At.elem ColD.len hat2 hz
                    by_cases hyz : y = z))
    all_goals (first | (refine Br.keep ?_) | (refine WC.drawE fol (by kernel_rfl) ?_))
    all_goals (first | (refine Br.keep ?_) | (refine WQ.stepE (ok_fieldAddr rfl Tryz.underlying28 rfl (fun w => Tryz.sizeOf24 w)) rfl rfl rfl ?_))
    all_goals (first | (refine Br.keep ?_) | (refine WQ.stepE (ok_load (fun w => Tryz.isAgg24 w) rfl (by first | assumption | exact cell_blk (by assumption) rfl)) rfl rfl rfl ?_))
    all_goals (first | (refine Br.keep ?_) | (refine WQ.stepE (ok_move rfl) rfl rfl rfl ?_))
    all_goals (first | (refine Br.keep ?_) | (refine WQ.stepE (ok_idxAddrA Tryz.underlying24 (fun w => Tryz.sizeOf264 w) rfl rfl rfl (by omega) (by first | rfl | assumption)) rfl rfl rfl ?_))
    all_goals (first | (refine Br.keep ?_) | (refine WQ.stepE (ok_loadN (fun w => Tryz.isAgg264 w) (fun w => Tryz.sizeOf264 w) rfl rfl (by assumption)) rfl rfl rfl ?_))
    all_goals (first | (refine Br.keep ?_) | (refine WQ.stepE (ok_fieldAddr rfl Tryz.underlying28 rfl (fun w => Tryz.sizeOf24 w)) rfl rfl rfl ?_))
    all_goals (first | (refine Br.keep ?_) | (refine WQ.stepE (ok_load (fun w => Tryz.isAgg24 w) rfl (by first | assumption | exact cell_blk (by assumption) rfl)) rfl rfl rfl ?_))
    all_goals (first | (refine Br.keep ?_) | (refine WQ.stepE (ok_move rfl) rfl rfl rfl ?_))
    all_goals (first | (refine Br.keep ?_) | (refine WQ.stepE (ok_idxAddrA Tryz.underlying24 (fun w => Tryz.sizeOf264 w) rfl rfl rfl (by omega) (by first | rfl | assumption)) rfl rfl rfl ?_))
    all_goals (first | (refine Br.keep ?_) | (refine WQ.stepE (ok_loadN (fun w => Tryz.isAgg264 w) (fun w => Tryz.sizeOf264 w) rfl rfl (by assumption)) rfl rfl rfl ?_))
    all_goals (first | (refine Br.keep ?_) | (first | (refine WQ.stepE (OkP.nbool_f (congrArg (·.sca) hyz) (ok_neqF (us := y.sca) (vs := z.sca) [.s, .i .i64, .i .i64, .i .i64, .i .i64, .i .i64, .i .i64] (by kernel_rfl) rfl rfl rfl rfl)) rfl rfl rfl ?_) | (refine WQ.stepE (OkP.nbool_t (fun e => hyz ((ColD.inj _ _).1 e)) (ok_neqF (us := y.sca) (vs := z.sca) [.s, .i .i64, .i .i64, .i .i64, .i .i64, .i .i64, .i .i64] (by kernel_rfl) rfl rfl rfl rfl)) rfl rfl rfl ?_)))
    all_goals (first | (refine Br.keep ?_) | (refine WQ.nil ?_))
    all_goals (refine Gn ?_)
    all_goals (first | (refine Br.keep ?_) | (refine Gs [(2, _), (3, _), (6, _), (108, _)] ?_))
    all_goals (first | (refine Br.keep ?_) | (refine goC 5 6 ?_ ?_ <;> first | exact ⟨⟩ | refine Hb.mk fun hb => ?_ | skip))
    all_goals (first | (fail_if_success refine goB 5 ?_) | (
    refine goB 5 ?_
    all_goals (refine WC.sr ?_)
    all_goals (refine Go ?_)
    all_goals (refine Gs [(4, _)] ?_)
    all_goals (refine Gt ?_)
    all_goals (first
                | (refine ⟨⟨false, rfl, ⟨fun z => (by cases z), fun z => ?_⟩⟩, hx⟩
                   exfalso
                   simp only [Bk.pl, Prod.mk.injEq, true_and] at z
                   obtain ⟨z8, z9, z10, z11⟩ := z
                   first | exact ho z8 | exact hr z10 | exact hyz (by subst z9; rw [hy] at hz; exact Option.some.inj hz) | exact hyw (by subst z11; rw [hy] at hz; exact Option.some.inj hz) | (subst z9; subst z11; omega))
                | (refine ⟨⟨true, rfl, ⟨fun _ => ?_, fun _ => rfl⟩⟩, hx⟩
                   have hff : f1 = f2 := (by rw [List.take_of_length_le (by omega), List.take_of_length_le (by omega)] at hm; exact hm)
                   simp [Bk.pl, ho, hr, hcc, hff]))
    skip))
    all_goals (first | (fail_if_success refine goB 6 ?_) | (
    refine goB 6 ?_
    all_goals (refine WC.skip ?_)
    skip))
    all_goals (refine Gn ?_)
    all_goals (first | (refine Br.keep ?_) | (refine WC.region ?_))
    all_goals (refine Go ?_)
    all_goals (first | (refine Br.keep ?_) | (exact ⟨k + 1, ⟨rfl, rfl, rfl, trivial⟩, (by exact ⟨rfl, by omega, hlC, hlF, by rw [List.take_add_one, List.take_add_one, hn, hy, hz, hyz]⟩), (by omega)⟩))
    all_goals (try (refine Br.mk (i := 1000) ?_))
    all_goals (refine Gn ?_)
    all_goals (refine WC.seq ?_)
    all_goals (refine WC.sr ?_)
    all_goals (refine Go ?_)
    all_goals (refine WC.block ?_)
    -- loop 1: slots that turn [7], that stay [2, 3]
    all_goals (refine WC.loopG (X := Nat) (fun x => ([(7, In (x : Int))] : Fr)) [(2, _), (3, _)] (fun k h' => h' = h2 ∧ k ≤ f1.length ∧ f1.length = f2.length ∧ f1.take k = f2.take k) (fun k => f1.length - k) (0) ⟨rfl, rfl, rfl, trivial⟩ (by exact ⟨rfl, Nat.zero_le _, hlF, by simp⟩) ?_)
    all_goals (have hcc : c1 = c2 := (by rw [List.take_of_length_le (by omega), List.take_of_length_le (by omega)] at hn; exact hn)
               rintro j h9 ⟨hz, hj, hlF, hm⟩
               subst h9)
    all_goals (refine WC.sub [(7, _), (2, _), (3, _)] ⟨rfl, rfl, rfl, trivial⟩ ?_)
    all_goals (refine WC.seq ?_)
    all_goals (refine WC.sr ?_)
    all_goals (refine Go ?_)
    all_goals (refine Ld ?_)
    all_goals (refine Go ?_)
    all_goals (refine Gs [(2, _), (3, _), (7, _), (113, _)] ?_)
    all_goals (refine goC 7 8 ?_ ?_ <;> first | exact ⟨⟩ | refine Hb.mk fun hb => ?_ | skip)
    all_goals (first | (fail_if_success refine goB 7 ?_) | (
    refine goB 7 ?_
    all_goals (refine WC.skip ?_)
    skip))
    all_goals (first | (fail_if_success refine goB 8 ?_) | (
    refine goB 8 ?_
    all_goals (refine WC.exit ?_)
    all_goals (repeat' (with_reducible first | refine thenP_x ?_ | refine blockP_miss rfl ?_ | refine blockP_hit ?_ | refine blockP_n ?_ | refine thenP_n ?_))
    all_goals (refine Br.out (i := 1002) ?_)
    skip))
    all_goals (refine Gn ?_)
    all_goals (first | (refine Br.keep ?_) | (refine WC.seq ?_))
    all_goals (first | (refine Br.keep ?_) | (refine WC.block ?_))
    all_goals (first | (refine Br.keep ?_) | (refine WC.seq ?_))
    all_goals (first
                 | (refine Br.keep ?_)
                 | (obtain ⟨g, o, hA, hbL, hat⟩ := Rd.at_ (af.ext0 hx) (by omega)
                    obtain ⟨g2, o2, hB, hbL2, hat2⟩ := Rd.at_ (bf.ext0 hx) (by omega)
                    obtain ⟨y, hy⟩ : ∃ y, f1[j]? = some y := ⟨_, List.getElem?_eq_getElem (by omega)⟩
                    obtain ⟨z, hz⟩ : ∃ y, f2[j]? = some y := ⟨_, List.getElem?_eq_getElem (by omega)⟩
                    have at1 : At _ g (o + j * 2) y.cells := At.elem FieldD.len hat hy
                    have at2 : At _ g2 (o2 + j * 2) z.cells := At.elem FieldD.len hat2 hz
                    by_cases hyw : y = z))
    all_goals (first | (refine Br.keep ?_) | (refine WC.drawE fol (by kernel_rfl) ?_))
    all_goals (first | (refine Br.keep ?_) | (refine WQ.stepE (ok_fieldAddr rfl Tryz.underlying28 rfl (fun w => Tryz.sizeOf26 w)) rfl rfl rfl ?_))
    all_goals (first | (refine Br.keep ?_) | (refine WQ.stepE (ok_load (fun w => Tryz.isAgg26 w) rfl (by first | assumption | exact cell_blk (by assumption) rfl)) rfl rfl rfl ?_))
    all_goals (first | (refine Br.keep ?_) | (refine WQ.stepE (ok_move rfl) rfl rfl rfl ?_))
    all_goals (first | (refine Br.keep ?_) | (refine WQ.stepE (ok_idxAddrA Tryz.underlying26 (fun w => Tryz.sizeOf266 w) rfl rfl rfl (by omega) (by first | rfl | assumption)) rfl rfl rfl ?_))
    all_goals (first | (refine Br.keep ?_) | (refine WQ.stepE (ok_loadN (fun w => Tryz.isAgg266 w) (fun w => Tryz.sizeOf266 w) rfl rfl (by assumption)) rfl rfl rfl ?_))
    all_goals (first | (refine Br.keep ?_) | (refine WQ.stepE (ok_fieldAddr rfl Tryz.underlying28 rfl (fun w => Tryz.sizeOf26 w)) rfl rfl rfl ?_))
    all_goals (first | (refine Br.keep ?_) | (refine WQ.stepE (ok_load (fun w => Tryz.isAgg26 w) rfl (by first | assumption | exact cell_blk (by assumption) rfl)) rfl rfl rfl ?_))
    all_goals (first | (refine Br.keep ?_) | (refine WQ.stepE (ok_move rfl) rfl rfl rfl ?_))
    all_goals (first | (refine Br.keep ?_) | (refine WQ.stepE (ok_idxAddrA Tryz.underlying26 (fun w => Tryz.sizeOf266 w) rfl rfl rfl (by omega) (by first | rfl | assumption)) rfl rfl rfl ?_))
    all_goals (first | (refine Br.keep ?_) | (refine WQ.stepE (ok_loadN (fun w => Tryz.isAgg266 w) (fun w => Tryz.sizeOf266 w) rfl rfl (by assumption)) rfl rfl rfl ?_))
    all_goals (first | (refine Br.keep ?_) | (first | (refine WQ.stepE (OkP.nbool_f (congrArg (·.sca) hyw) (ok_neqF (us := y.sca) (vs := z.sca) [.i .u8, .s] (by kernel_rfl) rfl rfl rfl rfl)) rfl rfl rfl ?_) | (refine WQ.stepE (OkP.nbool_t (fun e => hyw ((FieldD.inj _ _).1 e)) (ok_neqF (us := y.sca) (vs := z.sca) [.i .u8, .s] (by kernel_rfl) rfl rfl rfl rfl)) rfl rfl rfl ?_)))
    all_goals (first | (refine Br.keep ?_) | (refine WQ.nil ?_))
    all_goals (refine Gn ?_)
    all_goals (first | (refine Br.keep ?_) | (refine Gs [(2, _), (3, _), (7, _), (126, _)] ?_))
    all_goals (first | (refine Br.keep ?_) | (refine goC 9 10 ?_ ?_ <;> first | exact ⟨⟩ | refine Hb.mk fun hb => ?_ | skip))
    all_goals (first | (fail_if_success refine goB 9 ?_) | (
    refine goB 9 ?_
    all_goals (refine WC.sr ?_)
    all_goals (refine Go ?_)
    all_goals (refine Gs [(4, _)] ?_)
    all_goals (refine Gt ?_)
    all_goals (first
                | (refine ⟨⟨false, rfl, ⟨fun z => (by cases z), fun z => ?_⟩⟩, hx⟩
                   exfalso
                   simp only [Bk.pl, Prod.mk.injEq, true_and] at z
                   obtain ⟨z8, z9, z10, z11⟩ := z
                   first | exact ho z8 | exact hr z10 | exact hyz (by subst z9; rw [hy] at hz; exact Option.some.inj hz) | exact hyw (by subst z11; rw [hy] at hz; exact Option.some.inj hz) | (subst z9; subst z11; omega))
                | (refine ⟨⟨true, rfl, ⟨fun _ => ?_, fun _ => rfl⟩⟩, hx⟩
                   have hff : f1 = f2 := (by rw [List.take_of_length_le (by omega), List.take_of_length_le (by omega)] at hm; exact hm)
                   simp [Bk.pl, ho, hr, hcc, hff]))
    skip))
    all_goals (first | (fail_if_success refine goB 10 ?_) | (
    refine goB 10 ?_
    all_goals (refine WC.skip ?_)
    skip))
    all_goals (refine Gn ?_)
    all_goals (first | (refine Br.keep ?_) | (refine WC.region ?_))
    all_goals (refine Go ?_)
    all_goals (first | (refine Br.keep ?_) | (exact ⟨j + 1, ⟨rfl, rfl, rfl, trivial⟩, (by exact ⟨rfl, by omega, hlF, by rw [List.take_add_one, List.take_add_one, hm, hy, hz, hyw]⟩), (by omega)⟩))
    all_goals (try (refine Br.mk (i := 1002) ?_))
    all_goals (refine Gn ?_)
    all_goals (refine Gs [] ?_)
    all_goals (refine WC.sr ?_)
    all_goals (refine Go ?_)
    all_goals (refine Gt ?_)
    all_goals (first
                | (refine ⟨⟨false, rfl, ⟨fun z => (by cases z), fun z => ?_⟩⟩, hx⟩
                   exfalso
                   simp only [Bk.pl, Prod.mk.injEq, true_and] at z
                   obtain ⟨z8, z9, z10, z11⟩ := z
                   first | exact ho z8 | exact hr z10 | exact hyz (by subst z9; rw [hy] at hz; exact Option.some.inj hz) | exact hyw (by subst z11; rw [hy] at hz; exact Option.some.inj hz) | (subst z9; subst z11; omega))
                | (refine ⟨⟨true, rfl, ⟨fun _ => ?_, fun _ => rfl⟩⟩, hx⟩
                   have hff : f1 = f2 := (by rw [List.take_of_length_le (by omega), List.take_of_length_le (by omega)] at hm; exact hm)
                   simp [Bk.pl, ho, hr, hcc, hff]))
  all_goals
    refine calls [(0, _), (1, _)] Tryz.func157 rfl Tryz.ntmps157 rfl ⟨rfl, rfl, trivial⟩ ?_
    all_goals (refine WC.sr ?_)
    all_goals (refine WL.stepR (okE_box rfl) rfl rfl rfl ?_
               rintro _ h1 ⟨b1, rfl, hg1, hb1, hx1⟩)
    all_goals (refine WL.stepR (okE_box rfl) rfl rfl rfl ?_
               rintro _ h2 ⟨b2, rfl, hg2, hb2, hx2⟩)
    all_goals (have hb1' := hx2.obj hb1 nos
               have hx := hx1.trans hx2)
    all_goals (refine Go ?_)
    all_goals (refine WC.sr ?_)
    all_goals (refine Go ?_)
    all_goals (refine Ld ?_)
    all_goals (refine Go ?_)
    all_goals (refine Ld ?_)
    all_goals (refine Go ?_)
    all_goals (refine goP 13 ?_ ?_ <;> first | exact ⟨⟩ | refine Hb.mk fun hb => ?_ | skip)
    all_goals (refine Gg ?_)
    all_goals (first | (refine WL.pass rfl rfl rfl ?_) | (refine Ld ?_))
    all_goals (refine Gg ?_)
    all_goals (first | (refine WL.pass rfl rfl rfl ?_) | (refine Ld ?_))
    all_goals (refine Gg ?_)
    all_goals (refine Go ?_)
    all_goals (refine goP 20 ?_ ?_ <;> first | exact ⟨⟩ | refine Hb.mk fun hb => ?_ | skip)
    all_goals (refine Gg ?_)
    all_goals (first | (refine WL.pass rfl rfl rfl ?_) | (refine Ld ?_))
    all_goals (refine Gg ?_)
    all_goals (first | (refine WL.pass rfl rfl rfl ?_) | (refine Ld ?_))
    all_goals (refine Gg ?_)
    all_goals (refine Go ?_)
    all_goals (refine goP 27 ?_ ?_ <;> first | exact ⟨⟩ | refine Hb.mk fun hb => ?_ | skip)
    all_goals (refine Gg ?_)
    all_goals (first | (refine WL.pass rfl rfl rfl ?_) | (refine Ld ?_))
    all_goals (refine Gg ?_)
    all_goals (first | (refine WL.pass rfl rfl rfl ?_) | (refine Ld ?_))
    all_goals (refine Gg ?_)
    all_goals (refine Go ?_)
    all_goals (refine goP 34 ?_ ?_ <;> first | exact ⟨⟩ | refine Hb.mk fun hb => ?_ | skip)
    all_goals (refine Gg ?_)
    all_goals (first | (refine WL.pass rfl rfl rfl ?_) | (refine Ld ?_))
    all_goals (refine Gg ?_)
    all_goals (first | (refine WL.pass rfl rfl rfl ?_) | (refine Ld ?_))
    all_goals (refine Gg ?_)
    all_goals (refine Go ?_)
    all_goals (refine goP 41 ?_ ?_ <;> first | exact ⟨⟩ | refine Hb.mk fun hb => ?_ | skip)
    all_goals (refine Gg ?_)
    all_goals (first | (refine WL.pass rfl rfl rfl ?_) | (refine Ld ?_))
    all_goals (refine Gg ?_)
    all_goals (first | (refine WL.pass rfl rfl rfl ?_) | (refine Ld ?_))
    all_goals (refine Gg ?_)
    all_goals (refine Go ?_)
    all_goals (refine goP 48 ?_ ?_ <;> first | exact ⟨⟩ | refine Hb.mk fun hb => ?_ | skip)
    all_goals (refine Gg ?_)
    all_goals (first | (refine WL.pass rfl rfl rfl ?_) | (refine Ld ?_))
    all_goals (refine Gg ?_)
    all_goals (first | (refine WL.pass rfl rfl rfl ?_) | (refine Ld ?_))
    all_goals (refine Gg ?_)
    all_goals (refine Go ?_)
    all_goals (refine Gs [(2, _), (3, _), (5, _)] ?_)
    all_goals (refine WC.seq ?_)
    all_goals (refine WC.sr ?_)
    all_goals (refine Go ?_)
    all_goals (refine goP 57 ?_ ?_ <;> first | exact ⟨⟩ | refine Hb.mk fun hb => ?_ | skip)
    all_goals (refine Gg ?_)
    all_goals (first | (refine WL.pass rfl rfl rfl ?_) | (refine Ld ?_))
    all_goals (refine Gg ?_)
    all_goals (first | (refine WL.pass rfl rfl rfl ?_) | (refine Ld ?_))
    all_goals (first
                 | (refine WL.pass rfl rfl rfl ?_)
                 | (refine WL.call (vs := [_, _]) rfl (fun a w => Tryz.call247 a w) rfl ((ints_ref l1 l2 (ao.ext0 hx) (bo.ext0 hx) hlo hmo).dec) rfl rfl rfl ?_
                    rintro _ h9 ⟨⟨rfl, ho⟩ | ⟨rfl, ho⟩, hz9⟩
                    all_goals subst h9))
    all_goals (refine Gg ?_)
    all_goals (refine Go ?_)
    all_goals (refine goP 65 ?_ ?_ <;> first | exact ⟨⟩ | refine Hb.mk fun hb => ?_ | skip)
    all_goals (refine Gg ?_)
    all_goals (first | (refine WL.pass rfl rfl rfl ?_) | (refine Ld ?_))
    all_goals (refine Gg ?_)
    all_goals (first | (refine WL.pass rfl rfl rfl ?_) | (refine Ld ?_))
    all_goals (first
                 | (refine WL.pass rfl rfl rfl ?_)
                 | (refine WL.call (vs := [_, _]) rfl (fun a w => Tryz.call248 a w) rfl ((cells_ref r1 r2 (ar.ext0 hx) (br.ext0 hx)).dec) rfl rfl rfl ?_
                    rintro _ h9 ⟨⟨rfl, hr⟩ | ⟨rfl, hr⟩, hz9⟩
                    all_goals subst h9))
    all_goals (refine Gg ?_)
    all_goals (refine Go ?_)
    all_goals (refine goP 73 ?_ ?_ <;> first | exact ⟨⟩ | refine Hb.mk fun hb => ?_ | skip)
    all_goals (refine Gg ?_)
    all_goals (first | (refine WL.pass rfl rfl rfl ?_) | (refine Ld ?_))
    all_goals (refine Gg ?_)
    all_goals (first | (refine WL.pass rfl rfl rfl ?_) | (refine Ld ?_))
    all_goals (refine Gg ?_)
    all_goals (refine Go ?_)
    all_goals (refine goP 82 ?_ ?_ <;> first | exact ⟨⟩ | refine Hb.mk fun hb => ?_ | skip)
    all_goals (refine Gg ?_)
    all_goals (first | (refine WL.pass rfl rfl rfl ?_) | (refine Ld ?_))
    all_goals (refine Gg ?_)
    all_goals (first | (refine WL.pass rfl rfl rfl ?_) | (refine Ld ?_))
    all_goals (refine Gg ?_)
    all_goals (refine Go ?_)
    all_goals (refine Gs [(2, _), (3, _), (90, _)] ?_)
    all_goals (refine goC 1 2 ?_ ?_ <;> first | exact ⟨⟩ | refine Hb.mk fun hb => ?_ | skip)
    all_goals (first | (fail_if_success refine goB 1 ?_) | (
    refine goB 1 ?_
    all_goals (refine WC.sr ?_)
    all_goals (refine Go ?_)
    all_goals (refine Gt ?_)
    all_goals (refine ⟨⟨false, rfl, ⟨fun z => (by cases z), fun z => ?_⟩⟩, hx⟩
               exfalso
               simp only [Bk.pl, Prod.mk.injEq] at z
               obtain ⟨z1, z2, z3, z4, z5, z6, z7, z8, z9, z10, z11⟩ := z
               first | exact q z1 | exact q z2 | exact q z3 | exact q z4 | exact q z5 | exact q z6 | exact q z7)
    skip))
    all_goals (first | (fail_if_success refine goB 2 ?_) | (
    refine goB 2 ?_
    all_goals (refine WC.skip ?_)
    skip))
    all_goals (refine Gn ?_)
    all_goals (refine WC.seq ?_)
    all_goals (refine WC.sr ?_)
    all_goals (refine Go ?_)
    all_goals (refine WC.block ?_)
    -- loop 0: slots that turn [6], that stay [2, 3]
    all_goals (refine WC.loopG (X := Nat) (fun x => ([(6, In (x : Int))] : Fr)) [(2, _), (3, _)] (fun k h' => True) (fun k => 0) (0) ⟨rfl, rfl, rfl, trivial⟩ (by exact ⟨⟩) ?_)
    all_goals (rintro x h1 hI)
    all_goals (refine WC.sub [(6, _), (2, _), (3, _)] ⟨rfl, rfl, rfl, trivial⟩ ?_)
    all_goals (refine WC.seq ?_)
    all_goals (refine WC.sr ?_)
    all_goals (refine Go ?_)
    all_goals (refine Ld ?_)
    all_goals (refine Go ?_)
    all_goals (refine Gs [(2, _), (3, _), (6, _), (95, _)] ?_)
    all_goals (refine goC 3 4 ?_ ?_ <;> first | exact ⟨⟩ | refine Hb.mk fun hb => ?_ | skip)
    all_goals (first | (fail_if_success refine goB 3 ?_) | (
    refine goB 3 ?_
    all_goals (refine WC.skip ?_)
    skip))
    all_goals (first | (fail_if_success refine goB 4 ?_) | (
    refine goB 4 ?_
    all_goals (refine WC.exit ?_)
    all_goals (repeat' (with_reducible first | refine thenP_x ?_ | refine blockP_miss rfl ?_ | refine blockP_hit ?_ | refine blockP_n ?_ | refine thenP_n ?_))
    all_goals (refine Br.out (i := 1000) ?_)
    skip))
    all_goals (refine Gn ?_)
    all_goals (first | (refine Br.keep ?_) | (refine WC.seq ?_))
    all_goals (first | (refine Br.keep ?_) | (refine WC.block ?_))
    all_goals (first | (refine Br.keep ?_) | (refine WC.seq ?_))
    all_goals (first | (refine Br.keep ?_) | (refine WC.drawE fol (by kernel_rfl) ?_))
    all_goals (first | (refine Br.keep ?_) | (refine WQ.stepE (ok_fieldAddr rfl Tryz.underlying28 rfl (fun w => Tryz.sizeOf24 w)) rfl rfl rfl ?_))
    all_goals (first | (refine Br.keep ?_) | (refine WQ.stepE (ok_load (fun w => Tryz.isAgg24 w) rfl (by first | assumption | exact cell_blk (by assumption) rfl)) rfl rfl rfl ?_))
    all_goals (first | (refine Br.keep ?_) | (refine WQ.stepE (ok_move rfl) rfl rfl rfl ?_))
    all_goals (first | (refine Br.keep ?_) | (refine WQ.stepE (ok_idxAddrA Tryz.underlying24 (fun w => Tryz.sizeOf264 w) rfl rfl rfl (by omega) (by first | rfl | assumption)) rfl rfl rfl ?_))
    all_goals (first | (refine Br.keep ?_) | (refine WQ.stepE (ok_loadN (fun w => Tryz.isAgg264 w) (fun w => Tryz.sizeOf264 w) rfl rfl (by assumption)) rfl rfl rfl ?_))
    all_goals (first | (refine Br.keep ?_) | (refine WQ.stepE (ok_fieldAddr rfl Tryz.underlying28 rfl (fun w => Tryz.sizeOf24 w)) rfl rfl rfl ?_))
    all_goals (first | (refine Br.keep ?_) | (refine WQ.stepE (ok_load (fun w => Tryz.isAgg24 w) rfl (by first | assumption | exact cell_blk (by assumption) rfl)) rfl rfl rfl ?_))
    all_goals (first | (refine Br.keep ?_) | (refine WQ.stepE (ok_move rfl) rfl rfl rfl ?_))
    all_goals (first | (refine Br.keep ?_) | (refine WQ.stepE (ok_idxAddrA Tryz.underlying24 (fun w => Tryz.sizeOf264 w) rfl rfl rfl (by omega) (by first | rfl | assumption)) rfl rfl rfl ?_))
    all_goals (first | (refine Br.keep ?_) | (refine WQ.stepE (ok_loadN (fun w => Tryz.isAgg264 w) (fun w => Tryz.sizeOf264 w) rfl rfl (by assumption)) rfl rfl rfl ?_))
    all_goals (first | (refine Br.keep ?_) | (fail "no rule for binOp at 7.10"))
    all_goals (first | (refine Br.keep ?_) | (refine WQ.nil ?_))
    all_goals (refine Gn ?_)
    all_goals (first | (refine Br.keep ?_) | (refine Gs [(2, _), (3, _), (6, _), (108, _)] ?_))
    all_goals (first | (refine Br.keep ?_) | (refine goC 5 6 ?_ ?_ <;> first | exact ⟨⟩ | refine Hb.mk fun hb => ?_ | skip))
    all_goals (first | (fail_if_success refine goB 5 ?_) | (
    refine goB 5 ?_
    all_goals (refine WC.sr ?_)
    all_goals (refine Go ?_)
    all_goals (refine Gs [(4, _)] ?_)
    all_goals (refine Gt ?_)
    all_goals (refine ⟨⟨false, rfl, ⟨fun z => (by cases z), fun z => ?_⟩⟩, hx⟩
               exfalso
               simp only [Bk.pl, Prod.mk.injEq] at z
               obtain ⟨z1, z2, z3, z4, z5, z6, z7, z8, z9, z10, z11⟩ := z
               first | exact q z1 | exact q z2 | exact q z3 | exact q z4 | exact q z5 | exact q z6 | exact q z7)
    skip))
    all_goals (first | (fail_if_success refine goB 6 ?_) | (
    refine goB 6 ?_
    all_goals (refine WC.skip ?_)
    skip))
    all_goals (refine Gn ?_)
    all_goals (first | (refine Br.keep ?_) | (refine WC.region ?_))
    all_goals (refine Go ?_)
    all_goals (first | (refine Br.keep ?_) | (exact ⟨None, ⟨rfl, rfl, rfl, trivial⟩, (by exact ⟨⟩), (by simp; omega)⟩))
    all_goals (try (refine Br.mk (i := 1000) ?_))
    all_goals (refine Gn ?_)
    all_goals (refine WC.seq ?_)
    all_goals (refine WC.sr ?_)
    all_goals (refine Go ?_)
    all_goals (refine WC.block ?_)
    -- loop 1: slots that turn [7], that stay [2, 3]
    all_goals (refine WC.loopG (X := Nat) (fun x => ([(7, In (x : Int))] : Fr)) [(2, _), (3, _)] (fun k h' => True) (fun k => 0) (0) ⟨rfl, rfl, rfl, trivial⟩ (by exact ⟨⟩) ?_)
    all_goals (rintro x h1 hI)
    all_goals (refine WC.sub [(7, _), (2, _), (3, _)] ⟨rfl, rfl, rfl, trivial⟩ ?_)
    all_goals (refine WC.seq ?_)
    all_goals (refine WC.sr ?_)
    all_goals (refine Go ?_)
    all_goals (refine Ld ?_)
    all_goals (refine Go ?_)
    all_goals (refine Gs [(2, _), (3, _), (7, _), (113, _)] ?_)
    all_goals (refine goC 7 8 ?_ ?_ <;> first | exact ⟨⟩ | refine Hb.mk fun hb => ?_ | skip)
    all_goals (first | (fail_if_success refine goB 7 ?_) | (
    refine goB 7 ?_
    all_goals (refine WC.skip ?_)
    skip))
    all_goals (first | (fail_if_success refine goB 8 ?_) | (
    refine goB 8 ?_
    all_goals (refine WC.exit ?_)
    all_goals (repeat' (with_reducible first | refine thenP_x ?_ | refine blockP_miss rfl ?_ | refine blockP_hit ?_ | refine blockP_n ?_ | refine thenP_n ?_))
    all_goals (refine Br.out (i := 1002) ?_)
    skip))
    all_goals (refine Gn ?_)
    all_goals (first | (refine Br.keep ?_) | (refine WC.seq ?_))
    all_goals (first | (refine Br.keep ?_) | (refine WC.block ?_))
    all_goals (first | (refine Br.keep ?_) | (refine WC.seq ?_))
    all_goals (first | (refine Br.keep ?_) | (refine WC.drawE fol (by kernel_rfl) ?_))
    all_goals (first | (refine Br.keep ?_) | (refine WQ.stepE (ok_fieldAddr rfl Tryz.underlying28 rfl (fun w => Tryz.sizeOf26 w)) rfl rfl rfl ?_))
    all_goals (first | (refine Br.keep ?_) | (refine WQ.stepE (ok_load (fun w => Tryz.isAgg26 w) rfl (by first | assumption | exact cell_blk (by assumption) rfl)) rfl rfl rfl ?_))
    all_goals (first | (refine Br.keep ?_) | (refine WQ.stepE (ok_move rfl) rfl rfl rfl ?_))
    all_goals (first | (refine Br.keep ?_) | (refine WQ.stepE (ok_idxAddrA Tryz.underlying26 (fun w => Tryz.sizeOf266 w) rfl rfl rfl (by omega) (by first | rfl | assumption)) rfl rfl rfl ?_))
    all_goals (first | (refine Br.keep ?_) | (refine WQ.stepE (ok_loadN (fun w => Tryz.isAgg266 w) (fun w => Tryz.sizeOf266 w) rfl rfl (by assumption)) rfl rfl rfl ?_))
    all_goals (first | (refine Br.keep ?_) | (refine WQ.stepE (ok_fieldAddr rfl Tryz.underlying28 rfl (fun w => Tryz.sizeOf26 w)) rfl rfl rfl ?_))
    all_goals (first | (refine Br.keep ?_) | (refine WQ.stepE (ok_load (fun w => Tryz.isAgg26 w) rfl (by first | assumption | exact cell_blk (by assumption) rfl)) rfl rfl rfl ?_))
    all_goals (first | (refine Br.keep ?_) | (refine WQ.stepE (ok_move rfl) rfl rfl rfl ?_))
    all_goals (first | (refine Br.keep ?_) | (refine WQ.stepE (ok_idxAddrA Tryz.underlying26 (fun w => Tryz.sizeOf266 w) rfl rfl rfl (by omega) (by first | rfl | assumption)) rfl rfl rfl ?_))
    all_goals (first | (refine Br.keep ?_) | (refine WQ.stepE (ok_loadN (fun w => Tryz.isAgg266 w) (fun w => Tryz.sizeOf266 w) rfl rfl (by assumption)) rfl rfl rfl ?_))
    all_goals (first | (refine Br.keep ?_) | (fail "no rule for binOp at 12.10"))
    all_goals (first | (refine Br.keep ?_) | (refine WQ.nil ?_))
    all_goals (refine Gn ?_)
    all_goals (first | (refine Br.keep ?_) | (refine Gs [(2, _), (3, _), (7, _), (126, _)] ?_))
    all_goals (first | (refine Br.keep ?_) | (refine goC 9 10 ?_ ?_ <;> first | exact ⟨⟩ | refine Hb.mk fun hb => ?_ | skip))
    all_goals (first | (fail_if_success refine goB 9 ?_) | (
    refine goB 9 ?_
    all_goals (refine WC.sr ?_)
    all_goals (refine Go ?_)
    all_goals (refine Gs [(4, _)] ?_)
    all_goals (refine Gt ?_)
    all_goals (refine ⟨⟨false, rfl, ⟨fun z => (by cases z), fun z => ?_⟩⟩, hx⟩
               exfalso
               simp only [Bk.pl, Prod.mk.injEq] at z
               obtain ⟨z1, z2, z3, z4, z5, z6, z7, z8, z9, z10, z11⟩ := z
               first | exact q z1 | exact q z2 | exact q z3 | exact q z4 | exact q z5 | exact q z6 | exact q z7)
    skip))
    all_goals (first | (fail_if_success refine goB 10 ?_) | (
    refine goB 10 ?_
    all_goals (refine WC.skip ?_)
    skip))
    all_goals (refine Gn ?_)
    all_goals (first | (refine Br.keep ?_) | (refine WC.region ?_))
    all_goals (refine Go ?_)
    all_goals (first | (refine Br.keep ?_) | (exact ⟨None, ⟨rfl, rfl, rfl, trivial⟩, (by exact ⟨⟩), (by simp; omega)⟩))
    all_goals (try (refine Br.mk (i := 1002) ?_))
    all_goals (refine Gn ?_)
    all_goals (refine Gs [] ?_)
    all_goals (refine WC.sr ?_)
    all_goals (refine Go ?_)
    all_goals (refine Gt ?_)
    all_goals (refine ⟨⟨false, rfl, ⟨fun z => (by cases z), fun z => ?_⟩⟩, hx⟩
               exfalso
               simp only [Bk.pl, Prod.mk.injEq] at z
               obtain ⟨z1, z2, z3, z4, z5, z6, z7, z8, z9, z10, z11⟩ := z
               first | exact q z1 | exact q z2 | exact q z3 | exact q z4 | exact q z5 | exact q z6 | exact q z7)
end Go.Proofs.YtbglafgndaekoaaGreatDoor


/-
  REPLIES (layer 7): whether a reply may be, of any that is short: back.Check and the document's.
-/
namespace Go.Proofs.YtbglafgndaekoaaGreatDoor
open Go Go.RK

/-- Short, with room for names that were replaced. -/
structure Bk.mid (b : Bk) : Prop where
  oids : b.oids.length ≤ 100
  cols : b.cols.length ≤ 100
  row : b.row.length ≤ 100
  fields : b.fields.length ≤ 100
  names : ∀ c ∈ b.cols, c.nm.length ≤ 1000
  cells : ∀ c ∈ b.row, c.bytes.length ≤ 1000
  texts : ∀ f ∈ b.fields, f.t.length ≤ 200000
  tag : b.tag.length ≤ 1000
  name : b.name.length ≤ 1000
  value : b.value.length ≤ 1000
instance (b : Bk) : Decidable b.stOk := by unfold Bk.stOk; exact inferInstance
theorem st_cases (k st : Int) : k ≠ 90 ∨ (k = 90 ∧ st = 73) ∨ (k = 90 ∧ st = 84) ∨ (k = 90 ∧ st = 69) ∨ (k = 90 ∧ st ≠ 73 ∧ st ≠ 84 ∧ st ≠ 69) := by omega
theorem may_kind {k : Int} (h0 : 0 ≤ k ∧ k ≤ 255) : (∃ c : UInt8, Value.int .u8 k = By c ∧ kindsB.contains c = true) ↔ KnownK k := by
  obtain ⟨c, rfl⟩ : ∃ c : UInt8, k = (c.toNat : Int) := ⟨UInt8.ofNat k.toNat, by rw [UInt8.toNat_ofNat']; omega⟩
  rw [← known_iff]
  constructor
  · rintro ⟨d, e, hd⟩
    have : c = d := by simp only [By, Value.int.injEq, true_and] at e; exact UInt8.toNat_inj.1 (by omega)
    rw [this]; exact hd
  · exact fun hd => ⟨c, rfl, hd⟩
end Go.Proofs.YtbglafgndaekoaaGreatDoor


/-
  REPLIES (layer 7): whether a reply may be, as the document finds it.
-/
namespace Go.Proofs.YtbglafgndaekoaaGreatDoor
open Go Go.RK

set_option maxHeartbeats 2000000 in
set_option maxRecDepth 100000 in
theorem between07 {h : Heap} {v : Value} (l : List Int) (hr : Rd h v 1 l.length (ints l)) (hm : l.length ≤ 65535) :
    CallsH Tryz.prog 153 ⟨[v, In 0, In 4294967295]⟩ h fun u h' => u = .bool (decide (∀ n ∈ l, 0 ≤ n ∧ n ≤ 4294967295)) ∧ h' = h := by
  obtain ⟨A, c, rfl, _⟩ := id hr
  refine calls [(0, _), (1, _), (2, _)] Tryz.func153 rfl Tryz.ntmps153 rfl ⟨rfl, rfl, rfl, trivial⟩ ?_
  all_goals (refine WC.sr ?_)
  all_goals (refine Go ?_)
  all_goals (refine WC.seq ?_)
  all_goals (refine WC.sr ?_)
  all_goals (refine Go ?_)
  all_goals (refine goC 1 2 ?_ ?_ <;> first | exact ⟨⟩ | refine Hb.mk fun hb => ?_ | skip)
  all_goals (first | (fail_if_success refine goB 1 ?_) | (
  refine goB 1 ?_
  all_goals (refine WC.sr ?_)
  all_goals (refine Go ?_)
  all_goals (refine Gs [(6, _)] ?_)
  all_goals (refine Gt ?_)
  all_goals (first
              | exact ⟨congrArg Value.bool (decide_eq_true (by rw [List.take_of_length_le (by omega)] at hn; exact hn)).symm, rfl⟩
              | exact ⟨congrArg Value.bool (decide_eq_false (fun z => by have := z _ (List.mem_of_getElem? hy); omega)).symm, rfl⟩)
  skip))
  all_goals (first | (fail_if_success refine goB 2 ?_) | (
  refine goB 2 ?_
  all_goals (refine WC.skip ?_)
  skip))
  all_goals (refine Gn ?_)
  all_goals (refine Gs [(0, _), (1, _), (2, _)] ?_)
  all_goals (refine WC.seq ?_)
  all_goals (refine WC.sr ?_)
  all_goals (refine Go ?_)
  all_goals (refine WC.block ?_)
  -- loop 0: slots that turn [7], that stay [0, 1, 2]
  all_goals (refine WC.loopG (X := Nat) (fun x => ([(7, In (x : Int))] : Fr)) [(0, _), (1, _), (2, _)] (fun k h' => h' = h ∧ k ≤ l.length ∧ ∀ n ∈ l.take k, 0 ≤ n ∧ n ≤ 4294967295) (fun k => l.length - k) (0) ⟨rfl, rfl, rfl, rfl, trivial⟩ (by exact ⟨rfl, Nat.zero_le _, by simp⟩) ?_)
  all_goals (rintro k h9 ⟨hz, hk, hn⟩
             subst h9)
  all_goals (refine WC.sub [(7, _), (0, _), (1, _), (2, _)] ⟨rfl, rfl, rfl, rfl, trivial⟩ ?_)
  all_goals (refine WC.seq ?_)
  all_goals (refine WC.sr ?_)
  all_goals (refine Go ?_)
  all_goals (refine goC 3 4 ?_ ?_ <;> first | exact ⟨⟩ | refine Hb.mk fun hb => ?_ | skip)
  all_goals (first | (fail_if_success refine goB 3 ?_) | (
  refine goB 3 ?_
  all_goals (refine WC.skip ?_)
  skip))
  all_goals (first | (fail_if_success refine goB 4 ?_) | (
  refine goB 4 ?_
  all_goals (refine WC.exit ?_)
  all_goals (repeat' (with_reducible first | refine thenP_x ?_ | refine blockP_miss rfl ?_ | refine blockP_hit ?_ | refine blockP_n ?_ | refine thenP_n ?_))
  all_goals (refine Br.out (i := 1000) ?_)
  skip))
  all_goals (refine Gn ?_)
  all_goals (first | (refine Br.keep ?_) | (refine Gs [(0, _), (1, _), (2, _), (7, _)] ?_))
  all_goals (first | (refine Br.keep ?_) | (refine WC.seq ?_))
  all_goals (first | (refine Br.keep ?_) | (refine WC.block ?_))
  all_goals (first | (refine Br.keep ?_) | (refine WC.seq ?_))
  all_goals (first
               | (refine Br.keep ?_)
               | (obtain ⟨bL, oL, hA, hbL, hat⟩ := Rd.at_ hr (by omega)
                  obtain ⟨y, hy⟩ : ∃ y, l[k]? = some y := ⟨_, List.getElem?_eq_getElem (by omega)⟩
                  have hcd : cell h ⟨bL, oL + k * 1, none⟩ = some (In y) := by rw [Nat.mul_one]; exact hat.one (j := k) (by simp [hy])))
  all_goals (first | (refine Br.keep ?_) | (refine WC.region ?_))
  all_goals (refine Go ?_)
  all_goals (first | (refine Br.keep ?_) | (refine WL.step (ok_idxAddrA Tryz.underlying23 (fun w => Tryz.sizeOf3 w) rfl rfl rfl (by omega) (by first | rfl | assumption)) rfl rfl rfl ?_))
  all_goals (first | (refine Br.keep ?_) | (refine WL.ld rfl (by first | exact hcd | assumption | exact cell_blk (by assumption) rfl) rfl rfl rfl ?_))
  all_goals (refine Go ?_)
  all_goals (first | (refine Br.keep ?_) | (refine goP 23 ?_ ?_ <;> first | exact ⟨⟩ | refine Hb.mk fun hb => ?_ | skip))
  all_goals (refine Gg ?_)
  all_goals (first | (refine Br.keep ?_) | (first | (refine WL.pass rfl rfl rfl ?_) | (refine WL.step (ok_idxAddrA Tryz.underlying23 (fun w => Tryz.sizeOf3 w) rfl rfl rfl (by omega) (by first | rfl | assumption)) rfl rfl rfl ?_)))
  all_goals (first | (refine Br.keep ?_) | (first | (refine WL.pass rfl rfl rfl ?_) | (refine WL.ld rfl (by first | exact hcd | assumption | exact cell_blk (by assumption) rfl) rfl rfl rfl ?_)))
  all_goals (refine Gg ?_)
  all_goals (refine Go ?_)
  all_goals (first | (refine Br.keep ?_) | (refine Gs [(0, _), (1, _), (2, _), (7, _), (30, _)] ?_))
  all_goals (first | (refine Br.keep ?_) | (refine goC 5 6 ?_ ?_ <;> first | exact ⟨⟩ | refine Hb.mk fun hb => ?_ | skip))
  all_goals (first | (fail_if_success refine goB 5 ?_) | (
  refine goB 5 ?_
  all_goals (refine WC.sr ?_)
  all_goals (refine Go ?_)
  all_goals (refine Gs [(6, _)] ?_)
  all_goals (refine Gt ?_)
  all_goals (first
              | exact ⟨congrArg Value.bool (decide_eq_true (by rw [List.take_of_length_le (by omega)] at hn; exact hn)).symm, rfl⟩
              | exact ⟨congrArg Value.bool (decide_eq_false (fun z => by have := z _ (List.mem_of_getElem? hy); omega)).symm, rfl⟩)
  skip))
  all_goals (first | (fail_if_success refine goB 6 ?_) | (
  refine goB 6 ?_
  all_goals (refine WC.skip ?_)
  skip))
  all_goals (refine Gn ?_)
  all_goals (first | (refine Br.keep ?_) | (refine WC.region ?_))
  all_goals (refine Go ?_)
  all_goals (first | (refine Br.keep ?_) | (exact ⟨k + 1, ⟨rfl, rfl, rfl, rfl, trivial⟩, (by exact ⟨rfl, by omega, all_take hy hn (by omega)⟩), (by omega)⟩))
  all_goals (try (refine Br.mk (i := 1000) ?_))
  all_goals (refine Gn ?_)
  all_goals (refine Gs [] ?_)
  all_goals (refine WC.sr ?_)
  all_goals (refine Go ?_)
  all_goals (refine Gt ?_)
  all_goals (first
              | exact ⟨congrArg Value.bool (decide_eq_true (by rw [List.take_of_length_le (by omega)] at hn; exact hn)).symm, rfl⟩
              | exact ⟨congrArg Value.bool (decide_eq_false (fun z => by have := z _ (List.mem_of_getElem? hy); omega)).symm, rfl⟩)
end Go.Proofs.YtbglafgndaekoaaGreatDoor


/-
  THE ADDRESS OF AN ARRAY's ENTRY. No program is named here.
-/
namespace Go.RK
open Go

section
variable {P : Program} {f : Fr} {h : Heap} {d : Option Tmp} {ty : TypeId} {pos : String} {af : Array Edge} {g : Option (Nat × Bool)}
end
end Go.RK

/-
  FAULTS (layer 8): fields of messages: found, set, made.
-/
namespace Go.Proofs.YtbglafgndaekoaaGreatDoor
open Go Go.RK

abbrev atP (c : Int) (f : FieldD) : Bool := decide (f.k = c)
def getT (c : Int) (F : List FieldD) : Option (List UInt8) := (F.find? (atP c)).map (·.t)
/-- The first field of a code has another text. -/
def withF (c : Int) (t : List UInt8) (F : List FieldD) : List FieldD := if idxP (atP c) F < 0 then F else F.set (idxP (atP c) F).toNat ⟨c, t⟩
end Go.Proofs.YtbglafgndaekoaaGreatDoor


/-
  FAULT (layer 8): the fields of a fault; a fault as a reply.
-/
namespace Go.Proofs.YtbglafgndaekoaaGreatDoor
open Go Go.RK

def fl4 (s c x : List UInt8) : List FieldD := [⟨83, s⟩, ⟨86, s⟩, ⟨67, c⟩, ⟨77, x⟩]
abbrev nilV : Value := .slice none 0 0
/-- A fault. -/
def eB (v : Value) : List Value := [.int .u8 69, .int .u8 0, St [], St [], St [], In 0, In 0, nilV, nilV, nilV, v]
theorem own_kind {h : Heap} {T : TypeId} {sz n q : Nat} {v : Value} {xs : List Value} (ho : Own h v T sz n xs) (hq : v.ownBlock = some q) : ∃ cur, h[q]? = some (.cells cur T (0, 0)) := by
  obtain ⟨_, ⟨e1, _⟩ | ⟨g, cap, cur, e1, hg, _⟩⟩ := ho
  · rw [e1] at hq; cases hq
  · rw [e1] at hq
    have : g = q := by simpa [Value.ownBlock] using hq
    exact ⟨cur, this ▸ hg⟩
end Go.Proofs.YtbglafgndaekoaaGreatDoor


/-
  LISTS SORTED BY A TEXT, AND MAPS, in plain Lean: what is set, let go and found is alike in both; names sorted.
-/
namespace Go.Proofs.YtbglafgndaekoaaGreatDoor
open Go Go.RK

theorem lt_tri {a b : List UInt8} (h1 : ¬ a < b) (h2 : ¬ b < a) : a = b := List.le_antisymm (List.not_lt.1 h2) (List.not_lt.1 h1)

section
variable {α β : Type}
/-- Rising, each key once. -/
def Rise (L : List (List UInt8 × α)) : Prop := L.Pairwise fun a b => a.1 < b.1
def setL : List (List UInt8 × α) → List UInt8 → α → List (List UInt8 × α)
  | [], n, v => [(n, v)]
  | (m, w) :: L, n, v => if m < n then (m, w) :: setL L n v else if m = n then (n, v) :: L else (n, v) :: (m, w) :: L
def delL (L : List (List UInt8 × α)) (n : List UInt8) : List (List UInt8 × α) := L.filter fun p => decide (p.1 ≠ n)
def getL (L : List (List UInt8 × α)) (n : List UInt8) : Option α := (L.find? fun p => decide (p.1 = n)).map (·.2)
theorem Rise.nd {L : List (List UInt8 × α)} (h : Rise L) : (L.map (·.1)).Nodup := by
  refine List.pairwise_map.2 (h.imp fun {a b} hab e => ?_)
  rw [e] at hab
  exact List.lt_irrefl _ hab
theorem mem_setL {L : List (List UInt8 × α)} {n : List UInt8} {v : α} {p : List UInt8 × α} (h : p ∈ setL L n v) : p = (n, v) ∨ p ∈ L := by
  induction L with
  | nil => simpa [setL] using h
  | cons a L ih =>
    obtain ⟨m, w⟩ := a
    unfold setL at h
    split at h
    · rcases List.mem_cons.1 h with rfl | h
      · exact .inr List.mem_cons_self
      · exact (ih h).imp id (List.mem_cons_of_mem _)
    · split at h
      · rcases List.mem_cons.1 h with rfl | h
        · exact .inl rfl
        · exact .inr (List.mem_cons_of_mem _ h)
      · rcases List.mem_cons.1 h with rfl | h
        · exact .inl rfl
        · exact .inr h
theorem Rise.set {L : List (List UInt8 × α)} (h : Rise L) (n : List UInt8) (v : α) : Rise (setL L n v) := by
  induction L with
  | nil => simp [setL, Rise]
  | cons a L ih =>
    obtain ⟨m, w⟩ := a
    obtain ⟨h1, h2⟩ := List.pairwise_cons.1 h
    unfold setL
    split
    · rename_i hlt
      refine List.pairwise_cons.2 ⟨fun p hp => ?_, ih h2⟩
      rcases mem_setL hp with rfl | hp
      · exact hlt
      · exact h1 p hp
    · rename_i hlt
      split
      · rename_i he
        subst he
        exact List.pairwise_cons.2 ⟨h1, h2⟩
      · rename_i hne
        have hnm : n < m := by
          rcases Decidable.em (n < m) with h | h
          · exact h
          · exact absurd (lt_tri hlt h) hne
        refine List.pairwise_cons.2 ⟨fun p hp => ?_, h⟩
        rcases List.mem_cons.1 hp with rfl | hp
        · exact hnm
        · exact List.lt_trans hnm (h1 p hp)
/-! ### maps -/
def encE (f : α → Value) (E : List (List UInt8 × α)) : List (List UInt8 × Value) := E.map fun p => (p.1, f p.2)
/-- What the map has behind a set. -/
def putE (E : List (List UInt8 × α)) (n : List UInt8) (v : α) : List (List UInt8 × α) := if (getL E n).isSome = true then E.map (fun p => if p.1 = n then (n, v) else p) else E ++ [(n, v)]
/-- The names of a list, sorted. -/
def srtS (l : List (List UInt8)) : List (List UInt8) := l.mergeSort fun x y => decide (x ≤ y)
end
end Go.Proofs.YtbglafgndaekoaaGreatDoor


/-
  LISTS RISING BY A TEXT: where one is set, let go; rows of structs: a cell set, a part taken.
-/
namespace Go.Proofs.YtbglafgndaekoaaGreatDoor
open Go Go.RK

section
variable {α : Type} {F : α → List Value} {sz : Nat} (hF : ∀ a, (F a).length = sz)
include hF
end
end Go.Proofs.YtbglafgndaekoaaGreatDoor


/-
  SHIFTS; A MAP's ENTRY SET IN TWO STEPS. No program is named here.
-/
namespace Go.RK
open Go Go.MapKept Go.ChangeMaps

section
variable {P : Program} {f : Fr} {h : Heap} {d : Option Tmp} {ty : TypeId} {pos : String} {af : Array Edge} {g : Option (Nat × Bool)}
variable {t t2 : TypeId} {x y : Operand} {a b : Int}
end

/-! ### an entry in two steps -/
/-- Entry st of the map at block m is the one of key k; with its value set the map holds aput es k v. -/
def MpE {κ : Type} [DecidableEq κ] (_dsc : TypeDesc) (enc : κ → Value) (h : Heap) (m : Nat) (es : List (κ × Value)) (k : κ) (st : Int) : Prop :=
  ∃ arr clock i, h[m]? = some (.map arr clock) ∧ arr.findIdx? (fun e => (e.born : Int) == st) = some i ∧
    ∀ v : Value, Stamped (arr.modify i fun e => { e with val := v }) clock ∧ ((arr.modify i fun e => { e with val := v }).toList.map (fun e => (e.key, e.val)) = (aput es k v).map fun p => (enc p.1, p.2))
section
variable {P : Program} {f : Fr} {h : Heap} {dd : Option Tmp} {ty : TypeId} {pos : String} {af : Array Edge} {g : Option (Nat × Bool)}
variable {κ : Type} [DecidableEq κ] {dsc : TypeDesc} {enc : κ → Value} {m : Nat} {es : List (κ × Value)} {k : κ}
theorem MpE.ext {S : Nat → Prop} {h' : Heap} {st : Int} (e : MpE dsc enc h m es k st) (a : Ext S h h') (hm : ¬ S m) : MpE dsc enc h' m es k st := by
  obtain ⟨arr, clock, i, hb, r⟩ := e
  exact ⟨arr, clock, i, a.obj hb hm, r⟩
end
end Go.RK

/-
  A TEXT APPENDED TO A ROW OF BYTES; unsafe.String of a row of which a text was taken before. No program is named here.
-/
namespace Go.RK
open Go

section
variable {P : Program} {f : Fr} {h : Heap} {d : Option Tmp} {ty : TypeId} {pos : String} {af : Array Edge} {g : Option (Nat × Bool)}
theorem okE_appendS {x y : Operand} {t u e : TypeId} {i : TypeInfo} {ts : Array TypeId} (hts : ts = #[t, u]) (ht : P.underlying t = some (.slice e)) (hu : P.underlying u = some .string) (hi : P.info? e = some i) (hz : i.zero = some (.int .u8 0)) (hsz : i.size = 1) (hby : i.bytes = 1)
    {v : Value} {n : Nat} {xs : List Value} {s : List UInt8} (hx : f.ev x = some v) (hy : f.ev y = some (St s)) (hown : Own h v e 1 n xs) (hm : n + s.length ≤ 140737488355328) :
    OkR P f ⟨d, .call { callee := .builtin .append, args := #[x, y], argTypes := ts }, ty, pos, af, g⟩ h
      (fun v' h' => Own h' v' e 1 (n + s.length) (xs ++ bys s) ∧ Ext (fun k => v.ownBlock = some k) h h' ∧ (∀ k, v'.ownBlock = some k → v.ownBlock = some k ∨ h.size ≤ k) ∧ (v' = .slice Option.none 0 0 ↔ v = .slice Option.none 0 0 ∧ s = [])) :=
  fun ρ w ha hw => by
    subst hw
    subst hts
    have hup := hown.up
    have e63 : n + (ByteArray.mk ⟨s⟩).size ≤ maxLen := by show n + s.length ≤ maxLen; unfold maxLen; omega
    obtain ⟨v', w', hr, ho', hgr, hiff⟩ := Lib.run_append_own_string (P := P) w 0 t u ty e i ht hu hi hz hsz hby v n xs hup ⟨⟨s⟩⟩ e63 hm (Nat.zero_le _)
    have hloc : ∀ k, v'.ownBlock = some k → v.ownBlock = some k ∨ w.heap.size ≤ k := by
      intro k hk
      obtain ⟨hl, ⟨rfl, hn0⟩ | ⟨g0, cap, cur, rfl, hg0, hn, hc, hs, htk⟩⟩ := hown
      · have hup2 : w.ownsRow w.heap.size e 1 (.slice Option.none 0 0) n xs := ⟨hl, .inl ⟨rfl, hn0⟩⟩
        obtain ⟨v2, w2, hr2, ho2, _, _⟩ := Lib.run_append_own_string (P := P) w w.heap.size t u ty e i ht hu hi hz hsz hby _ n xs hup2 ⟨⟨s⟩⟩ e63 hm (Nat.le_refl _)
        rw [hr] at hr2
        injection hr2 with e1 e2
        subst e1
        obtain ⟨_, ⟨rfl, _⟩ | ⟨g1, _, _, rfl, hb, _⟩⟩ := ho2
        · cases hk
        · simp only [Value.ownBlock, Option.some.injEq] at hk
          exact .inr (hk ▸ hb)
      · by_cases hroom : n + (ByteArray.mk ⟨s⟩).size ≤ cap
        · have hr2 := Lib.run_append_room_string (P := P) w t u ty e i ht hu hi hsz g0 n cap cur hg0 ⟨⟨s⟩⟩ hroom (by rw [hs]; simpa using hroom)
          rw [hr] at hr2
          injection hr2 with e1 e2
          subst e1
          exact .inl hk
        · have hxl : xs.length = n := by simpa using hl
          have holds := hup.cells (g := g0) rfl
          have hr2 := Lib.run_append_grow_string (P := P) w t u ty e i (.int .u8 0) ht hu hi hz ⟨g0, 0, Option.none⟩ n cap xs (by rw [hsz]; omega) holds ⟨⟨s⟩⟩ (by omega) (by unfold maxLen at e63; omega) (by rw [hby]; exact growslice_fits (by omega) (by show (n + s.length) * 1 ≤ 140737488355328; omega))
          rw [hr] at hr2
          injection hr2 with e1 e2
          subst e1
          simp only [Value.ownBlock, Option.some.injEq] at hk
          exact .inr (by omega)
    refine ⟨v', w', ⟨hgr.tape, hgr.os, hgr.output, run_drawn _ hr⟩, ⟨.down ho', ⟨hgr.size, fun k hk hS => hgr.block k hk (fun e => hS e.symm)⟩, hloc, ?_⟩, .inl ?_⟩
    · rw [hiff]
      constructor
      · rintro ⟨h1, h2⟩
        exact ⟨h1, List.eq_nil_of_length_eq_zero h2⟩
      · rintro ⟨h1, rfl⟩
        exact ⟨h1, rfl⟩
    · simp [execOp, resolve, invoke, builtin, ha _ _ hx, ha _ _ hy, hr]
end
end Go.RK

/-
  NUMBERS AS BYTES (layer 1): package num's Put, and the document's.
-/
namespace Go.Proofs.YtbglafgndaekoaaGreatDoor
open Go Go.RK

/-- Byte i (the last is 0) of a number. -/
def bI (n : Int) (i : Nat) : UInt8 := UInt8.ofNat ((n / 256 ^ i) % 256).toNat
/-- The first k of a number's s bytes. -/
def beK (n : Int) (s : Nat) : Nat → List UInt8
  | 0 => []
  | k + 1 => beK n s k ++ [bI n (s - 1 - k)]
def be (n : Int) (s : Nat) : List UInt8 := beK n s s
theorem beK_len (n : Int) (s k : Nat) : (beK n s k).length = k := by
  induction k with
  | zero => rfl
  | succ k ih => simp [beK, ih]
theorem be_len (n : Int) (s : Nat) : (be n s).length = s := beK_len n s s
theorem bI_val (n : Int) (i : Nat) : ((bI n i).toNat : Int) = (n / 256 ^ i) % 256 := by
  unfold bI
  have h1 : 0 ≤ (n / 256 ^ i) % 256 := Int.emod_nonneg _ (by decide)
  have h2 : (n / 256 ^ i) % 256 < 256 := Int.emod_lt_of_pos _ (by decide)
  have h3 : (UInt8.ofNat ((n / 256 ^ i) % 256).toNat).toNat = ((n / 256 ^ i) % 256).toNat := by simp; omega
  rw [h3, Int.toNat_of_nonneg h1]
/-- Of one size: 1, 2 or 4. -/
def Sz (s : Nat) : Prop := s = 1 ∨ s = 2 ∨ s = 4
def Rt (n : Int) (s : Nat) : Prop := -(256 ^ s / 2) ≤ n ∧ n < 256 ^ s
theorem By_bI {n x : Int} {i : Nat} (h : x % 256 = (n / 256 ^ i) % 256) : (.int .u8 (IntKind.u8.wrap x) : Value) = By (bI n i) := by
  unfold By
  rw [bI_val, ← h]
  congr 1
theorem pow_sz {s : Nat} (hs : Sz s) : (256 : Int) ^ s = 256 ∨ (256 : Int) ^ s = 65536 ∨ (256 : Int) ^ s = 4294967296 := by
  rcases hs with rfl | rfl | rfl
  · exact .inl rfl
  · exact .inr (.inl rfl)
  · exact .inr (.inr rfl)
set_option maxHeartbeats 2000000 in
set_option maxRecDepth 100000 in
theorem right01 {h : Heap} (n : Int) (s : Nat) (hs : Sz s) (hr : Rt n s) (kp : CallsH Tryz.prog 160 ⟨[In s]⟩ h fun u h' => u = In (256 ^ s) ∧ h' = h) (kz : CallsH Tryz.prog 249 ⟨[In s]⟩ h fun u h' => u = .bool true ∧ h' = h) :
    CallsH Tryz.prog 159 ⟨[In n, In s]⟩ h fun u h' => u = .bool true ∧ h' = h := by
  obtain ⟨r1, r2⟩ := hr
  have hq := pow_sz hs
  generalize (256 : Int) ^ s = q at r1 r2 kp hq
  rcases hq with rfl | rfl | rfl
  all_goals
    refine calls [(0, _), (1, _)] Tryz.func159 rfl Tryz.ntmps159 rfl ⟨rfl, rfl, trivial⟩ ?_
    all_goals (refine WC.sr ?_)
    all_goals (refine Go ?_)
    all_goals (refine WC.sr ?_)
    all_goals (refine Go ?_)
    all_goals (refine WL.call (vs := [_]) rfl (fun a w => Tryz.call249 a w) rfl (kz) rfl rfl rfl ?_
               rintro _ hz ⟨rfl, _⟩
               subst hz)
    all_goals (refine Go ?_)
    all_goals (refine goP 7 ?_ ?_ <;> first | exact ⟨⟩ | refine Hb.mk fun hb => ?_ | skip)
    all_goals (refine Gg ?_)
    all_goals (first
                 | (refine WL.pass rfl rfl rfl ?_)
                 | (refine WL.call (vs := [_]) rfl (fun a w => Tryz.call160 a w) rfl (kp) rfl rfl rfl ?_
                    rintro _ hz ⟨rfl, _⟩
                    subst hz))
    all_goals (first | (refine WL.pass rfl rfl rfl ?_) | (first | (refine WL.step (ok_negI rfl (by omega)) rfl rfl rfl ?_) | (refine WL.step (ok_neg rfl) rfl rfl rfl ?_)))
    all_goals (first | (refine WL.pass rfl rfl rfl ?_) | (first | (refine WL.step (ok_quoI rfl rfl (by decide) (tdiv_in (by omega) (by decide))) rfl rfl rfl ?_) | (refine WL.step (ok_quo rfl rfl (by decide)) rfl rfl rfl ?_)))
    all_goals (first | rw [show (-256 : Int).tdiv 2 = -128 from rfl] | rw [show (-65536 : Int).tdiv 2 = -32768 from rfl] | rw [show (-4294967296 : Int).tdiv 2 = -2147483648 from rfl])
    all_goals (refine Gg ?_)
    all_goals (refine Go ?_)
    all_goals (refine goP 15 ?_ ?_ <;> first | exact ⟨⟩ | refine Hb.mk fun hb => ?_ | skip)
    all_goals (refine Gg ?_)
    all_goals (first
                 | (refine WL.pass rfl rfl rfl ?_)
                 | (refine WL.call (vs := [_]) rfl (fun a w => Tryz.call160 a w) rfl (kp) rfl rfl rfl ?_
                    rintro _ hz ⟨rfl, _⟩
                    subst hz))
    all_goals (refine Gg ?_)
    all_goals (refine Go ?_)
    all_goals (refine Gs [(4, _)] ?_)
    all_goals (refine Gt ?_)
    all_goals (exact ⟨rfl, rfl⟩)
set_option maxHeartbeats 2000000 in
set_option maxRecDepth 100000 in
theorem sized01 {h : Heap} (s : Nat) (hs : Sz s) : CallsH Tryz.prog 249 ⟨[In s]⟩ h fun u h' => u = .bool true ∧ h' = h := by
  rcases hs with rfl | rfl | rfl
  all_goals
    refine calls [(0, _)] Tryz.func249 rfl Tryz.ntmps249 rfl ⟨rfl, trivial⟩ ?_
    all_goals (refine WC.sr ?_)
    all_goals (refine Go ?_)
    all_goals (refine WC.sr ?_)
    all_goals (refine Go ?_)
    all_goals (refine goP 5 ?_ ?_ <;> first | exact ⟨⟩ | refine Hb.mk fun hb => ?_ | skip)
    all_goals (refine Gg ?_)
    all_goals (refine Go ?_)
    all_goals (refine goP 9 ?_ ?_ <;> first | exact ⟨⟩ | refine Hb.mk fun hb => ?_ | skip)
    all_goals (refine Gg ?_)
    all_goals (refine Go ?_)
    all_goals (refine Gs [(2, _)] ?_)
    all_goals (refine Gt ?_)
    all_goals (exact ⟨rfl, rfl⟩)
theorem pow_le {k : Nat} (h : k ≤ 3) : 1 ≤ (256 : Int) ^ k ∧ (256 : Int) ^ k ≤ 16777216 := by
  have : k = 0 ∨ k = 1 ∨ k = 2 ∨ k = 3 := by omega
  rcases this with rfl | rfl | rfl | rfl <;> decide
set_option maxHeartbeats 2000000 in
set_option maxRecDepth 100000 in
theorem pow_v {h : Heap} (s : Nat) (hs : s ≤ 4) : CallsH Tryz.prog 160 ⟨[In s]⟩ h fun u h' => u = In (256 ^ s) ∧ h' = h := by
  refine calls [(0, _)] Tryz.func160 rfl Tryz.ntmps160 rfl ⟨rfl, trivial⟩ ?_
  all_goals (refine WC.sr ?_)
  all_goals (refine Go ?_)
  all_goals (refine WC.sr ?_)
  all_goals (refine Go ?_)
  all_goals (refine WC.seq ?_)
  all_goals (refine WC.sr ?_)
  all_goals (refine Go ?_)
  all_goals (refine WC.block ?_)
  -- loop 0: slots that turn [3, 4], that stay [0]
  all_goals (refine WC.loopG (X := Nat × Int) (fun x => ([(3, In x.2), (4, In (x.1 : Int))] : Fr)) [(0, _)] (fun x h' => h' = h ∧ x.1 ≤ s ∧ x.2 = 256 ^ x.1) (fun x => s - x.1) ((0, 1)) ⟨rfl, rfl, rfl, trivial⟩ (by exact ⟨rfl, Nat.zero_le _, rfl⟩) ?_)
  all_goals (rintro ⟨k, p⟩ h9 ⟨hz, hk, hp⟩
             dsimp only at hk hp
             subst h9)
  all_goals (refine WC.sub [(3, _), (4, _), (0, _)] ⟨rfl, rfl, rfl, trivial⟩ ?_)
  all_goals (dsimp only)
  all_goals (refine WC.seq ?_)
  all_goals (refine WC.sr ?_)
  all_goals (refine Go ?_)
  all_goals (refine goC 1 2 ?_ ?_ <;> first | exact ⟨⟩ | refine Hb.mk fun hb => ?_ | skip)
  all_goals (first | (fail_if_success refine goB 1 ?_) | (
  refine goB 1 ?_
  all_goals (refine WC.skip ?_)
  skip))
  all_goals (first | (fail_if_success refine goB 2 ?_) | (
  refine goB 2 ?_
  all_goals (refine WC.exit ?_)
  all_goals (repeat' (with_reducible first | refine thenP_x ?_ | refine blockP_miss rfl ?_ | refine blockP_hit ?_ | refine blockP_n ?_ | refine thenP_n ?_))
  all_goals (refine Br.out (i := 1000) ?_)
  skip))
  all_goals (refine Gn ?_)
  all_goals (first | (refine Br.keep ?_) | (refine WC.seq ?_))
  all_goals (first | (refine Br.keep ?_) | (refine WC.block ?_))
  all_goals (first | (refine Br.keep ?_) | (refine WC.region ?_))
  all_goals (first
               | (refine Br.keep ?_)
               | (have hpl := pow_le (show k ≤ 3 by omega)
                  rw [← hp] at hpl))
  all_goals (first | (refine Br.keep ?_) | (refine WL.step (ok_move rfl) rfl rfl rfl ?_))
  all_goals (first | (refine Br.keep ?_) | (first | (refine WL.step (ok_mulI rfl rfl (by omega)) rfl rfl rfl ?_) | (refine WL.step (ok_mul rfl rfl) rfl rfl rfl ?_)))
  all_goals (refine Go ?_)
  all_goals (first | (refine Br.keep ?_) | (refine Gs [(0, _), (3, _), (4, _)] ?_))
  all_goals (first | (refine Br.keep ?_) | (refine WC.region ?_))
  all_goals (refine Go ?_)
  all_goals (first | (refine Br.keep ?_) | (exact ⟨(k + 1, _), ⟨rfl, rfl, rfl, trivial⟩, (by exact ⟨rfl, by omega, by rw [hp]; rfl⟩), (by simp; omega)⟩))
  all_goals (try (refine Br.mk (i := 1000) ?_))
  all_goals (refine Gn ?_)
  all_goals (refine Gs [(3, _)] ?_)
  all_goals (refine WC.sr ?_)
  all_goals (refine Go ?_)
  all_goals (refine Gt ?_)
  all_goals (exact ⟨by rw [hp, show k = s by omega], rfl⟩)
theorem bI_up {n : Int} {s i : Nat} (h : i < s) : bI (n + 256 ^ s) i = bI n i := by
  have h1 : (n + 256 ^ s) / 256 ^ i = n / 256 ^ i + 256 ^ (s - i) := by
    rw [show (256 : Int) ^ s = 256 ^ i * 256 ^ (s - i) by rw [← Int.pow_add, show i + (s - i) = s by omega]]
    rw [Int.add_mul_ediv_left _ _ (by have : (0 : Int) < 256 ^ i := Int.pow_pos (by decide); omega)]
  obtain ⟨j, hj⟩ : ∃ j, s - i = j + 1 := ⟨s - i - 1, by omega⟩
  have h2 : (256 : Int) ^ (s - i) = 256 ^ j * 256 := by rw [hj, Int.pow_succ]
  unfold bI
  rw [h1, h2, Int.add_mul_emod_self_right]
theorem beK_congr {m n : Int} {s : Nat} (h : ∀ i, i < s → bI m i = bI n i) (hs : 1 ≤ s) : ∀ k, beK m s k = beK n s k
  | 0 => rfl
  | k + 1 => by rw [beK, beK, beK_congr h hs k, h _ (by omega)]
theorem td_in {m p : Int} (h : 0 ≤ m ∧ m ≤ 4294967296) (hp : 1 ≤ p) : m.tdiv p = m / p ∧ 0 ≤ m / p ∧ m / p ≤ 4294967296 := by
  refine ⟨Int.tdiv_eq_ediv_of_nonneg h.1, Int.ediv_nonneg h.1 (by omega), ?_⟩
  have := Int.ediv_le_self p h.1
  omega
set_option maxHeartbeats 2000000 in
set_option maxRecDepth 100000 in
theorem put01 {h : Heap} {v : Value} (l : List UInt8) (n : Int) (s : Nat) (hs : Sz s) (hr : Rt n s) (hv : Rd h v 1 l.length (bys l)) (hl : l.length ≤ 100000000000000) :
    CallsH Tryz.prog 66 ⟨[v, In n, In s]⟩ h fun u h' => Own h' u 5 1 (l ++ be n s).length (bys (l ++ be n s)) ∧ Ext No h h' ∧ ∀ q, u.ownBlock = some q → h.size ≤ q := by
  obtain ⟨A, c, rfl, hc⟩ := id hv
  have hs4 : s ≤ 4 := by unfold Sz at hs; omega
  have hs1 : 1 ≤ s := by unfold Sz at hs; omega
  have hq := pow_sz hs
  obtain ⟨r1, r2⟩ := id hr
  have kp := fun h' => pow_v (h := h') s (by omega)
  have kr := fun h' => right01 (h := h') n s hs hr (kp h') (sized01 s hs)
  obtain ⟨m, hm0, hm1, hmb⟩ : ∃ m : Int, (if n < 0 then n + 256 ^ s else n) = m ∧ (0 ≤ m ∧ m ≤ 4294967296) ∧ ∀ i, i < s → bI m i = bI n i := by
    refine ⟨_, rfl, ?_, fun i hi => ?_⟩
    · generalize (256 : Int) ^ s = q at r1 r2 hq
      split <;> rcases hq with rfl | rfl | rfl <;> omega
    · split
      · exact bI_up hi
      · rfl
  rw [show be n s = be m s from (beK_congr hmb hs1 s).symm]
  generalize hqq : (256 : Int) ^ s = q at r1 r2 kp hq hm0
  refine calls [(0, _), (1, _), (2, _)] Tryz.func66 rfl Tryz.ntmps66 rfl ⟨rfl, rfl, rfl, trivial⟩ ?_
  all_goals (refine WC.sr ?_)
  all_goals (refine Go ?_)
  all_goals (refine WC.sr ?_)
  all_goals (refine Go ?_)
  all_goals (refine WL.stepR (ok_append (sz := 1) (bytes := 1) rfl Tryz.underlying22 (show Tryz.prog.info? 5 = some Tryz.t5 by kernel_rfl) rfl rfl rfl rfl (by decide) rfl rfl (Own.nil _ _ _) hv (by intro c hc; obtain ⟨b, _, rfl⟩ := List.mem_map.1 hc; rfl) (by simp only [maxLen]; omega) (by omega)) rfl rfl rfl ?_
             rintro v2 h2 ⟨ho2, hx2, hl2⟩)
  all_goals (have hf2 : ∀ q, v2.ownBlock = some q → h.size ≤ q := fresh_of hl2 (by simp [Value.ownBlock]) (Nat.le_refl _)
             have hX2 : Ext No h h2 := hx2.mono (fun q hq e => by simp [Value.ownBlock] at e))
  all_goals (refine Go ?_)
  all_goals (refine Gs [(1, _), (2, _), (7, _)] ?_)
  all_goals (refine WC.seq ?_)
  all_goals (refine WC.sr ?_)
  all_goals (refine Go ?_)
  all_goals (refine WL.call (vs := [_, _]) rfl (fun a w => Tryz.call159 a w) rfl (kr _) rfl rfl rfl ?_
             rintro _ hz ⟨rfl, _⟩
             subst hz)
  all_goals (refine Go ?_)
  all_goals (refine goC 1 2 ?_ ?_ <;> first | exact ⟨⟩ | refine Hb.mk fun hb => ?_ | skip)
  all_goals (first | (fail_if_success refine goB 1 ?_) | (
  refine goB 1 ?_
  all_goals (refine WC.sr ?_)
  all_goals (refine Go ?_)
  all_goals (refine Gs [(6, _)] ?_)
  all_goals (refine Gt ?_)
  all_goals ((obtain rfl : k = s := by omega); exact ⟨ho3, hx3, hf3⟩)
  skip))
  all_goals (first | (fail_if_success refine goB 2 ?_) | (
  refine goB 2 ?_
  all_goals (refine WC.skip ?_)
  skip))
  all_goals (refine Gn ?_)
  all_goals (refine Gs [(1, _), (2, _), (7, _)] ?_)
  all_goals (refine WC.seq ?_)
  all_goals (refine WC.sr ?_)
  all_goals (refine Go ?_)
  all_goals (refine goC 3 4 ?_ ?_ <;> first | exact ⟨⟩ | refine Hb.mk fun hb => ?_ | skip)
  all_goals (first | (fail_if_success refine goB 3 ?_) | (
  refine goB 3 ?_
  all_goals (refine WC.region ?_)
  all_goals (refine Go ?_)
  all_goals (refine WL.call (vs := [_]) rfl (fun a w => Tryz.call160 a w) rfl (kp _) rfl rfl rfl ?_
             rintro _ hz ⟨rfl, _⟩
             subst hz)
  all_goals (refine Go ?_)
  skip))
  all_goals (first | (fail_if_success refine goB 4 ?_) | (
  refine goB 4 ?_
  all_goals (refine WC.skip ?_)
  skip))
  all_goals (refine Gn ?_)
  all_goals (refine WC.seq ?_)
  all_goals (refine WC.sr ?_)
  all_goals (first | rw [if_pos (by assumption)] at hm0 | rw [if_neg (by assumption)] at hm0
             rw [hm0])
  all_goals (refine WL.step (ok_move rfl) rfl rfl rfl ?_)
  all_goals (refine Go ?_)
  all_goals (refine Gs [(1, _), (7, _), (8, _)] ?_)
  all_goals (refine WC.block ?_)
  -- loop 0: slots that turn [7, 8], that stay [1]
  all_goals (refine WC.loopG (X := Value × Int × Nat) (fun x => ([(7, x.1), (8, In x.2.1)] : Fr)) [(1, _)] (fun x h' => x.2.2 ≤ s ∧ x.2.1 = (s : Int) - 1 - x.2.2 ∧ Own h' x.1 5 1 (l ++ beK m s x.2.2).length (bys (l ++ beK m s x.2.2)) ∧ Ext No h h' ∧ ∀ q, x.1.ownBlock = some q → h.size ≤ q) (fun x => s - x.2.2) ((v2, _, 0)) ⟨rfl, rfl, rfl, trivial⟩ (by exact ⟨Nat.zero_le _, by simp, by simpa [beK] using ho2, hX2, hf2⟩) ?_)
  all_goals (rintro ⟨w, sh, k⟩ h3 ⟨hk, hsh, ho3, hx3, hf3⟩
             dsimp only at hk hsh ho3 hf3
             have hbl := beK_len m s k
             have hlen3 : (l ++ beK m s k).length = l.length + k := by rw [List.length_append, hbl])
  all_goals (refine WC.sub [(7, _), (8, _), (1, _)] ⟨rfl, rfl, rfl, trivial⟩ ?_)
  all_goals (dsimp only)
  all_goals (refine WC.seq ?_)
  all_goals (refine WC.sr ?_)
  all_goals (refine Go ?_)
  all_goals (refine goC 5 6 ?_ ?_ <;> first | exact ⟨⟩ | refine Hb.mk fun hb => ?_ | skip)
  all_goals (first | (fail_if_success refine goB 5 ?_) | (
  refine goB 5 ?_
  all_goals (refine WC.skip ?_)
  skip))
  all_goals (first | (fail_if_success refine goB 6 ?_) | (
  refine goB 6 ?_
  all_goals (refine WC.exit ?_)
  all_goals (repeat' (with_reducible first | refine thenP_x ?_ | refine blockP_miss rfl ?_ | refine blockP_hit ?_ | refine blockP_n ?_ | refine thenP_n ?_))
  all_goals (refine Br.out (i := 1000) ?_)
  skip))
  all_goals (refine Gn ?_)
  all_goals (first | (refine Br.keep ?_) | (refine WC.seq ?_))
  all_goals (first | (refine Br.keep ?_) | (refine WC.block ?_))
  all_goals (first | (refine Br.keep ?_) | (refine WC.region ?_))
  all_goals (first
               | (refine Br.keep ?_)
               | (obtain ⟨j, rfl⟩ : ∃ j : Nat, sh = (j : Int) := ⟨sh.toNat, by omega⟩
                  have hpj := pow_le (show j ≤ 3 by omega)
                  have htd := td_in hm1 hpj.1))
  all_goals (first | (refine Br.keep ?_) | (refine WL.step (ok_move rfl) rfl rfl rfl ?_))
  all_goals (refine Go ?_)
  all_goals (first
               | (refine Br.keep ?_)
               | (refine WL.call (vs := [_]) rfl (fun a w => Tryz.call160 a w) rfl (pow_v j (by omega)) rfl rfl rfl ?_
                  rintro _ hz ⟨rfl, _⟩
                  subst hz))
  all_goals (first | (refine Br.keep ?_) | (first | (refine WL.step (ok_quoI rfl rfl (by omega) (⟨by rw [htd.1]; omega, by rw [htd.1]; omega⟩)) rfl rfl rfl ?_) | (refine WL.step (ok_quo rfl rfl (by omega)) rfl rfl rfl ?_)))
  all_goals (first | (refine Br.keep ?_) | (refine WL.step (ok_rem rfl rfl (by decide)) rfl rfl rfl ?_))
  all_goals (first | (refine Br.keep ?_) | (first | (refine WL.step (ok_convU8 Tryz.underlying3 Tryz.underlying5 rfl (by omega)) rfl rfl rfl ?_) | (refine WL.step (ok_conv Tryz.underlying3 Tryz.underlying5 rfl) rfl rfl rfl ?_)))
  all_goals (first
               | (refine Br.keep ?_)
               | (refine WL.stepR (okE_buildSlice (vs := [_]) (cs := [_]) (fun | [a0] => [a0] | _ => []) Tryz.underlying22 rfl rfl (by kernel_rfl)) rfl rfl rfl ?_
                  rintro _ h4 ⟨b4, rfl, hg4, hb4, hx4⟩))
  all_goals (first
               | (refine Br.keep ?_)
               | (refine WL.stepR (ok_append (sz := 1) (bytes := 1) rfl Tryz.underlying22 (show Tryz.prog.info? 5 = some Tryz.t5 by kernel_rfl) rfl rfl rfl rfl (by decide) rfl rfl (ho3.ext hx4 (fun _ _ => nos)) (rd_blk hb4 rfl) (by simp [Value.oneCell']) (by simp only [maxLen]; omega) (by omega)) rfl rfl rfl ?_
                  rintro v5 h5 ⟨ho5, hx5, hl5⟩))
  all_goals (first
               | (refine Br.keep ?_)
               | (have hsb : ((m.tdiv (256 ^ j)).tmod 256) % 256 = (m / 256 ^ (s - 1 - k)) % 256 := by rw [htd.1, Int.tmod_eq_emod_of_nonneg htd.2.1, Int.emod_emod, show j = s - 1 - k by omega]
                  rw [By_bI hsb] at ho5
                  have hO : Own h5 v5 5 1 (l ++ beK m s (k + 1)).length (bys (l ++ beK m s (k + 1))) := by have e : l ++ beK m s (k + 1) = (l ++ beK m s k) ++ [bI m (s - 1 - k)] := (by simp [beK]); rw [e, bys, List.map_append, List.length_append]; exact ho5))
  all_goals (refine Go ?_)
  all_goals (first | (refine Br.keep ?_) | (refine Gs [(1, _), (7, _), (8, _)] ?_))
  all_goals (first | (refine Br.keep ?_) | (refine WC.region ?_))
  all_goals (refine Go ?_)
  all_goals (first | (refine Br.keep ?_) | (exact ⟨(_, _, k + 1), ⟨rfl, rfl, rfl, trivial⟩, (by exact ⟨by dsimp only; omega, by dsimp only; omega, hO, (hx3.trans hx4).trans' hx5 (fun q hq e => by have := hf3 q e; omega), fresh_of hl5 hf3 (by have := hx3.size; have := hx4.size; omega)⟩), (by simp; omega)⟩))
  all_goals (try (refine Br.mk (i := 1000) ?_))
  all_goals (refine Gn ?_)
  all_goals (refine Gs [(7, _)] ?_)
  all_goals (refine WC.sr ?_)
  all_goals (refine Go ?_)
  all_goals (refine Gt ?_)
  all_goals ((obtain rfl : k = s := by omega); exact ⟨ho3, hx3, hf3⟩)
end Go.Proofs.YtbglafgndaekoaaGreatDoor


/-
  FIX (layer 25): a fault's bytes; the law's awake.
-/
namespace Go.Proofs.YtbglafgndaekoaaGreatDoor
open Go Go.RK

/-- A writer at block b, all of it made since the heap g: what it has written. -/
structure Wr (g h : Heap) (b : Nat) (v : Value) (l : List UInt8) : Prop where
  blk : h[b]? = some (.cells ⟨[v]⟩ 438 (0, 0))
  own : Own h v 5 1 l.length (bys l)
  lo : g.size ≤ b ∧ ∀ q, v.ownBlock = some q → g.size ≤ q
  ext : Ext No g h
def WS_ (b : Nat) (v : Value) (q : Nat) : Prop := q = b ∨ v.ownBlock = some q
section
variable {g h : Heap} {b : Nat} {v : Value} {l : List UInt8}
theorem Wr.stay {h' : Heap} (w : Wr g h b v l) (x : Ext No h h') : Wr g h' b v l := ⟨x.obj w.blk nos, w.own.ext x (fun _ _ => nos), w.lo, w.ext.trans x⟩
end
def encF (F : List FieldD) : List UInt8 := F.flatMap fun f => [UInt8.ofNat f.k.toNat] ++ f.t ++ [0]
theorem byK {k : Int} (h0 : 0 ≤ k) (h1 : k ≤ 255) : By (UInt8.ofNat k.toNat) = .int .u8 k := by
  show Value.int .u8 ((UInt8.ofNat k.toNat).toNat : Int) = .int .u8 k
  rw [UInt8.toNat_ofNat']
  congr 1
  omega
theorem encF_snoc {F : List FieldD} {k : Nat} {y : FieldD} (hy : F[k]? = some y) : encF (F.take (k + 1)) = encF (F.take k) ++ [UInt8.ofNat y.k.toNat] ++ y.t ++ [0] := by
  unfold encF
  rw [List.take_add_one, hy, List.flatMap_append]
  simp
theorem encF_len (F : List FieldD) (n : Nat) (hF : ∀ f ∈ F, f.t.length ≤ n) : (encF F).length ≤ F.length * (n + 2) := by
  induction F with
  | nil => simp [encF]
  | cons a F ih =>
    have h1 := ih (fun f hf => hF f (by simp [hf]))
    have h2 := hF a (by simp)
    have : encF (a :: F) = [UInt8.ofNat a.k.toNat] ++ a.t ++ [0] ++ encF F := by simp [encF]
    rw [this]
    simp only [List.length_append, List.length_cons, List.length_nil] at *
    rw [Nat.add_mul]
    omega
end Go.Proofs.YtbglafgndaekoaaGreatDoor


/-
  REPLIES (layer 7): what a writer writes.
-/
namespace Go.Proofs.YtbglafgndaekoaaGreatDoor
open Go Go.RK

theorem rt2 {n : Int} (h : -32768 ≤ n ∧ n ≤ 65535) : Rt n 2 := by
  unfold Rt
  rw [show (256 : Int) ^ 2 = 65536 from rfl]
  omega
theorem rt4s {n : Int} (h : -2147483648 ≤ n ∧ n ≤ 4294967295) : Rt n 4 := by
  unfold Rt
  rw [show (256 : Int) ^ 4 = 4294967296 from rfl]
  omega
theorem sz2 : Sz 2 := .inr (.inl rfl)
theorem sz4 : Sz 4 := .inr (.inr rfl)
theorem flat_len {α : Type} {f : α → List UInt8} {n : Nat} (l : List α) (h : ∀ x ∈ l, (f x).length ≤ n) : (l.flatMap f).length ≤ l.length * n := by
  induction l with
  | nil => simp
  | cons a l ih =>
    have h1 := ih (fun x hx => h x (by simp [hx]))
    have h2 := h a (by simp)
    simp only [List.flatMap_cons, List.length_append, List.length_cons, Nat.add_mul, Nat.one_mul]
    omega
theorem flat_take {α : Type} {f : α → List UInt8} {n : Nat} (l : List α) (k : Nat) (h : ∀ x ∈ l, (f x).length ≤ n) : ((l.take k).flatMap f).length ≤ l.length * n :=
  Nat.le_trans (flat_len _ fun x hx => h x (List.mem_of_mem_take hx)) (Nat.mul_le_mul_right n (by rw [List.length_take]; omega))
theorem flat_snoc {α : Type} {f : α → List UInt8} {l : List α} {k : Nat} {y : α} (hy : l[k]? = some y) : (l.take (k + 1)).flatMap f = (l.take k).flatMap f ++ f y := by
  rw [List.take_add_one, hy, List.flatMap_append]
  simp
def encCol (c : ColD) : List UInt8 := c.nm ++ [0] ++ be c.t 4 ++ be c.a 2 ++ be c.o 4 ++ be c.s 2 ++ be c.m 4 ++ be c.f 2
def encCel (c : Cel) : List UInt8 := if c.null then be 4294967295 4 else be c.bytes.length 4 ++ c.bytes
/-- A step of a writer. -/
def WStep (h : Heap) (b : Nat) (v : Value) (h' : Heap) (v' : Value) : Prop := Ext (WS_ b v) h h' ∧ ∀ q, v'.ownBlock = some q → v.ownBlock = some q ∨ h.size ≤ q
theorem WStep.refl {h : Heap} {b : Nat} {v : Value} : WStep h b v h v := ⟨.refl _ _, fun _ e => .inl e⟩
theorem WStep.stay {h h' : Heap} {b : Nat} {v : Value} (x : Ext No h h') : WStep h b v h' v := ⟨x.mono fun _ _ e => e.elim, fun _ e => .inl e⟩
theorem WStep.trans {h h1 h2 : Heap} {b : Nat} {v v1 v2 : Value} (a : WStep h b v h1 v1) (c : WStep h1 b v1 h2 v2) : WStep h b v h2 v2 :=
  ⟨a.1.trans' c.1 (fun q hq e => e.elim .inl (fun e => (a.2 q e).elim .inr (fun z => absurd hq (by omega)))), fun q e => (c.2 q e).elim (fun e => a.2 q e) (fun z => .inr (by have := a.1.size; omega))⟩
section
variable {g h h' : Heap} {b : Nat} {v : Value} {l : List UInt8}
theorem Wr.obj (w : Wr g h b v l) (x : Ext (WS_ b v) h h') {q : Nat} {o : Array Value} {T : TypeId} {z : Nat × Nat} (hq : h[q]? = some (.cells o T z)) (hT : T ≠ 5) (hne : q ≠ b) : h'[q]? = some (.cells o T z) :=
  x.obj hq (fun e => e.elim hne (fun e => by obtain ⟨_, k⟩ := own_kind w.own e; rw [hq] at k; simp only [Option.some.injEq, Obj.cells.injEq] at k; exact hT k.2.1))
end
end Go.Proofs.YtbglafgndaekoaaGreatDoor


/-
  REPLIES (layer 7): the body of a reply that may be, as the code writes it. Printed by encp.py.
-/
namespace Go.Proofs.YtbglafgndaekoaaGreatDoor
open Go Go.RK

/-- The body of a reply. -/
def encBk (b : Bk) : List UInt8 :=
  if b.kind = 82 then be 0 4
  else if b.kind = 83 then b.name ++ [0] ++ b.value ++ [0]
  else if b.kind = 75 then be b.n 4 ++ be b.m 4
  else if b.kind = 90 then [UInt8.ofNat b.status.toNat]
  else if b.kind = 67 then b.tag ++ [0]
  else if b.kind = 68 then be b.row.length 2 ++ b.row.flatMap encCel
  else if b.kind = 84 then be b.cols.length 2 ++ b.cols.flatMap encCol
  else if b.kind = 116 then be b.oids.length 2 ++ b.oids.flatMap fun n => be n 4
  else if b.kind = 69 ∨ b.kind = 78 then encF b.fields ++ [0]
  else []
end Go.Proofs.YtbglafgndaekoaaGreatDoor


/-
  REPLIES (layer 7): whether a reply may be, of any whose texts are no longer than 2^20 (printed by wide2.py).
-/
namespace Go.Proofs.YtbglafgndaekoaaGreatDoor
open Go Go.RK

/-- Texts that are no longer than 2^20. -/
structure Bk.big (b : Bk) : Prop where
  names : ∀ c ∈ b.cols, c.nm.length ≤ 1048576
  cells : ∀ c ∈ b.row, c.bytes.length ≤ 1048576
  texts : ∀ f ∈ b.fields, f.t.length ≤ 1048576
  tag : b.tag.length ≤ 1048576
  name : b.name.length ≤ 1048576
  value : b.value.length ≤ 1048576
theorem many_dec {α : Type} {l : List α} {p : α → Prop} [DecidablePred p] (hm : l.length ≤ 65535) : decide (∀ c ∈ l, p c) = decide (l.length ≤ 65535 ∧ ∀ c ∈ l, p c) := by simp [hm]
set_option maxHeartbeats 2000000 in
set_option maxRecDepth 100000 in
theorem between07W {h : Heap} {v : Value} (l : List Int) (hr : Rd h v 1 l.length (ints l)) :
    CallsH Tryz.prog 153 ⟨[v, In 0, In 4294967295]⟩ h fun u h' => u = .bool (decide (l.length ≤ 65535 ∧ ∀ c ∈ l, 0 ≤ c ∧ c ≤ 4294967295)) ∧ h' = h := by
  by_cases hm : l.length ≤ 65535
  · exact (between07 l hr hm).mono fun u h' ⟨a, x⟩ => ⟨by rw [a, many_dec hm], x⟩
  · obtain ⟨A, c, rfl, _⟩ := id hr
    refine calls [(0, _), (1, _), (2, _)] Tryz.func153 rfl Tryz.ntmps153 rfl ⟨rfl, rfl, rfl, trivial⟩ ?_
    all_goals (refine WC.sr ?_)
    all_goals (refine Go ?_)
    all_goals (refine WC.seq ?_)
    all_goals (refine WC.sr ?_)
    all_goals (refine Go ?_)
    all_goals (refine goC 1 2 ?_ ?_ <;> first | exact ⟨⟩ | refine Hb.mk fun hb => ?_ | skip)
    all_goals (first | (fail_if_success refine goB 1 ?_) | (
    refine goB 1 ?_
    all_goals (refine WC.sr ?_)
    all_goals (refine Go ?_)
    all_goals (refine Gs [(6, _)] ?_)
    all_goals (refine Gt ?_)
    all_goals (exact ⟨congrArg Value.bool (decide_eq_false (fun z => hm z.1)).symm, rfl⟩)
    skip))
    all_goals (first | (fail_if_success refine goB 2 ?_) | (
    refine goB 2 ?_
    all_goals (refine WC.skip ?_)
    skip))
    all_goals (refine Gn ?_)
    all_goals (refine Gs [(0, _), (1, _), (2, _)] ?_)
    all_goals (refine WC.seq ?_)
    all_goals (refine WC.sr ?_)
    all_goals (refine Go ?_)
    all_goals (refine WC.block ?_)
    -- loop 0: slots that turn [7], that stay [0, 1, 2]
    all_goals (refine WC.loopG (fun x => (None : Fr)) [(0, _), (1, _), (2, _)] (None) (None) (None) ⟨rfl, rfl, rfl, rfl, trivial⟩ (by exact ⟨⟩) ?_)
    all_goals (rintro x h1 hI)
    all_goals (refine WC.sub [(7, _), (0, _), (1, _), (2, _)] ⟨rfl, rfl, rfl, rfl, trivial⟩ ?_)
    all_goals (refine WC.seq ?_)
    all_goals (refine WC.sr ?_)
    all_goals (refine Go ?_)
    all_goals (refine goC 3 4 ?_ ?_ <;> first | exact ⟨⟩ | refine Hb.mk fun hb => ?_ | skip)
    all_goals (first | (fail_if_success refine goB 3 ?_) | (
    refine goB 3 ?_
    all_goals (refine WC.skip ?_)
    skip))
    all_goals (first | (fail_if_success refine goB 4 ?_) | (
    refine goB 4 ?_
    all_goals (refine WC.exit ?_)
    all_goals (repeat' (with_reducible first | refine thenP_x ?_ | refine blockP_miss rfl ?_ | refine blockP_hit ?_ | refine blockP_n ?_ | refine thenP_n ?_))
    all_goals (refine Br.out (i := 1000) ?_)
    skip))
    all_goals (refine Gn ?_)
    all_goals (first | (refine Br.keep ?_) | (refine Gs [(0, _), (1, _), (2, _), (7, _)] ?_))
    all_goals (first | (refine Br.keep ?_) | (refine WC.seq ?_))
    all_goals (first | (refine Br.keep ?_) | (refine WC.block ?_))
    all_goals (first | (refine Br.keep ?_) | (refine WC.sr ?_))
    all_goals (refine Go ?_)
    all_goals (first | (refine Br.keep ?_) | (refine WL.step (ok_idxAddrA Tryz.underlying23 (fun w => Tryz.sizeOf3 w) rfl rfl rfl (by omega) (by first | rfl | assumption)) rfl rfl rfl ?_))
    all_goals (first | (refine Br.keep ?_) | (refine Ld ?_))
    all_goals (refine Go ?_)
    all_goals (first | (refine Br.keep ?_) | (refine goP 23 ?_ ?_ <;> first | exact ⟨⟩ | refine Hb.mk fun hb => ?_ | skip))
    all_goals (refine Gg ?_)
    all_goals (first | (refine Br.keep ?_) | (first | (refine WL.pass rfl rfl rfl ?_) | (refine WL.step (ok_idxAddrA Tryz.underlying23 (fun w => Tryz.sizeOf3 w) rfl rfl rfl (by omega) (by first | rfl | assumption)) rfl rfl rfl ?_)))
    all_goals (first | (refine Br.keep ?_) | (first | (refine WL.pass rfl rfl rfl ?_) | (refine Ld ?_)))
    all_goals (refine Gg ?_)
    all_goals (refine Go ?_)
    all_goals (first | (refine Br.keep ?_) | (refine Gs [(0, _), (1, _), (2, _), (7, _), (30, _)] ?_))
    all_goals (first | (refine Br.keep ?_) | (refine goC 5 6 ?_ ?_ <;> first | exact ⟨⟩ | refine Hb.mk fun hb => ?_ | skip))
    all_goals (first | (fail_if_success refine goB 5 ?_) | (
    refine goB 5 ?_
    all_goals (refine WC.sr ?_)
    all_goals (refine Go ?_)
    all_goals (refine Gs [(6, _)] ?_)
    all_goals (refine Gt ?_)
    all_goals (exact ⟨congrArg Value.bool (decide_eq_false (fun z => hm z.1)).symm, rfl⟩)
    skip))
    all_goals (first | (fail_if_success refine goB 6 ?_) | (
    refine goB 6 ?_
    all_goals (refine WC.skip ?_)
    skip))
    all_goals (refine Gn ?_)
    all_goals (first | (refine Br.keep ?_) | (refine WC.region ?_))
    all_goals (refine Go ?_)
    all_goals (first | (refine Br.keep ?_) | (exact ⟨None, ⟨rfl, rfl, rfl, rfl, trivial⟩, (by exact ⟨⟩), (by simp; omega)⟩))
    all_goals (try (refine Br.mk (i := 1000) ?_))
    all_goals (refine Gn ?_)
    all_goals (refine Gs [] ?_)
    all_goals (refine WC.sr ?_)
    all_goals (refine Go ?_)
    all_goals (refine Gt ?_)
    all_goals (exact ⟨congrArg Value.bool (decide_eq_false (fun z => hm z.1)).symm, rfl⟩)
set_option maxHeartbeats 2000000 in
set_option maxRecDepth 100000 in
theorem cols07W {h : Heap} {v : Value} (l : List ColD) (hr : Rd h v 7 l.length (l.flatMap ColD.cells)) (ht : ∀ c ∈ l, c.nm.length ≤ 1048576) :
    CallsH Tryz.prog 154 ⟨[v]⟩ h fun u h' => u = .bool (decide (l.length ≤ 65535 ∧ ∀ c ∈ l, c.okB)) ∧ Ext No h h' := by
  by_cases hm : l.length ≤ 65535
  · exact (cols07 l hr hm ht).mono fun u h' ⟨a, x⟩ => ⟨by rw [a, many_dec hm], x⟩
  · obtain ⟨A, c, rfl, _⟩ := id hr
    refine calls [(0, _)] Tryz.func154 rfl Tryz.ntmps154 rfl ⟨rfl, trivial⟩ ?_
    all_goals (refine WC.sr ?_)
    all_goals (refine Go ?_)
    all_goals (refine WC.seq ?_)
    all_goals (refine WC.sr ?_)
    all_goals (refine Go ?_)
    all_goals (refine goC 1 2 ?_ ?_ <;> first | exact ⟨⟩ | refine Hb.mk fun hb => ?_ | skip)
    all_goals (first | (fail_if_success refine goB 1 ?_) | (
    refine goB 1 ?_
    all_goals (refine WC.sr ?_)
    all_goals (refine Go ?_)
    all_goals (refine Gs [(2, _)] ?_)
    all_goals (refine Gt ?_)
    all_goals (exact ⟨congrArg Value.bool (decide_eq_false (fun z => hm z.1)).symm, .refl _ _⟩)
    skip))
    all_goals (first | (fail_if_success refine goB 2 ?_) | (
    refine goB 2 ?_
    all_goals (refine WC.skip ?_)
    skip))
    all_goals (refine Gn ?_)
    all_goals (refine Gs [(0, _)] ?_)
    all_goals (refine WC.seq ?_)
    all_goals (refine WC.sr ?_)
    all_goals (refine Go ?_)
    all_goals (refine WC.block ?_)
    -- loop 0: slots that turn [3], that stay [0]
    all_goals (refine WC.loopG (fun x => (None : Fr)) [(0, _)] (None) (None) (None) ⟨rfl, rfl, trivial⟩ (by exact ⟨⟩) ?_)
    all_goals (rintro x h1 hI)
    all_goals (refine WC.sub [(3, _), (0, _)] ⟨rfl, rfl, trivial⟩ ?_)
    all_goals (refine WC.seq ?_)
    all_goals (refine WC.sr ?_)
    all_goals (refine Go ?_)
    all_goals (refine goC 3 4 ?_ ?_ <;> first | exact ⟨⟩ | refine Hb.mk fun hb => ?_ | skip)
    all_goals (first | (fail_if_success refine goB 3 ?_) | (
    refine goB 3 ?_
    all_goals (refine WC.skip ?_)
    skip))
    all_goals (first | (fail_if_success refine goB 4 ?_) | (
    refine goB 4 ?_
    all_goals (refine WC.exit ?_)
    all_goals (repeat' (with_reducible first | refine thenP_x ?_ | refine blockP_miss rfl ?_ | refine blockP_hit ?_ | refine blockP_n ?_ | refine thenP_n ?_))
    all_goals (refine Br.out (i := 1000) ?_)
    skip))
    all_goals (refine Gn ?_)
    all_goals (first | (refine Br.keep ?_) | (refine Gs [(0, _), (3, _)] ?_))
    all_goals (first | (refine Br.keep ?_) | (refine WC.seq ?_))
    all_goals (first | (refine Br.keep ?_) | (refine WC.block ?_))
    all_goals (first | (refine Br.keep ?_) | (refine WC.sr ?_))
    all_goals (refine Go ?_)
    all_goals (first | (refine Br.keep ?_) | (refine WL.step (ok_idxAddrA Tryz.underlying24 (fun w => Tryz.sizeOf264 w) rfl rfl rfl (by omega) (by first | rfl | assumption)) rfl rfl rfl ?_))
    all_goals (first | (refine Br.keep ?_) | (refine WL.step (ok_loadN (fun w => Tryz.isAgg264 w) (fun w => Tryz.sizeOf264 w) rfl rfl (by assumption)) rfl rfl rfl ?_))
    all_goals (first
                 | (refine Br.keep ?_)
                 | (refine WL.stepR (okE_alloc (fun w => Tryz.zeroValue264 w)) rfl rfl rfl ?_
                    rintro _ h1 ⟨b1, rfl, hg1, hb1, hx1⟩))
    all_goals (first
                 | (refine Br.keep ?_)
                 | (refine WL.stepR0 (okE_storeW (fun w => Tryz.sizeOf264 w) rfl rfl rfl (by assumption) rfl (by simp [Value.oneCell'])) rfl rfl ?_
                    rintro _ h1 ⟨hb1, hx1⟩))
    all_goals (refine Gn ?_)
    all_goals (first | (refine Br.keep ?_) | (refine Gs [(0, _), (3, _), (4, _)] ?_))
    all_goals (first | (refine Br.keep ?_) | (refine WC.seq ?_))
    all_goals (first | (refine Br.keep ?_) | (refine WC.sr ?_))
    all_goals (refine Go ?_)
    all_goals (first | (refine Br.keep ?_) | (refine Ld ?_))
    all_goals (first | (refine Br.keep ?_) | (fail "no contract for call of remuda/remudaref02.Clean at 7.2"))
    all_goals (refine Go ?_)
    all_goals (first | (refine Br.keep ?_) | (refine goP 22 ?_ ?_ <;> first | exact ⟨⟩ | refine Hb.mk fun hb => ?_ | skip))
    all_goals (refine Gg ?_)
    all_goals (first | (refine Br.keep ?_) | (first | (refine WL.pass rfl rfl rfl ?_) | (refine Ld ?_)))
    all_goals (first | (refine Br.keep ?_) | (first | (refine WL.pass rfl rfl rfl ?_) | (fail "no contract for call of remuda/remudaref07.in at 7.7")))
    all_goals (refine Gg ?_)
    all_goals (refine Go ?_)
    all_goals (first | (refine Br.keep ?_) | (refine goP 28 ?_ ?_ <;> first | exact ⟨⟩ | refine Hb.mk fun hb => ?_ | skip))
    all_goals (refine Gg ?_)
    all_goals (first | (refine Br.keep ?_) | (first | (refine WL.pass rfl rfl rfl ?_) | (refine Ld ?_)))
    all_goals (first | (refine Br.keep ?_) | (first | (refine WL.pass rfl rfl rfl ?_) | (fail "no contract for call of remuda/remudaref07.in at 7.13")))
    all_goals (refine Gg ?_)
    all_goals (refine Go ?_)
    all_goals (first | (refine Br.keep ?_) | (refine goP 34 ?_ ?_ <;> first | exact ⟨⟩ | refine Hb.mk fun hb => ?_ | skip))
    all_goals (refine Gg ?_)
    all_goals (first | (refine Br.keep ?_) | (first | (refine WL.pass rfl rfl rfl ?_) | (refine Ld ?_)))
    all_goals (first | (refine Br.keep ?_) | (first | (refine WL.pass rfl rfl rfl ?_) | (fail "no contract for call of remuda/remudaref07.in at 7.19")))
    all_goals (refine Gg ?_)
    all_goals (refine Go ?_)
    all_goals (first | (refine Br.keep ?_) | (refine Gs [(0, _), (3, _), (4, _), (39, _)] ?_))
    all_goals (first | (refine Br.keep ?_) | (refine goC 5 6 ?_ ?_ <;> first | exact ⟨⟩ | refine Hb.mk fun hb => ?_ | skip))
    all_goals (first | (fail_if_success refine goB 5 ?_) | (
    refine goB 5 ?_
    all_goals (refine WC.sr ?_)
    all_goals (refine Go ?_)
    all_goals (refine Gs [(2, _)] ?_)
    all_goals (refine Gt ?_)
    all_goals (exact ⟨congrArg Value.bool (decide_eq_false (fun z => hm z.1)).symm, .refl _ _⟩)
    skip))
    all_goals (first | (fail_if_success refine goB 6 ?_) | (
    refine goB 6 ?_
    all_goals (refine WC.skip ?_)
    skip))
    all_goals (refine Gn ?_)
    all_goals (first | (refine Br.keep ?_) | (refine WC.sr ?_))
    all_goals (refine Go ?_)
    all_goals (first | (refine Br.keep ?_) | (refine Ld ?_))
    all_goals (first | (refine Br.keep ?_) | (fail "no contract for call of remuda/remudaref07.in at 9.2"))
    all_goals (refine Go ?_)
    all_goals (first | (refine Br.keep ?_) | (refine goP 44 ?_ ?_ <;> first | exact ⟨⟩ | refine Hb.mk fun hb => ?_ | skip))
    all_goals (refine Gg ?_)
    all_goals (first | (refine Br.keep ?_) | (first | (refine WL.pass rfl rfl rfl ?_) | (refine Ld ?_)))
    all_goals (first | (refine Br.keep ?_) | (first | (refine WL.pass rfl rfl rfl ?_) | (fail "no contract for call of remuda/remudaref07.in at 9.7")))
    all_goals (refine Gg ?_)
    all_goals (refine Go ?_)
    all_goals (first | (refine Br.keep ?_) | (refine goP 50 ?_ ?_ <;> first | exact ⟨⟩ | refine Hb.mk fun hb => ?_ | skip))
    all_goals (refine Gg ?_)
    all_goals (first | (refine Br.keep ?_) | (first | (refine WL.pass rfl rfl rfl ?_) | (refine Ld ?_)))
    all_goals (first | (refine Br.keep ?_) | (first | (refine WL.pass rfl rfl rfl ?_) | (fail "no contract for call of remuda/remudaref07.in at 9.13")))
    all_goals (refine Gg ?_)
    all_goals (refine Go ?_)
    all_goals (first | (refine Br.keep ?_) | (refine Gs [(0, _), (3, _), (55, _)] ?_))
    all_goals (first | (refine Br.keep ?_) | (refine goC 7 8 ?_ ?_ <;> first | exact ⟨⟩ | refine Hb.mk fun hb => ?_ | skip))
    all_goals (first | (fail_if_success refine goB 7 ?_) | (
    refine goB 7 ?_
    all_goals (refine WC.sr ?_)
    all_goals (refine Go ?_)
    all_goals (refine Gt ?_)
    all_goals (exact ⟨congrArg Value.bool (decide_eq_false (fun z => hm z.1)).symm, .refl _ _⟩)
    skip))
    all_goals (first | (fail_if_success refine goB 8 ?_) | (
    refine goB 8 ?_
    all_goals (refine WC.skip ?_)
    skip))
    all_goals (refine Gn ?_)
    all_goals (first | (refine Br.keep ?_) | (refine WC.region ?_))
    all_goals (refine Go ?_)
    all_goals (first | (refine Br.keep ?_) | (exact ⟨None, ⟨rfl, rfl, trivial⟩, (by exact ⟨⟩), (by simp; omega)⟩))
    all_goals (try (refine Br.mk (i := 1000) ?_))
    all_goals (refine Gn ?_)
    all_goals (refine Gs [] ?_)
    all_goals (refine WC.sr ?_)
    all_goals (refine Go ?_)
    all_goals (refine Gt ?_)
    all_goals (exact ⟨congrArg Value.bool (decide_eq_false (fun z => hm z.1)).symm, .refl _ _⟩)
set_option maxHeartbeats 2000000 in
set_option maxRecDepth 100000 in
theorem fields07W {h : Heap} {v : Value} (l : List FieldD) (hr : Rd h v 2 l.length (l.flatMap FieldD.cells)) (ht : ∀ c ∈ l, c.t.length ≤ 1048576) :
    CallsH Tryz.prog 155 ⟨[v]⟩ h fun u h' => u = .bool (decide (l.length ≤ 65535 ∧ ∀ c ∈ l, c.okB)) ∧ h' = h := by
  by_cases hm : l.length ≤ 65535
  · exact (fields07 l hr hm ht).mono fun u h' ⟨a, x⟩ => ⟨by rw [a, many_dec hm], x⟩
  · obtain ⟨A, c, rfl, _⟩ := id hr
    refine calls [(0, _)] Tryz.func155 rfl Tryz.ntmps155 rfl ⟨rfl, trivial⟩ ?_
    all_goals (refine WC.sr ?_)
    all_goals (refine Go ?_)
    all_goals (refine WC.seq ?_)
    all_goals (refine WC.sr ?_)
    all_goals (refine Go ?_)
    all_goals (refine goC 1 2 ?_ ?_ <;> first | exact ⟨⟩ | refine Hb.mk fun hb => ?_ | skip)
    all_goals (first | (fail_if_success refine goB 1 ?_) | (
    refine goB 1 ?_
    all_goals (refine WC.sr ?_)
    all_goals (refine Go ?_)
    all_goals (refine Gs [(2, _)] ?_)
    all_goals (refine Gt ?_)
    all_goals (exact ⟨congrArg Value.bool (decide_eq_false (fun z => hm z.1)).symm, rfl⟩)
    skip))
    all_goals (first | (fail_if_success refine goB 2 ?_) | (
    refine goB 2 ?_
    all_goals (refine WC.skip ?_)
    skip))
    all_goals (refine Gn ?_)
    all_goals (refine Gs [(0, _)] ?_)
    all_goals (refine WC.seq ?_)
    all_goals (refine WC.sr ?_)
    all_goals (refine Go ?_)
    all_goals (refine WC.block ?_)
    -- loop 0: slots that turn [3], that stay [0]
    all_goals (refine WC.loopG (fun x => (None : Fr)) [(0, _)] (None) (None) (None) ⟨rfl, rfl, trivial⟩ (by exact ⟨⟩) ?_)
    all_goals (rintro x h1 hI)
    all_goals (refine WC.sub [(3, _), (0, _)] ⟨rfl, rfl, trivial⟩ ?_)
    all_goals (refine WC.seq ?_)
    all_goals (refine WC.sr ?_)
    all_goals (refine Go ?_)
    all_goals (refine goC 3 4 ?_ ?_ <;> first | exact ⟨⟩ | refine Hb.mk fun hb => ?_ | skip)
    all_goals (first | (fail_if_success refine goB 3 ?_) | (
    refine goB 3 ?_
    all_goals (refine WC.skip ?_)
    skip))
    all_goals (first | (fail_if_success refine goB 4 ?_) | (
    refine goB 4 ?_
    all_goals (refine WC.exit ?_)
    all_goals (repeat' (with_reducible first | refine thenP_x ?_ | refine blockP_miss rfl ?_ | refine blockP_hit ?_ | refine blockP_n ?_ | refine thenP_n ?_))
    all_goals (refine Br.out (i := 1000) ?_)
    skip))
    all_goals (refine Gn ?_)
    all_goals (first | (refine Br.keep ?_) | (refine Gs [(0, _), (3, _)] ?_))
    all_goals (first | (refine Br.keep ?_) | (refine WC.seq ?_))
    all_goals (first | (refine Br.keep ?_) | (refine WC.block ?_))
    all_goals (first | (refine Br.keep ?_) | (refine WC.sr ?_))
    all_goals (refine Go ?_)
    all_goals (first | (refine Br.keep ?_) | (refine WL.step (ok_idxAddrA Tryz.underlying26 (fun w => Tryz.sizeOf266 w) rfl rfl rfl (by omega) (by first | rfl | assumption)) rfl rfl rfl ?_))
    all_goals (refine Go ?_)
    all_goals (first | (refine Br.keep ?_) | (refine Ld ?_))
    all_goals (refine Go ?_)
    all_goals (first | (refine Br.keep ?_) | (refine goP 19 ?_ ?_ <;> first | exact ⟨⟩ | refine Hb.mk fun hb => ?_ | skip))
    all_goals (refine Gg ?_)
    all_goals (first | (refine Br.keep ?_) | (first | (refine WL.pass rfl rfl rfl ?_) | (refine WL.step (ok_idxAddrA Tryz.underlying26 (fun w => Tryz.sizeOf266 w) rfl rfl rfl (by omega) (by first | rfl | assumption)) rfl rfl rfl ?_)))
    all_goals (refine Gg ?_)
    all_goals (first | (refine Br.keep ?_) | (first | (refine WL.pass rfl rfl rfl ?_) | (refine Ld ?_)))
    all_goals (first | (refine Br.keep ?_) | (first | (refine WL.pass rfl rfl rfl ?_) | (fail "no contract for call of remuda/remudaref02.Clean at 6.12")))
    all_goals (refine Gg ?_)
    all_goals (refine Go ?_)
    all_goals (first | (refine Br.keep ?_) | (refine Gs [(0, _), (3, _), (27, _)] ?_))
    all_goals (first | (refine Br.keep ?_) | (refine goC 5 6 ?_ ?_ <;> first | exact ⟨⟩ | refine Hb.mk fun hb => ?_ | skip))
    all_goals (first | (fail_if_success refine goB 5 ?_) | (
    refine goB 5 ?_
    all_goals (refine WC.sr ?_)
    all_goals (refine Go ?_)
    all_goals (refine Gt ?_)
    all_goals (exact ⟨congrArg Value.bool (decide_eq_false (fun z => hm z.1)).symm, rfl⟩)
    skip))
    all_goals (first | (fail_if_success refine goB 6 ?_) | (
    refine goB 6 ?_
    all_goals (refine WC.skip ?_)
    skip))
    all_goals (refine Gn ?_)
    all_goals (first | (refine Br.keep ?_) | (refine WC.region ?_))
    all_goals (refine Go ?_)
    all_goals (first | (refine Br.keep ?_) | (exact ⟨None, ⟨rfl, rfl, trivial⟩, (by exact ⟨⟩), (by simp; omega)⟩))
    all_goals (try (refine Br.mk (i := 1000) ?_))
    all_goals (refine Gn ?_)
    all_goals (refine Gs [] ?_)
    all_goals (refine WC.sr ?_)
    all_goals (refine Go ?_)
    all_goals (refine Gt ?_)
    all_goals (exact ⟨congrArg Value.bool (decide_eq_false (fun z => hm z.1)).symm, rfl⟩)
set_option maxHeartbeats 2000000 in
set_option maxRecDepth 100000 in
theorem values07W {h : Heap} {v : Value} (l : List Cel) (hl : Cels h v l) (ht : ∀ c ∈ l, c.bytes.length ≤ 1048576) :
    CallsH Tryz.prog 156 ⟨[v]⟩ h fun u h' => u = .bool (decide (l.length ≤ 65535 ∧ ∀ c ∈ l, c.okB)) ∧ h' = h := by
  by_cases hm : l.length ≤ 65535
  · exact (values07 l hl hm ht).mono fun u h' ⟨a, x⟩ => ⟨by rw [a, many_dec hm], x⟩
  · obtain ⟨hr, ⟨_, A, c, rfl, _⟩, ho⟩ := hl
    refine calls [(0, _)] Tryz.func156 rfl Tryz.ntmps156 rfl ⟨rfl, trivial⟩ ?_
    all_goals (refine WC.sr ?_)
    all_goals (refine Go ?_)
    all_goals (refine WC.seq ?_)
    all_goals (refine WC.sr ?_)
    all_goals (refine Go ?_)
    all_goals (refine goC 1 2 ?_ ?_ <;> first | exact ⟨⟩ | refine Hb.mk fun hb => ?_ | skip)
    all_goals (first | (fail_if_success refine goB 1 ?_) | (
    refine goB 1 ?_
    all_goals (refine WC.sr ?_)
    all_goals (refine Go ?_)
    all_goals (refine Gs [(2, _)] ?_)
    all_goals (refine Gt ?_)
    all_goals (exact ⟨congrArg Value.bool (decide_eq_false (fun z => hm z.1)).symm, rfl⟩)
    skip))
    all_goals (first | (fail_if_success refine goB 2 ?_) | (
    refine goB 2 ?_
    all_goals (refine WC.skip ?_)
    skip))
    all_goals (refine Gn ?_)
    all_goals (refine Gs [(0, _)] ?_)
    all_goals (refine WC.seq ?_)
    all_goals (refine WC.sr ?_)
    all_goals (refine Go ?_)
    all_goals (refine WC.block ?_)
    -- loop 0: slots that turn [3], that stay [0]
    all_goals (refine WC.loopG (fun x => (None : Fr)) [(0, _)] (None) (None) (None) ⟨rfl, rfl, trivial⟩ (by exact ⟨⟩) ?_)
    all_goals (rintro x h1 hI)
    all_goals (refine WC.sub [(3, _), (0, _)] ⟨rfl, rfl, trivial⟩ ?_)
    all_goals (refine WC.seq ?_)
    all_goals (refine WC.sr ?_)
    all_goals (refine Go ?_)
    all_goals (refine goC 3 4 ?_ ?_ <;> first | exact ⟨⟩ | refine Hb.mk fun hb => ?_ | skip)
    all_goals (first | (fail_if_success refine goB 3 ?_) | (
    refine goB 3 ?_
    all_goals (refine WC.skip ?_)
    skip))
    all_goals (first | (fail_if_success refine goB 4 ?_) | (
    refine goB 4 ?_
    all_goals (refine WC.exit ?_)
    all_goals (repeat' (with_reducible first | refine thenP_x ?_ | refine blockP_miss rfl ?_ | refine blockP_hit ?_ | refine blockP_n ?_ | refine thenP_n ?_))
    all_goals (refine Br.out (i := 1000) ?_)
    skip))
    all_goals (refine Gn ?_)
    all_goals (first | (refine Br.keep ?_) | (refine Gs [(0, _), (3, _)] ?_))
    all_goals (first | (refine Br.keep ?_) | (refine WC.seq ?_))
    all_goals (first | (refine Br.keep ?_) | (refine WC.block ?_))
    all_goals (first | (refine Br.keep ?_) | (refine WC.sr ?_))
    all_goals (refine Go ?_)
    all_goals (first | (refine Br.keep ?_) | (refine WL.step (ok_idxAddrA Tryz.underlying25 (fun w => Tryz.sizeOf262 w) rfl rfl rfl (by omega) (by first | rfl | assumption)) rfl rfl rfl ?_))
    all_goals (refine Go ?_)
    all_goals (first | (refine Br.keep ?_) | (refine Ld ?_))
    all_goals (refine Go ?_)
    all_goals (first | (refine Br.keep ?_) | (refine goP 18 ?_ ?_ <;> first | exact ⟨⟩ | refine Hb.mk fun hb => ?_ | skip))
    all_goals (refine Gg ?_)
    all_goals (first | (refine Br.keep ?_) | (first | (refine WL.pass rfl rfl rfl ?_) | (refine WL.step (ok_idxAddrA Tryz.underlying25 (fun w => Tryz.sizeOf262 w) rfl rfl rfl (by omega) (by first | rfl | assumption)) rfl rfl rfl ?_)))
    all_goals (refine Gg ?_)
    all_goals (first | (refine Br.keep ?_) | (first | (refine WL.pass rfl rfl rfl ?_) | (refine Ld ?_)))
    all_goals (refine Gg ?_)
    all_goals (refine Go ?_)
    all_goals (first | (refine Br.keep ?_) | (refine goP 27 ?_ ?_ <;> first | exact ⟨⟩ | refine Hb.mk fun hb => ?_ | skip))
    all_goals (refine Gg ?_)
    all_goals (first | (refine Br.keep ?_) | (first | (refine WL.pass rfl rfl rfl ?_) | (refine WL.step (ok_idxAddrA Tryz.underlying25 (fun w => Tryz.sizeOf262 w) rfl rfl rfl (by omega) (by first | rfl | assumption)) rfl rfl rfl ?_)))
    all_goals (refine Gg ?_)
    all_goals (first | (refine Br.keep ?_) | (first | (refine WL.pass rfl rfl rfl ?_) | (refine Ld ?_)))
    all_goals (refine Gg ?_)
    all_goals (refine Go ?_)
    all_goals (first | (refine Br.keep ?_) | (refine Gs [(0, _), (3, _), (35, _)] ?_))
    all_goals (first | (refine Br.keep ?_) | (refine goC 5 6 ?_ ?_ <;> first | exact ⟨⟩ | refine Hb.mk fun hb => ?_ | skip))
    all_goals (first | (fail_if_success refine goB 5 ?_) | (
    refine goB 5 ?_
    all_goals (refine WC.sr ?_)
    all_goals (refine Go ?_)
    all_goals (refine Gt ?_)
    all_goals (exact ⟨congrArg Value.bool (decide_eq_false (fun z => hm z.1)).symm, rfl⟩)
    skip))
    all_goals (first | (fail_if_success refine goB 6 ?_) | (
    refine goB 6 ?_
    all_goals (refine WC.skip ?_)
    skip))
    all_goals (refine Gn ?_)
    all_goals (first | (refine Br.keep ?_) | (refine WC.region ?_))
    all_goals (refine Go ?_)
    all_goals (first | (refine Br.keep ?_) | (exact ⟨None, ⟨rfl, rfl, trivial⟩, (by exact ⟨⟩), (by simp; omega)⟩))
    all_goals (try (refine Br.mk (i := 1000) ?_))
    all_goals (refine Gn ?_)
    all_goals (refine Gs [] ?_)
    all_goals (refine WC.sr ?_)
    all_goals (refine Go ?_)
    all_goals (refine Gt ?_)
    all_goals (exact ⟨congrArg Value.bool (decide_eq_false (fun z => hm z.1)).symm, rfl⟩)
set_option maxHeartbeats 4000000 in
set_option maxRecDepth 100000 in
theorem checkW07 {h : Heap} (b : Bk) (hb : b.ok h) (hk0 : 0 ≤ b.kind ∧ b.kind ≤ 255) (hmd : b.big) :
    CallsH Tryz.prog 65 ⟨[.agg ⟨b.cells⟩]⟩ h fun u h' => (∃ e, u = In e ∧ (e = 0 ↔ b.may)) ∧ Ext No h h' := by
  have hof := fun {h' : Heap} (hx : Ext No h h') => kept07 (h := h') b (hb.ext0 hx)
  have hsa := fun {h' : Heap} (hx : Ext No h h') => same07A (h := h') b (ofB b) (hb.ext0 hx) (ofB_ok (hb.ext0 hx))
  have hsc := st_cases b.kind b.status
  have hst : (b.kind ≠ 90 ∨ b.status = 73 ∨ b.status = 84 ∨ b.status = 69) ↔ b.stOk := Iff.rfl
  have hmk := may_kind hk0
  have hyes : KnownK b.kind → cleanB b.tag = true → cleanB b.name = true → cleanB b.value = true → (b.cols.length ≤ 65535 ∧ ∀ c ∈ b.cols, c.okB) → (b.fields.length ≤ 65535 ∧ ∀ c ∈ b.fields, c.okB) → (b.row.length ≤ 65535 ∧ ∀ c ∈ b.row, c.okB) → (b.oids.length ≤ 65535 ∧ ∀ n ∈ b.oids, 0 ≤ n ∧ n ≤ 4294967295) → (0 ≤ b.n ∧ b.n ≤ 4294967295) → (0 ≤ b.m ∧ b.m ≤ 4294967295) → b.stOk → b.pl = (ofB b).pl → b.may := fun a1 a2 a3 a4 a5 a6 a7 a8 a9 a10 a11 a12 =>
    ⟨hmk.2 a1, a2, a3, a4, a5, a6, a7, a8, a9, a10, a11, a12.symm⟩
  have hnk : ¬ KnownK b.kind → ¬ b.may := fun a z => a (hmk.1 z.kind)
  have hn1 : cleanB b.tag = false → ¬ b.may := fun a z => by rw [z.tag] at a; cases a
  have hn2 : cleanB b.name = false → ¬ b.may := fun a z => by rw [z.name] at a; cases a
  have hn3 : cleanB b.value = false → ¬ b.may := fun a z => by rw [z.value] at a; cases a
  have hn4 : ¬ (b.cols.length ≤ 65535 ∧ ∀ c ∈ b.cols, c.okB) → ¬ b.may := fun a z => a z.cols
  have hn5 : ¬ (b.fields.length ≤ 65535 ∧ ∀ c ∈ b.fields, c.okB) → ¬ b.may := fun a z => a z.fields
  have hn6 : ¬ (b.row.length ≤ 65535 ∧ ∀ c ∈ b.row, c.okB) → ¬ b.may := fun a z => a z.row
  have hn7 : ¬ (b.oids.length ≤ 65535 ∧ ∀ n ∈ b.oids, 0 ≤ n ∧ n ≤ 4294967295) → ¬ b.may := fun a z => a z.oids
  have hn8 : ¬ (0 ≤ b.n ∧ b.n ≤ 4294967295) → ¬ b.may := fun a z => a z.n
  have hn9 : ¬ (0 ≤ b.m ∧ b.m ≤ 4294967295) → ¬ b.may := fun a z => a z.m
  have hn10 : ¬ b.stOk → ¬ b.may := fun a z => a z.st
  have hn11 : ¬ b.pl = (ofB b).pl → ¬ b.may := fun a z => a z.own.symm
  generalize hob : ofB b = ob at hof hsa hyes hn11
  generalize b.may = BM at hyes hnk hn1 hn2 hn3 hn4 hn5 hn6 hn7 hn8 hn9 hn10 hn11 ⊢
  obtain ⟨ho, hc, hr, hf⟩ := hb
  obtain ⟨md5, md6, md7, md8, md9, md10⟩ := hmd
  generalize hPL : b.pl = PL at hsa hyes hn11
  generalize hST : b.stOk = ST at hst hyes hn10
  obtain ⟨k, st, t, n, v, x, y, vo, lo, vc, lc, vr, lr, vf, lf⟩ := b
  simp only at hk0 ho hc hr hf md5 md6 md7 md8 md9 md10 hyes hnk hn1 hn2 hn3 hn4 hn5 hn6 hn7 hn8 hn9 hst hsc
  dsimp only [Bk.cells] at hof hsa ⊢
  refine calls [(0, _)] Tryz.func65 rfl Tryz.ntmps65 rfl ⟨rfl, trivial⟩ ?_
  all_goals (refine WC.sr ?_)
  all_goals (refine WL.stepR (okE_box rfl) rfl rfl rfl ?_
             rintro _ g1 ⟨b1, rfl, hg1, hb1, hx1⟩)
  all_goals (refine Go ?_)
  all_goals (refine WC.seq ?_)
  all_goals (refine WC.sr ?_)
  all_goals (refine Go ?_)
  all_goals (refine Ld ?_)
  all_goals (refine WL.call (vs := [_]) rfl (fun a w => Tryz.call150 a w) rfl (kind07 k) rfl rfl rfl ?_
             rintro _ h9 ⟨⟨kx, rfl, hkx⟩, hz9⟩)
  all_goals (subst h9
             cases kx)
  all_goals (refine Go ?_)
  all_goals (refine Gs [(1, _), (9, _)] ?_)
  all_goals (refine goC 1 2 ?_ ?_ <;> first | exact ⟨⟩ | refine Hb.mk fun hb => ?_ | skip)
  all_goals (first | (fail_if_success refine goB 1 ?_) | (
  refine goB 1 ?_
  all_goals (refine WC.sr ?_)
  all_goals (refine Go ?_)
  all_goals (refine Gt ?_)
  all_goals (first
              | exact ⟨⟨0, rfl, ⟨fun _ => hyes (hkx.1 rfl) c1 c2 c3 c4 c5 c6 c7 c8 c9 (hst.1 (by omega)) (hsx.1 rfl), fun _ => rfl⟩⟩, hX8.trans hx9⟩
              | (refine ⟨⟨_, rfl, ⟨fun z => absurd z (by decide), fun z => absurd z ?_⟩⟩, ?_⟩
                 · first | exact hnk (fun z => Bool.false_ne_true (hkx.2 z)) | exact hn1 c1 | exact hn2 c2 | exact hn3 c3 | exact hn8 c8 | exact hn9 c9 | exact hn7 c7 | exact hn10 (fun z => by have := hst.2 z; omega) | exact hn4 c4 | exact hn5 c5 | exact hn6 c6 | exact hn11 (fun z => Bool.false_ne_true (hsx.2 z))
                 · first | exact hX8.trans hx9 | exact hX3 | exact hx1))
  skip))
  all_goals (first | (fail_if_success refine goB 2 ?_) | (
  refine goB 2 ?_
  all_goals (refine WC.skip ?_)
  skip))
  all_goals (refine Gn ?_)
  all_goals (refine WC.sr ?_)
  all_goals (refine Go ?_)
  all_goals (refine Ld ?_)
  all_goals (refine WL.call (vs := [_]) rfl (fun a w => Tryz.call151 a w) rfl ((clean07 t (by omega)).bl) rfl rfl rfl ?_
             rintro _ h9 ⟨⟨rfl, c1⟩ | ⟨rfl, c1⟩, hz9⟩
             all_goals subst h9)
  all_goals (refine Go ?_)
  all_goals (refine goP 13 ?_ ?_ <;> first | exact ⟨⟩ | refine Hb.mk fun hb => ?_ | skip)
  all_goals (refine Gg ?_)
  all_goals (first | (refine WL.pass rfl rfl rfl ?_) | (refine Ld ?_))
  all_goals (first
               | (refine WL.pass rfl rfl rfl ?_)
               | (refine WL.call (vs := [_]) rfl (fun a w => Tryz.call151 a w) rfl ((clean07 n (by omega)).bl) rfl rfl rfl ?_
                  rintro _ h9 ⟨⟨rfl, c2⟩ | ⟨rfl, c2⟩, hz9⟩
                  all_goals subst h9))
  all_goals (refine Go ?_)
  all_goals (refine goP 18 ?_ ?_ <;> first | exact ⟨⟩ | refine Hb.mk fun hb => ?_ | skip)
  all_goals (refine Gg ?_)
  all_goals (first | (refine WL.pass rfl rfl rfl ?_) | (refine Ld ?_))
  all_goals (first
               | (refine WL.pass rfl rfl rfl ?_)
               | (refine WL.call (vs := [_]) rfl (fun a w => Tryz.call151 a w) rfl ((clean07 v (by omega)).bl) rfl rfl rfl ?_
                  rintro _ h9 ⟨⟨rfl, c3⟩ | ⟨rfl, c3⟩, hz9⟩
                  all_goals subst h9))
  all_goals (refine Go ?_)
  all_goals (refine Gs [(1, _), (3, _)] ?_)
  all_goals (refine WC.sr ?_)
  all_goals (refine Go ?_)
  all_goals (refine Ld ?_)
  all_goals (refine WL.call (vs := [_, _, _]) rfl (fun a w => Tryz.call152 a w) rfl ((in07 x 0 4294967295).dec) rfl rfl rfl ?_
             rintro _ h9 ⟨⟨rfl, c8⟩ | ⟨rfl, c8⟩, hz9⟩
             all_goals subst h9)
  all_goals (refine Go ?_)
  all_goals (refine goP 26 ?_ ?_ <;> first | exact ⟨⟩ | refine Hb.mk fun hb => ?_ | skip)
  all_goals (refine Gg ?_)
  all_goals (first | (refine WL.pass rfl rfl rfl ?_) | (refine Ld ?_))
  all_goals (first
               | (refine WL.pass rfl rfl rfl ?_)
               | (refine WL.call (vs := [_, _, _]) rfl (fun a w => Tryz.call152 a w) rfl ((in07 y 0 4294967295).dec) rfl rfl rfl ?_
                  rintro _ h9 ⟨⟨rfl, c9⟩ | ⟨rfl, c9⟩, hz9⟩
                  all_goals subst h9))
  all_goals (refine Go ?_)
  all_goals (refine goP 31 ?_ ?_ <;> first | exact ⟨⟩ | refine Hb.mk fun hb => ?_ | skip)
  all_goals (refine Gg ?_)
  all_goals (first | (refine WL.pass rfl rfl rfl ?_) | (refine Ld ?_))
  all_goals (first
               | (refine WL.pass rfl rfl rfl ?_)
               | (refine WL.call (vs := [_, _, _]) rfl (fun a w => Tryz.call153 a w) rfl ((between07W lo (ho.1.ext0 hx1)).dec) rfl rfl rfl ?_
                  rintro _ h9 ⟨⟨rfl, c7⟩ | ⟨rfl, c7⟩, hz9⟩
                  all_goals subst h9))
  all_goals (refine Go ?_)
  all_goals (refine Gs [(1, _), (3, _), (4, _)] ?_)
  all_goals (refine WC.sr ?_)
  all_goals (rcases hsc with q | ⟨q, q1⟩ | ⟨q, q1⟩ | ⟨q, q1⟩ | ⟨q, q1, q2, q3⟩)
  all_goals (refine WL.step (ok_fieldAddr rfl Tryz.underlying28 rfl (fun w => Tryz.sizeOf5 w)) rfl rfl rfl ?_)
  all_goals (refine Ld ?_)
  all_goals (refine Go ?_)
  all_goals (refine goP 39 ?_ ?_ <;> first | exact ⟨⟩ | refine Hb.mk fun hb => ?_ | skip)
  all_goals (refine Gg ?_)
  all_goals (first | (refine WL.pass rfl rfl rfl ?_) | (refine Ld ?_))
  all_goals (refine Gg ?_)
  all_goals (refine Go ?_)
  all_goals (refine goP 44 ?_ ?_ <;> first | exact ⟨⟩ | refine Hb.mk fun hb => ?_ | skip)
  all_goals (refine Gg ?_)
  all_goals (first | (refine WL.pass rfl rfl rfl ?_) | (refine Ld ?_))
  all_goals (refine Gg ?_)
  all_goals (refine Go ?_)
  all_goals (refine goP 49 ?_ ?_ <;> first | exact ⟨⟩ | refine Hb.mk fun hb => ?_ | skip)
  all_goals (refine Gg ?_)
  all_goals (first | (refine WL.pass rfl rfl rfl ?_) | (refine Ld ?_))
  all_goals (refine Gg ?_)
  all_goals (refine Go ?_)
  all_goals (refine Gs [(1, _), (3, _), (4, _), (5, _)] ?_)
  all_goals (refine WC.seq ?_)
  all_goals (refine WC.seq ?_)
  all_goals (refine WC.drawH (fun h' => h'[b1]? = some (.cells ⟨[.int .u8 k, .int .u8 st, St t, St n, St v, In x, In y, vo, vc, vr, vf]⟩ 28 (0, 0))) 35 35 rfl fol ?_)
  all_goals (refine WH.tk 0 rfl (fun hq hC => ok_move rfl) rfl rfl rfl ?_ (hC := (by first | exact hb9 | exact hb8 | exact hb7 | exact hb6 | exact hb5 | exact hb4 | exact hb3 | exact hb1)))
  all_goals (refine WH.tk 1 rfl (fun hq hC => ok_not rfl) rfl rfl rfl ?_ (hC := (by first | exact hb9 | exact hb8 | exact hb7 | exact hb6 | exact hb5 | exact hb4 | exact hb3 | exact hb1)))
  all_goals (refine WH.tk 2 rfl (fun hq hC => ok_move rfl) rfl rfl rfl ?_ (hC := (by first | exact hb9 | exact hb8 | exact hb7 | exact hb6 | exact hb5 | exact hb4 | exact hb3 | exact hb1)))
  all_goals (try ((fail_if_success (refine WH.part 56 (b := true) rfl (fun _ => ?_) (fun _ => ?_))); (fail_if_success (refine WH.part 56 (b := false) rfl (fun _ => ?_) (fun _ => ?_))); (refine WH.part 56 rfl (fun hb => ?_) (fun hb => ?_))))
  all_goals (first | (refine WH.ps 3 rfl rfl rfl rfl ?_ (hC := (by first | exact hb9 | exact hb8 | exact hb7 | exact hb6 | exact hb5 | exact hb4 | exact hb3 | exact hb1))) | (refine WH.tk 3 rfl (fun hq hC => ok_move rfl) rfl rfl rfl ?_ (hC := (by first | exact hb9 | exact hb8 | exact hb7 | exact hb6 | exact hb5 | exact hb4 | exact hb3 | exact hb1))))
  all_goals (first | (refine WH.ps 4 rfl rfl rfl rfl ?_ (hC := (by first | exact hb9 | exact hb8 | exact hb7 | exact hb6 | exact hb5 | exact hb4 | exact hb3 | exact hb1))) | (refine WH.tk 4 rfl (fun hq hC => ok_not rfl) rfl rfl rfl ?_ (hC := (by first | exact hb9 | exact hb8 | exact hb7 | exact hb6 | exact hb5 | exact hb4 | exact hb3 | exact hb1))))
  all_goals (first | (refine WH.tk 5 rfl (fun hq hC => ok_pick_t rfl rfl) rfl rfl rfl ?_ (hC := (by first | exact hb9 | exact hb8 | exact hb7 | exact hb6 | exact hb5 | exact hb4 | exact hb3 | exact hb1))) | (refine WH.tk 5 rfl (fun hq hC => ok_pick_f rfl rfl) rfl rfl rfl ?_ (hC := (by first | exact hb9 | exact hb8 | exact hb7 | exact hb6 | exact hb5 | exact hb4 | exact hb3 | exact hb1))))
  all_goals (refine WH.tk 6 rfl (fun hq hC => ok_move rfl) rfl rfl rfl ?_ (hC := (by first | exact hb9 | exact hb8 | exact hb7 | exact hb6 | exact hb5 | exact hb4 | exact hb3 | exact hb1)))
  all_goals (try ((fail_if_success (refine WH.part 60 (b := true) rfl (fun _ => ?_) (fun _ => ?_))); (fail_if_success (refine WH.part 60 (b := false) rfl (fun _ => ?_) (fun _ => ?_))); (refine WH.part 60 rfl (fun hb => ?_) (fun hb => ?_))))
  all_goals (first | (refine WH.ps 7 rfl rfl rfl rfl ?_ (hC := (by first | exact hb9 | exact hb8 | exact hb7 | exact hb6 | exact hb5 | exact hb4 | exact hb3 | exact hb1))) | (refine WH.tk 7 rfl (fun hq hC => ok_move rfl) rfl rfl rfl ?_ (hC := (by first | exact hb9 | exact hb8 | exact hb7 | exact hb6 | exact hb5 | exact hb4 | exact hb3 | exact hb1))))
  all_goals (first | (refine WH.ps 8 rfl rfl rfl rfl ?_ (hC := (by first | exact hb9 | exact hb8 | exact hb7 | exact hb6 | exact hb5 | exact hb4 | exact hb3 | exact hb1))) | (refine WH.tk 8 rfl (fun hq hC => ok_not rfl) rfl rfl rfl ?_ (hC := (by first | exact hb9 | exact hb8 | exact hb7 | exact hb6 | exact hb5 | exact hb4 | exact hb3 | exact hb1))))
  all_goals (first | (refine WH.tk 9 rfl (fun hq hC => ok_pick_t rfl rfl) rfl rfl rfl ?_ (hC := (by first | exact hb9 | exact hb8 | exact hb7 | exact hb6 | exact hb5 | exact hb4 | exact hb3 | exact hb1))) | (refine WH.tk 9 rfl (fun hq hC => ok_pick_f rfl rfl) rfl rfl rfl ?_ (hC := (by first | exact hb9 | exact hb8 | exact hb7 | exact hb6 | exact hb5 | exact hb4 | exact hb3 | exact hb1))))
  all_goals (refine WH.tk 10 rfl (fun hq hC => ok_move rfl) rfl rfl rfl ?_ (hC := (by first | exact hb9 | exact hb8 | exact hb7 | exact hb6 | exact hb5 | exact hb4 | exact hb3 | exact hb1)))
  all_goals (try ((fail_if_success (refine WH.part 64 (b := true) rfl (fun _ => ?_) (fun _ => ?_))); (fail_if_success (refine WH.part 64 (b := false) rfl (fun _ => ?_) (fun _ => ?_))); (refine WH.part 64 rfl (fun hb => ?_) (fun hb => ?_))))
  all_goals (first | (refine WH.ps 11 rfl rfl rfl rfl ?_ (hC := (by first | exact hb9 | exact hb8 | exact hb7 | exact hb6 | exact hb5 | exact hb4 | exact hb3 | exact hb1))) | (refine WH.tk 11 rfl (fun hq hC => ok_fieldAddr rfl Tryz.underlying28 rfl (fun w => Tryz.sizeOf24 w)) rfl rfl rfl ?_ (hC := (by first | exact hb9 | exact hb8 | exact hb7 | exact hb6 | exact hb5 | exact hb4 | exact hb3 | exact hb1))))
  all_goals (first | (refine WH.ps 12 rfl rfl rfl rfl ?_ (hC := (by first | exact hb9 | exact hb8 | exact hb7 | exact hb6 | exact hb5 | exact hb4 | exact hb3 | exact hb1))) | (refine WH.tk 12 rfl (fun hq hC => ok_load (fun w => Tryz.isAgg24 w) rfl (cell_blk hC rfl)) rfl rfl rfl ?_ (hC := (by first | exact hb9 | exact hb8 | exact hb7 | exact hb6 | exact hb5 | exact hb4 | exact hb3 | exact hb1))))
  all_goals (first
    | (refine WH.ps 13 rfl rfl rfl rfl ?_ (hC := (by first | exact hb9 | exact hb8 | exact hb7 | exact hb6 | exact hb5 | exact hb4 | exact hb3 | exact hb1)))
    | (all_goals (refine WH.one 13 (by kernel_rfl) ?_)
       all_goals (refine Comes1.call (vs := [_]) rfl rfl (fun a w => Tryz.call154 a w) rfl ((cols07W lc (hc.1.ext0 hx1) (fun c hc => by have := md5 c hc; omega)).dec) rfl rfl rfl ?_ (fun _ => by kernel_rfl)
                  rintro _ g3 ⟨⟨rfl, c4⟩ | ⟨rfl, c4⟩, hx3⟩
                  all_goals have hb3 := hx3.obj hb1 nos
                  all_goals have hX3 := hx1.trans hx3)
       all_goals (refine ⟨fun _ => hb3, ?_⟩)
       skip))
  all_goals (first | (refine WH.ps 14 rfl rfl rfl rfl ?_ (hC := (by first | exact hb9 | exact hb8 | exact hb7 | exact hb6 | exact hb5 | exact hb4 | exact hb3 | exact hb1))) | (refine WH.tk 14 rfl (fun hq hC => ok_not rfl) rfl rfl rfl ?_ (hC := (by first | exact hb9 | exact hb8 | exact hb7 | exact hb6 | exact hb5 | exact hb4 | exact hb3 | exact hb1))))
  all_goals (first | (refine WH.tk 15 rfl (fun hq hC => ok_pick_t rfl rfl) rfl rfl rfl ?_ (hC := (by first | exact hb9 | exact hb8 | exact hb7 | exact hb6 | exact hb5 | exact hb4 | exact hb3 | exact hb1))) | (refine WH.tk 15 rfl (fun hq hC => ok_pick_f rfl rfl) rfl rfl rfl ?_ (hC := (by first | exact hb9 | exact hb8 | exact hb7 | exact hb6 | exact hb5 | exact hb4 | exact hb3 | exact hb1))))
  all_goals (refine WH.tk 16 rfl (fun hq hC => ok_move rfl) rfl rfl rfl ?_ (hC := (by first | exact hb9 | exact hb8 | exact hb7 | exact hb6 | exact hb5 | exact hb4 | exact hb3 | exact hb1)))
  all_goals (try ((fail_if_success (refine WH.part 70 (b := true) rfl (fun _ => ?_) (fun _ => ?_))); (fail_if_success (refine WH.part 70 (b := false) rfl (fun _ => ?_) (fun _ => ?_))); (refine WH.part 70 rfl (fun hb => ?_) (fun hb => ?_))))
  all_goals (first | (refine WH.ps 17 rfl rfl rfl rfl ?_ (hC := (by first | exact hb9 | exact hb8 | exact hb7 | exact hb6 | exact hb5 | exact hb4 | exact hb3 | exact hb1))) | (refine WH.tk 17 rfl (fun hq hC => ok_fieldAddr rfl Tryz.underlying28 rfl (fun w => Tryz.sizeOf26 w)) rfl rfl rfl ?_ (hC := (by first | exact hb9 | exact hb8 | exact hb7 | exact hb6 | exact hb5 | exact hb4 | exact hb3 | exact hb1))))
  all_goals (first | (refine WH.ps 18 rfl rfl rfl rfl ?_ (hC := (by first | exact hb9 | exact hb8 | exact hb7 | exact hb6 | exact hb5 | exact hb4 | exact hb3 | exact hb1))) | (refine WH.tk 18 rfl (fun hq hC => ok_load (fun w => Tryz.isAgg26 w) rfl (cell_blk hC rfl)) rfl rfl rfl ?_ (hC := (by first | exact hb9 | exact hb8 | exact hb7 | exact hb6 | exact hb5 | exact hb4 | exact hb3 | exact hb1))))
  all_goals (first
    | (refine WH.ps 19 rfl rfl rfl rfl ?_ (hC := (by first | exact hb9 | exact hb8 | exact hb7 | exact hb6 | exact hb5 | exact hb4 | exact hb3 | exact hb1)))
    | (all_goals (refine WH.one 19 (by kernel_rfl) ?_)
       all_goals (refine Comes1.call (vs := [_]) rfl rfl (fun a w => Tryz.call155 a w) rfl ((fields07W lf (hf.1.ext0 hX3) (fun c hc => by have := md7 c hc; omega)).dec) rfl rfl rfl ?_ (fun _ => by kernel_rfl)
                  rintro _ h9 ⟨⟨rfl, c5⟩ | ⟨rfl, c5⟩, hz9⟩
                  all_goals subst h9)
       all_goals (refine ⟨fun _ => by first | assumption | trivial, ?_⟩)
       skip))
  all_goals (first | (refine WH.ps 20 rfl rfl rfl rfl ?_ (hC := (by first | exact hb9 | exact hb8 | exact hb7 | exact hb6 | exact hb5 | exact hb4 | exact hb3 | exact hb1))) | (refine WH.tk 20 rfl (fun hq hC => ok_not rfl) rfl rfl rfl ?_ (hC := (by first | exact hb9 | exact hb8 | exact hb7 | exact hb6 | exact hb5 | exact hb4 | exact hb3 | exact hb1))))
  all_goals (first | (refine WH.tk 21 rfl (fun hq hC => ok_pick_t rfl rfl) rfl rfl rfl ?_ (hC := (by first | exact hb9 | exact hb8 | exact hb7 | exact hb6 | exact hb5 | exact hb4 | exact hb3 | exact hb1))) | (refine WH.tk 21 rfl (fun hq hC => ok_pick_f rfl rfl) rfl rfl rfl ?_ (hC := (by first | exact hb9 | exact hb8 | exact hb7 | exact hb6 | exact hb5 | exact hb4 | exact hb3 | exact hb1))))
  all_goals (refine WH.tk 22 rfl (fun hq hC => ok_move rfl) rfl rfl rfl ?_ (hC := (by first | exact hb9 | exact hb8 | exact hb7 | exact hb6 | exact hb5 | exact hb4 | exact hb3 | exact hb1)))
  all_goals (try ((fail_if_success (refine WH.part 76 (b := true) rfl (fun _ => ?_) (fun _ => ?_))); (fail_if_success (refine WH.part 76 (b := false) rfl (fun _ => ?_) (fun _ => ?_))); (refine WH.part 76 rfl (fun hb => ?_) (fun hb => ?_))))
  all_goals (first | (refine WH.ps 23 rfl rfl rfl rfl ?_ (hC := (by first | exact hb9 | exact hb8 | exact hb7 | exact hb6 | exact hb5 | exact hb4 | exact hb3 | exact hb1))) | (refine WH.tk 23 rfl (fun hq hC => ok_fieldAddr rfl Tryz.underlying28 rfl (fun w => Tryz.sizeOf25 w)) rfl rfl rfl ?_ (hC := (by first | exact hb9 | exact hb8 | exact hb7 | exact hb6 | exact hb5 | exact hb4 | exact hb3 | exact hb1))))
  all_goals (first | (refine WH.ps 24 rfl rfl rfl rfl ?_ (hC := (by first | exact hb9 | exact hb8 | exact hb7 | exact hb6 | exact hb5 | exact hb4 | exact hb3 | exact hb1))) | (refine WH.tk 24 rfl (fun hq hC => ok_load (fun w => Tryz.isAgg25 w) rfl (cell_blk hC rfl)) rfl rfl rfl ?_ (hC := (by first | exact hb9 | exact hb8 | exact hb7 | exact hb6 | exact hb5 | exact hb4 | exact hb3 | exact hb1))))
  all_goals (first
    | (refine WH.ps 25 rfl rfl rfl rfl ?_ (hC := (by first | exact hb9 | exact hb8 | exact hb7 | exact hb6 | exact hb5 | exact hb4 | exact hb3 | exact hb1)))
    | (all_goals (refine WH.one 25 (by kernel_rfl) ?_)
       all_goals (refine Comes1.call (vs := [_]) rfl rfl (fun a w => Tryz.call156 a w) rfl ((values07W lr (hr.ext0 hX3) (fun c hc => by have := md6 c hc; omega)).dec) rfl rfl rfl ?_ (fun _ => by kernel_rfl)
                  rintro _ h9 ⟨⟨rfl, c6⟩ | ⟨rfl, c6⟩, hz9⟩
                  all_goals subst h9)
       all_goals (refine ⟨fun _ => by first | assumption | trivial, ?_⟩)
       skip))
  all_goals (first | (refine WH.ps 26 rfl rfl rfl rfl ?_ (hC := (by first | exact hb9 | exact hb8 | exact hb7 | exact hb6 | exact hb5 | exact hb4 | exact hb3 | exact hb1))) | (refine WH.tk 26 rfl (fun hq hC => ok_not rfl) rfl rfl rfl ?_ (hC := (by first | exact hb9 | exact hb8 | exact hb7 | exact hb6 | exact hb5 | exact hb4 | exact hb3 | exact hb1))))
  all_goals (first | (refine WH.tk 27 rfl (fun hq hC => ok_pick_t rfl rfl) rfl rfl rfl ?_ (hC := (by first | exact hb9 | exact hb8 | exact hb7 | exact hb6 | exact hb5 | exact hb4 | exact hb3 | exact hb1))) | (refine WH.tk 27 rfl (fun hq hC => ok_pick_f rfl rfl) rfl rfl rfl ?_ (hC := (by first | exact hb9 | exact hb8 | exact hb7 | exact hb6 | exact hb5 | exact hb4 | exact hb3 | exact hb1))))
  all_goals (refine WH.tk 28 rfl (fun hq hC => ok_move rfl) rfl rfl rfl ?_ (hC := (by first | exact hb9 | exact hb8 | exact hb7 | exact hb6 | exact hb5 | exact hb4 | exact hb3 | exact hb1)))
  all_goals (try ((fail_if_success (refine WH.part 82 (b := true) rfl (fun _ => ?_) (fun _ => ?_))); (fail_if_success (refine WH.part 82 (b := false) rfl (fun _ => ?_) (fun _ => ?_))); (refine WH.part 82 rfl (fun hb => ?_) (fun hb => ?_))))
  all_goals (first | (refine WH.ps 29 rfl rfl rfl rfl ?_ (hC := (by first | exact hb9 | exact hb8 | exact hb7 | exact hb6 | exact hb5 | exact hb4 | exact hb3 | exact hb1))) | (refine WH.tk 29 rfl (fun hq hC => ok_loadN (fun w => Tryz.isAgg28 w) (fun w => Tryz.sizeOf28 w) rfl rfl (by exact At.of_block hC)) rfl rfl rfl ?_ (hC := (by first | exact hb9 | exact hb8 | exact hb7 | exact hb6 | exact hb5 | exact hb4 | exact hb3 | exact hb1))))
  all_goals (first | (refine WH.ps 30 rfl rfl rfl rfl ?_ (hC := (by first | exact hb9 | exact hb8 | exact hb7 | exact hb6 | exact hb5 | exact hb4 | exact hb3 | exact hb1))) | (refine WH.tk 30 rfl (fun hq hC => ok_loadN (fun w => Tryz.isAgg28 w) (fun w => Tryz.sizeOf28 w) rfl rfl (by exact At.of_block hC)) rfl rfl rfl ?_ (hC := (by first | exact hb9 | exact hb8 | exact hb7 | exact hb6 | exact hb5 | exact hb4 | exact hb3 | exact hb1))))
  all_goals (first
    | (refine WH.ps 31 rfl rfl rfl rfl ?_ (hC := (by first | exact hb9 | exact hb8 | exact hb7 | exact hb6 | exact hb5 | exact hb4 | exact hb3 | exact hb1)))
    | (all_goals (refine WH.one 31 (by kernel_rfl) ?_)
       all_goals (refine Comes1.call (vs := [_]) rfl rfl (fun a w => Tryz.call158 a w) rfl (hof hX3) rfl rfl rfl ?_ (fun _ => by kernel_rfl)
                  rintro _ g8 ⟨rfl, hx8⟩
                  have hb8 := hx8.obj hb3 nos
                  have hX8 := hX3.trans hx8)
       all_goals (refine ⟨fun _ => hb8, ?_⟩)
       skip))
  all_goals (first
    | (refine WH.ps 32 rfl rfl rfl rfl ?_ (hC := (by first | exact hb9 | exact hb8 | exact hb7 | exact hb6 | exact hb5 | exact hb4 | exact hb3 | exact hb1)))
    | (all_goals (refine WH.one 32 (by kernel_rfl) ?_)
       all_goals (refine Comes1.call (vs := [_, _]) rfl rfl (fun a w => Tryz.call157 a w) rfl (hsa hX8) rfl rfl rfl ?_ (fun _ => by kernel_rfl)
                  rintro _ g9 ⟨⟨sx, rfl, hsx⟩, hx9⟩
                  have hb9 := hx9.obj hb8 nos
                  cases sx)
       all_goals (refine ⟨fun _ => hb9, ?_⟩)
       skip))
  all_goals (first | (refine WH.ps 33 rfl rfl rfl rfl ?_ (hC := (by first | exact hb9 | exact hb8 | exact hb7 | exact hb6 | exact hb5 | exact hb4 | exact hb3 | exact hb1))) | (refine WH.tk 33 rfl (fun hq hC => ok_not rfl) rfl rfl rfl ?_ (hC := (by first | exact hb9 | exact hb8 | exact hb7 | exact hb6 | exact hb5 | exact hb4 | exact hb3 | exact hb1))))
  all_goals (first | (refine WH.tk 34 rfl (fun hq hC => ok_pick_t rfl rfl) rfl rfl rfl ?_ (hC := (by first | exact hb9 | exact hb8 | exact hb7 | exact hb6 | exact hb5 | exact hb4 | exact hb3 | exact hb1))) | (refine WH.tk 34 rfl (fun hq hC => ok_pick_f rfl rfl) rfl rfl rfl ?_ (hC := (by first | exact hb9 | exact hb8 | exact hb7 | exact hb6 | exact hb5 | exact hb4 | exact hb3 | exact hb1))))
  all_goals (refine WH.done (by kernel_rfl) ?_)
  all_goals (refine Gn ?_)
  all_goals (refine Gs [(88, _)] ?_)
  all_goals (refine goC 3 4 ?_ ?_ <;> first | exact ⟨⟩ | refine Hb.mk fun hb => ?_ | skip)
  all_goals (first | (fail_if_success refine goB 3 ?_) | (
  refine goB 3 ?_
  all_goals (refine WC.sr ?_)
  all_goals (refine Go ?_)
  all_goals (refine Gt ?_)
  all_goals (first
              | exact ⟨⟨0, rfl, ⟨fun _ => hyes (hkx.1 rfl) c1 c2 c3 c4 c5 c6 c7 c8 c9 (hst.1 (by omega)) (hsx.1 rfl), fun _ => rfl⟩⟩, hX8.trans hx9⟩
              | (refine ⟨⟨_, rfl, ⟨fun z => absurd z (by decide), fun z => absurd z ?_⟩⟩, ?_⟩
                 · first | exact hnk (fun z => Bool.false_ne_true (hkx.2 z)) | exact hn1 c1 | exact hn2 c2 | exact hn3 c3 | exact hn8 c8 | exact hn9 c9 | exact hn7 c7 | exact hn10 (fun z => by have := hst.2 z; omega) | exact hn4 c4 | exact hn5 c5 | exact hn6 c6 | exact hn11 (fun z => Bool.false_ne_true (hsx.2 z))
                 · first | exact hX8.trans hx9 | exact hX3 | exact hx1))
  skip))
  all_goals (first | (fail_if_success refine goB 4 ?_) | (
  refine goB 4 ?_
  all_goals (refine WC.skip ?_)
  skip))
  all_goals (refine Gn ?_)
  all_goals (refine WC.sr ?_)
  all_goals (refine Go ?_)
  all_goals (refine Gt ?_)
  all_goals (first
              | exact ⟨⟨0, rfl, ⟨fun _ => hyes (hkx.1 rfl) c1 c2 c3 c4 c5 c6 c7 c8 c9 (hst.1 (by omega)) (hsx.1 rfl), fun _ => rfl⟩⟩, hX8.trans hx9⟩
              | (refine ⟨⟨_, rfl, ⟨fun z => absurd z (by decide), fun z => absurd z ?_⟩⟩, ?_⟩
                 · first | exact hnk (fun z => Bool.false_ne_true (hkx.2 z)) | exact hn1 c1 | exact hn2 c2 | exact hn3 c3 | exact hn8 c8 | exact hn9 c9 | exact hn7 c7 | exact hn10 (fun z => by have := hst.2 z; omega) | exact hn4 c4 | exact hn5 c5 | exact hn6 c6 | exact hn11 (fun z => Bool.false_ne_true (hsx.2 z))
                 · first | exact hX8.trans hx9 | exact hX3 | exact hx1))
end Go.Proofs.YtbglafgndaekoaaGreatDoor


/-
  REPLIES (layer 7): bytes, as the document writes them.
-/
namespace Go.Proofs.YtbglafgndaekoaaGreatDoor
open Go Go.RK

/-- A step of a row of bytes. -/
def RStep (h : Heap) (v : Value) (h' : Heap) (v' : Value) : Prop := Ext (fun q => v.ownBlock = some q) h h' ∧ ∀ q, v'.ownBlock = some q → v.ownBlock = some q ∨ h.size ≤ q
theorem RStep.fresh {g h h' : Heap} {v v' : Value} (a : RStep h v h' v') (x : Ext No g h) (f : ∀ q, v.ownBlock = some q → g.size ≤ q) : Ext No g h' ∧ ∀ q, v'.ownBlock = some q → g.size ≤ q :=
  ⟨x.trans' a.1 (fun q hq e => by have := f q e; omega), fun q e => (a.2 q e).elim (f q) (fun z => by have := x.size; omega)⟩
theorem encCol_lenW {c : ColD} (h : c.nm.length ≤ 1048576) : (encCol c).length ≤ 1048676 := by simp [encCol, be_len]; omega
theorem encCel_lenW {c : Cel} (h : c.bytes.length ≤ 1048576) : (encCel c).length ≤ 1048676 := by unfold encCel; split <;> simp [be_len] <;> omega
set_option maxHeartbeats 2000000 in
set_option maxRecDepth 100000 in
theorem str06 {h : Heap} {v : Value} (l s : List UInt8) (hv : Own h v 5 1 l.length (bys l)) (hl : l.length + s.length ≤ 10000000000000) :
    CallsH Tryz.prog 67 ⟨[v, St s]⟩ h fun u h' => Own h' u 5 1 (l ++ s ++ [0]).length (bys (l ++ s ++ [0])) ∧ RStep h v h' u := by
  obtain ⟨A0, c0, rfl, _⟩ := id hv.slice
  refine calls [(0, _), (1, _)] Tryz.func67 rfl Tryz.ntmps67 rfl ⟨rfl, rfl, trivial⟩ ?_
  all_goals (refine WC.sr ?_)
  all_goals (refine Go ?_)
  all_goals (refine WC.sr ?_)
  all_goals (refine Go ?_)
  all_goals (refine WL.stepR (okE_appendS rfl Tryz.underlying22 Tryz.underlying9 (show Tryz.prog.info? 5 = some Tryz.t5 by kernel_rfl) rfl rfl rfl rfl rfl hv (by omega)) rfl rfl rfl ?_
             rintro v1 h1 ⟨ho1, hx1, hl1, _⟩)
  all_goals (refine WL.stepR (okE_buildSlice (vs := [_]) (cs := [_]) (fun | [a0] => [a0] | _ => []) Tryz.underlying22 rfl rfl (by kernel_rfl)) rfl rfl rfl ?_
             rintro _ h2 ⟨b2, rfl, hg2, hb2, hx2⟩)
  all_goals (refine WL.stepR (ok_append (sz := 1) (bytes := 1) rfl Tryz.underlying22 (show Tryz.prog.info? 5 = some Tryz.t5 by kernel_rfl) rfl rfl rfl rfl (by decide) rfl rfl (ho1.ext hx2 (fun _ _ => nos)) (rd_blk hb2 rfl) (by simp [Value.oneCell']) (by simp only [maxLen]; omega) (by omega)) rfl rfl rfl ?_
             rintro v3 h3 ⟨ho3, hx3, hl3⟩)
  all_goals (refine Go ?_)
  all_goals (refine Gs [(4, _)] ?_)
  all_goals (refine Gt ?_)
  all_goals (have hf1 : ∀ q, v1.ownBlock = some q → (Value.slice A0 l.length c0).ownBlock = some q ∨ h.size ≤ q := hl1
             have s1 := hx1.size
             have s2 := hx2.size
             refine ⟨?_, (hx1.trans (hx2.mono fun _ _ e => e.elim)).trans' hx3 (fun q hq e => (hf1 q e).elim id (fun z => by omega)), fun q hq => hl3.elim (fun e => hf1 q (e ▸ hq)) (fun e => .inr (by rw [e] at hq; cases hq; omega))⟩
             rw [show (l ++ s ++ [(0 : UInt8)]).length = l.length + s.length + 1 by simp [Nat.add_assoc], show bys (l ++ s ++ [0]) = bys l ++ bys s ++ [Value.int .u8 0] by simp only [bys, List.map_append, List.map_cons, List.map_nil]; rfl]
             exact ho3)
set_option maxHeartbeats 2000000 in
set_option maxRecDepth 100000 in
theorem list06 {h : Heap} {v w : Value} (l : List UInt8) (L : List Int) (hv : Rd h v 1 l.length (bys l)) (hw : Rd h w 1 L.length (ints L)) (hl : l.length ≤ 10000000000000) (hm : L.length ≤ 65535) (hn : ∀ n ∈ L, 0 ≤ n ∧ n ≤ 4294967295) :
    CallsH Tryz.prog 70 ⟨[v, w, In 4]⟩ h fun u h' => Own h' u 5 1 (l ++ be L.length 2 ++ L.flatMap fun n => be n 4).length (bys (l ++ be L.length 2 ++ L.flatMap fun n => be n 4)) ∧ Ext No h h' ∧ ∀ q, u.ownBlock = some q → h.size ≤ q := by
  obtain ⟨A0, c0, rfl, _⟩ := id hv
  obtain ⟨A, c, rfl, _⟩ := id hw
  have hfl : ∀ j, ((L.take j).flatMap fun n => be n 4).length ≤ 262140 := fun j => Nat.le_trans (flat_take (n := 4) L j fun x hx => by rw [be_len]; omega) (by omega)
  refine calls [(0, _), (1, _), (2, _)] Tryz.func70 rfl Tryz.ntmps70 rfl ⟨rfl, rfl, rfl, trivial⟩ ?_
  all_goals (refine WC.sr ?_)
  all_goals (refine Go ?_)
  all_goals (refine WC.sr ?_)
  all_goals (refine Go ?_)
  all_goals (refine WL.call (vs := [_, _, _]) rfl (fun a w => Tryz.call66 a w) rfl (put01 l (L.length : Int) 2 sz2 (rt2 (by omega)) hv (by omega)) rfl rfl rfl ?_
             rintro v1 h1 ⟨ho1, hx1, hf1⟩)
  all_goals (refine Go ?_)
  all_goals (refine Gs [(0, _), (1, _), (2, _)] ?_)
  all_goals (refine WC.seq ?_)
  all_goals (refine WC.sr ?_)
  all_goals (refine Go ?_)
  all_goals (refine WC.block ?_)
  -- loop 0: slots that turn [0, 7], that stay [1, 2]
  all_goals (refine WC.loopG (X := Nat × Value) (fun x => ([(7, In (x.1 : Int)), (0, x.2)] : Fr)) [(1, _), (2, _)] (fun y h' => y.1 ≤ L.length ∧ Own h' y.2 5 1 (l ++ be (L.length : Int) 2 ++ (L.take y.1).flatMap fun n => be n 4).length (bys (l ++ be (L.length : Int) 2 ++ (L.take y.1).flatMap fun n => be n 4)) ∧ Ext No h h' ∧ ∀ q, y.2.ownBlock = some q → h.size ≤ q) (fun y => L.length - y.1) ((0, v1)) ⟨rfl, rfl, rfl, rfl, trivial⟩ (by exact ⟨Nat.zero_le _, by simpa using ho1, hx1, hf1⟩) ?_)
  all_goals (rintro ⟨k, u⟩ h2 ⟨hk, ho2, hx2, hf2⟩
             dsimp only at hk ho2 hf2)
  all_goals (refine WC.sub [(0, _), (7, _), (1, _), (2, _)] ⟨rfl, rfl, rfl, rfl, trivial⟩ ?_)
  all_goals (dsimp only)
  all_goals (refine WC.seq ?_)
  all_goals (refine WC.sr ?_)
  all_goals (refine Go ?_)
  all_goals (refine goC 1 2 ?_ ?_ <;> first | exact ⟨⟩ | refine Hb.mk fun hb => ?_ | skip)
  all_goals (first | (fail_if_success refine goB 1 ?_) | (
  refine goB 1 ?_
  all_goals (refine WC.skip ?_)
  skip))
  all_goals (first | (fail_if_success refine goB 2 ?_) | (
  refine goB 2 ?_
  all_goals (refine WC.exit ?_)
  all_goals (repeat' (with_reducible first | refine thenP_x ?_ | refine blockP_miss rfl ?_ | refine blockP_hit ?_ | refine blockP_n ?_ | refine thenP_n ?_))
  all_goals (refine Br.out (i := 1000) ?_)
  skip))
  all_goals (refine Gn ?_)
  all_goals (first | (refine Br.keep ?_) | (refine Gs [(0, _), (1, _), (2, _), (7, _)] ?_))
  all_goals (first | (refine Br.keep ?_) | (refine WC.seq ?_))
  all_goals (first | (refine Br.keep ?_) | (refine WC.block ?_))
  all_goals (first | (refine Br.keep ?_) | (refine WC.region ?_))
  all_goals (first
               | (refine Br.keep ?_)
               | (obtain ⟨bL, oL, hA, hbL, hat⟩ := Rd.at_ (hw.ext0 hx2) (by omega)
                  obtain ⟨yy, hy⟩ : ∃ y, L[k]? = some y := ⟨_, List.getElem?_eq_getElem (by omega)⟩
                  have hyo := hn _ (List.mem_of_getElem? hy)
                  have hcd : cell h2 ⟨bL, oL + k * 1, none⟩ = some (In yy) := hat.get k (get_int hy) (by omega)
                  have hlj := hfl k))
  all_goals (first | (refine Br.keep ?_) | (refine WL.step (ok_move rfl) rfl rfl rfl ?_))
  all_goals (refine Go ?_)
  all_goals (first | (refine Br.keep ?_) | (refine WL.step (ok_idxAddrA Tryz.underlying23 (fun w => Tryz.sizeOf3 w) rfl rfl rfl (by omega) (by first | rfl | assumption)) rfl rfl rfl ?_))
  all_goals (first | (refine Br.keep ?_) | (refine WL.ld rfl (by first | exact hcd | assumption | exact cell_blk (by assumption) rfl) rfl rfl rfl ?_))
  all_goals (refine Go ?_)
  all_goals (first
               | (refine Br.keep ?_)
               | (refine WL.call (vs := [_, _, _]) rfl (fun a w => Tryz.call66 a w) rfl (put01 _ yy 4 sz4 (rt4s (by omega)) ho2.rd (by simp only [List.length_append, be_len]; omega)) rfl rfl rfl ?_
                  rintro v3 h3 ⟨ho3, hx3, hf3⟩))
  all_goals (refine Go ?_)
  all_goals (first | (refine Br.keep ?_) | (refine Gs [(0, _), (1, _), (2, _), (7, _)] ?_))
  all_goals (first | (refine Br.keep ?_) | (refine WC.region ?_))
  all_goals (refine Go ?_)
  all_goals (first | (refine Br.keep ?_) | (exact ⟨(k + 1, _), ⟨rfl, rfl, rfl, rfl, trivial⟩, (by exact ⟨by omega, by rw [flat_snoc hy, ← List.append_assoc]; exact ho3, hx2.trans hx3, fun q e => (by have := hf3 q e; have := hx2.size; omega)⟩), (by simp; omega)⟩))
  all_goals (try (refine Br.mk (i := 1000) ?_))
  all_goals (refine Gn ?_)
  all_goals (refine Gs [(0, _)] ?_)
  all_goals (refine WC.sr ?_)
  all_goals (refine Go ?_)
  all_goals (refine Gt ?_)
  all_goals (rw [List.take_of_length_le (by omega)] at ho2
             exact ⟨ho2, hx2, hf2⟩)
theorem be_neg1 : be (-1) 4 = be 4294967295 4 := by
  have h : ∀ i, i < 4 → bI (-1 + 256 ^ 4) i = bI (-1) i := fun i hi => bI_up hi
  exact (beK_congr (m := -1 + 256 ^ 4) (n := -1) h (by decide) 4).symm
set_option maxHeartbeats 2000000 in
set_option maxRecDepth 100000 in
theorem put06 {h : Heap} {v vr : Value} (l : List UInt8) (R : List Cel) (hv : Rd h v 1 l.length (bys l)) (hR : Cels h vr R) (hl : l.length ≤ 10000000000000) (hm : R.length ≤ 65535) (hc : ∀ c ∈ R, c.bytes.length ≤ 1048576) :
    CallsH Tryz.prog 68 ⟨[v, vr]⟩ h fun u h' => Own h' u 5 1 (l ++ be R.length 2 ++ R.flatMap encCel).length (bys (l ++ be R.length 2 ++ R.flatMap encCel)) ∧ Ext No h h' ∧ ∀ q, u.ownBlock = some q → h.size ≤ q := by
  obtain ⟨A0, c0, rfl, _⟩ := id hv
  obtain ⟨hr, ⟨_, A, cc, rfl, _⟩, hok⟩ := hR
  have hfl : ∀ k, ((R.take k).flatMap encCel).length ≤ 70000000000 := fun k => Nat.le_trans (flat_take R k fun x hx => encCel_lenW (hc x hx)) (by omega)
  refine calls [(0, _), (1, _)] Tryz.func68 rfl Tryz.ntmps68 rfl ⟨rfl, rfl, trivial⟩ ?_
  all_goals (refine WC.sr ?_)
  all_goals (refine Go ?_)
  all_goals (refine WC.sr ?_)
  all_goals (refine Go ?_)
  all_goals (refine WL.call (vs := [_, _, _]) rfl (fun a w => Tryz.call66 a w) rfl (put01 l (R.length : Int) 2 sz2 (rt2 (by omega)) hv (by omega)) rfl rfl rfl ?_
             rintro v1 h1 ⟨ho1, hx1, hf1⟩)
  all_goals (refine Go ?_)
  all_goals (refine Gs [(0, _), (1, _)] ?_)
  all_goals (refine WC.seq ?_)
  all_goals (refine WC.sr ?_)
  all_goals (refine Go ?_)
  all_goals (refine WC.block ?_)
  -- loop 0: slots that turn [0, 5], that stay [1]
  all_goals (refine WC.loopG (X := Nat × Value) (fun x => ([(5, In (x.1 : Int)), (0, x.2)] : Fr)) [(1, _)] (fun y h' => y.1 ≤ R.length ∧ Own h' y.2 5 1 (l ++ be (R.length : Int) 2 ++ (R.take y.1).flatMap encCel).length (bys (l ++ be (R.length : Int) 2 ++ (R.take y.1).flatMap encCel)) ∧ Ext No h h' ∧ ∀ q, y.2.ownBlock = some q → h.size ≤ q) (fun y => R.length - y.1) ((0, v1)) ⟨rfl, rfl, rfl, trivial⟩ (by exact ⟨Nat.zero_le _, by simpa using ho1, hx1, hf1⟩) ?_)
  all_goals (rintro ⟨k, u⟩ h2 ⟨hk, ho2, hx2, hf2⟩
             dsimp only at hk ho2 hf2)
  all_goals (refine WC.sub [(0, _), (5, _), (1, _)] ⟨rfl, rfl, rfl, trivial⟩ ?_)
  all_goals (dsimp only)
  all_goals (refine WC.seq ?_)
  all_goals (refine WC.sr ?_)
  all_goals (refine Go ?_)
  all_goals (refine goC 1 2 ?_ ?_ <;> first | exact ⟨⟩ | refine Hb.mk fun hb => ?_ | skip)
  all_goals (first | (fail_if_success refine goB 1 ?_) | (
  refine goB 1 ?_
  all_goals (refine WC.skip ?_)
  skip))
  all_goals (first | (fail_if_success refine goB 2 ?_) | (
  refine goB 2 ?_
  all_goals (refine WC.exit ?_)
  all_goals (repeat' (with_reducible first | refine thenP_x ?_ | refine blockP_miss rfl ?_ | refine blockP_hit ?_ | refine blockP_n ?_ | refine thenP_n ?_))
  all_goals (refine Br.out (i := 1000) ?_)
  skip))
  all_goals (refine Gn ?_)
  all_goals (first | (refine Br.keep ?_) | (refine Gs [(0, _), (1, _), (5, _)] ?_))
  all_goals (first | (refine Br.keep ?_) | (refine WC.seq ?_))
  all_goals (first | (refine Br.keep ?_) | (refine WC.block ?_))
  all_goals (first | (refine Br.keep ?_) | (refine WC.sr ?_))
  all_goals (first
               | (refine Br.keep ?_)
               | (obtain ⟨bL, oL, hA, hbL, hat⟩ := Rd.at_ (hr.ext0 hx2) (by omega)
                  obtain ⟨⟨yn, yv, yb⟩, hy⟩ : ∃ y, R[k]? = some y := ⟨_, List.getElem?_eq_getElem (by omega)⟩
                  have hyo := (hok _ (List.mem_of_getElem? hy)).1
                  have hyc := hc _ (List.mem_of_getElem? hy)
                  dsimp only at hyo hyc
                  obtain ⟨yA, yc, rfl, _⟩ := id hyo
                  have hcd : At h2 bL (oL + k * 2) [.bool yn, .slice yA yb.length yc] := At.elem Cel.len hat hy
                  have hlk := hfl k
                  have hl2 : (l ++ be (R.length : Int) 2 ++ (R.take k).flatMap encCel).length ≤ 20000000000000 := by simp only [List.length_append, be_len]; omega
                  have hx2' := hx2.size
                  have hl5 : (l ++ be (R.length : Int) 2 ++ (R.take k).flatMap encCel ++ be (yb.length : Int) 4).length ≤ 30000000000000 := by rw [List.length_append, be_len]; omega
                  cases yn))
  all_goals (first | (refine Br.keep ?_) | (refine WL.step (ok_move rfl) rfl rfl rfl ?_))
  all_goals (refine Go ?_)
  all_goals (first | (refine Br.keep ?_) | (refine WL.step (ok_idxAddrA Tryz.underlying25 (fun w => Tryz.sizeOf262 w) rfl rfl rfl (by omega) (by first | rfl | assumption)) rfl rfl rfl ?_))
  all_goals (refine Go ?_)
  all_goals (first | (refine Br.keep ?_) | (refine WL.ld rfl (by first | exact hcd.get 0 rfl rfl | assumption | exact cell_blk (by assumption) rfl) rfl rfl rfl ?_))
  all_goals (refine Gn ?_)
  all_goals (first | (refine Br.keep ?_) | (refine Gs [(0, _), (1, _), (5, _), (20, _)] ?_))
  all_goals (first | (refine Br.keep ?_) | (refine goC 3 4 ?_ ?_ <;> first | exact ⟨⟩ | refine Hb.mk fun hb => ?_ | skip))
  all_goals (first | (fail_if_success refine goB 3 ?_) | (
  refine goB 3 ?_
  all_goals (refine WC.region ?_)
  all_goals (refine Go ?_)
  all_goals (refine WL.call (vs := [_, _, _]) rfl (fun a w => Tryz.call66 a w) rfl (put01 _ (-1) 4 sz4 (rt4s (by omega)) ho2.rd (by omega)) rfl rfl rfl ?_
             rintro v5 h5 ⟨ho5, hx5, hf5⟩
             have hX5 := hx2.trans hx5
             have hF5 : ∀ q, v5.ownBlock = some q → h.size ≤ q := fun q e => by have := hf5 q e; omega
             have hO5 : Own h5 v5 5 1 (l ++ be (R.length : Int) 2 ++ (R.take (k + 1)).flatMap encCel).length (bys (l ++ be (R.length : Int) 2 ++ (R.take (k + 1)).flatMap encCel)) := by rw [flat_snoc hy, show encCel ⟨true, .slice yA yb.length yc, yb⟩ = be 4294967295 4 from rfl, ← be_neg1, ← List.append_assoc]; exact ho5)
  all_goals (refine Go ?_)
  skip))
  all_goals (first | (fail_if_success refine goB 4 ?_) | (
  refine goB 4 ?_
  all_goals (refine WC.drawH (fun h' => Ext No h2 h') 14 15 rfl fol ?_)
  all_goals (refine WH.tk 0 rfl (fun hq hC => ok_move rfl) rfl rfl rfl ?_)
  all_goals (refine WH.tk 1 rfl (fun hq hC => ok_move rfl) rfl rfl rfl ?_)
  all_goals (refine WH.tk 2 rfl (fun hq hC => ok_move rfl) rfl rfl rfl ?_)
  all_goals (refine WH.tk 3 rfl (fun hq hC => ok_idxAddrA Tryz.underlying25 (fun w => Tryz.sizeOf262 w) rfl rfl rfl (by omega) (by first | rfl | assumption)) rfl rfl rfl ?_)
  all_goals (refine WH.tk 4 rfl (fun hq hC => ok_fieldAddr rfl Tryz.underlying262 rfl (fun w => Tryz.sizeOf22 w)) rfl rfl rfl ?_)
  all_goals (refine WH.tk 5 rfl (fun hq hC => ok_load (fun w => Tryz.isAgg22 w) rfl (by first | exact hC.cell (by first | exact hcd.get 1 rfl rfl | assumption | exact cell_blk (by assumption) rfl) nos)) rfl rfl rfl ?_)
  all_goals (refine WH.tk 6 rfl (fun hq hC => ok_lenL rfl Tryz.underlying22 rfl) rfl rfl rfl ?_)
  all_goals (refine WH.tk 8 rfl (fun hq hC => ok_move rfl) rfl rfl rfl ?_)
  all_goals (refine WH.tk 9 rfl (fun hq hC => ok_move rfl) rfl rfl rfl ?_)
  all_goals (refine WH.tk 10 rfl (fun hq hC => ok_idxAddrA Tryz.underlying25 (fun w => Tryz.sizeOf262 w) rfl rfl rfl (by omega) (by first | rfl | assumption)) rfl rfl rfl ?_)
  all_goals (refine WH.tk 11 rfl (fun hq hC => ok_fieldAddr rfl Tryz.underlying262 rfl (fun w => Tryz.sizeOf22 w)) rfl rfl rfl ?_)
  all_goals (refine WH.tk 12 rfl (fun hq hC => ok_load (fun w => Tryz.isAgg22 w) rfl (by first | exact hC.cell (by first | exact hcd.get 1 rfl rfl | assumption | exact cell_blk (by assumption) rfl) nos)) rfl rfl rfl ?_)
  all_goals (refine WH.one 7 (by kernel_rfl) ?_)
  all_goals (refine Comes1.call (vs := [_, _, _]) rfl rfl (fun a w => Tryz.call66 a w) rfl (put01 _ (yb.length : Int) 4 sz4 (rt4s (by omega)) ho2.rd (by omega)) rfl rfl rfl ?_ (fun _ => by kernel_rfl)
             rintro v4 h4 ⟨ho4, hx4, hf4⟩)
  all_goals (refine ⟨fun _ => hx4, ?_⟩)
  all_goals (refine WH.one 13 (by kernel_rfl) ?_)
  all_goals (refine Comes1.run rfl (ok_append (sz := 1) (bytes := 1) rfl Tryz.underlying22 (show Tryz.prog.info? 5 = some Tryz.t5 by kernel_rfl) rfl rfl rfl rfl (by decide) rfl rfl ho4 ((hyo.ext0 hx2).ext0 hx4) (by intro c hc; obtain ⟨b, _, rfl⟩ := List.mem_map.1 hc; rfl) (by simp only [maxLen]; omega) (by omega)) rfl rfl rfl ?_ (fun _ => by kernel_rfl)
             rintro v5 h5 ⟨ho5, hx5, hl5⟩)
  all_goals (refine ⟨fun _ => hx4.trans' hx5 (fun q hq e => by have := hf4 q e; omega), ?_⟩)
  all_goals (have hC5 : Ext No h2 h5 := hx4.trans' hx5 (fun q hq e => by have := hf4 q e; omega)
             have hX5 := hx2.trans hC5
             have hF5 : ∀ q, v5.ownBlock = some q → h.size ≤ q := fun q e => hl5.elim (fun z => by have := hf4 q (z ▸ e); omega) (fun z => by rw [z] at e; cases e; have := hx4.size; omega)
             have hO5 : Own h5 v5 5 1 (l ++ be (R.length : Int) 2 ++ (R.take (k + 1)).flatMap encCel).length (bys (l ++ be (R.length : Int) 2 ++ (R.take (k + 1)).flatMap encCel)) := by rw [flat_snoc hy, show encCel ⟨false, .slice yA yb.length yc, yb⟩ = be yb.length 4 ++ yb from rfl, ← List.append_assoc, ← List.append_assoc, List.length_append (bs := yb), show ∀ m : List UInt8, bys (m ++ yb) = bys m ++ bys yb from fun m => List.map_append ..]; exact ho5)
  all_goals (refine WH.one 14 (by kernel_rfl) ?_)
  all_goals (refine Comes1.run rfl (OkP.r (ok_assign rfl)) rfl rfl rfl ?_ (fun _ => by kernel_rfl)
             rintro _ hz ⟨rfl, _⟩
             subst hz)
  all_goals (refine ⟨fun _ => hx4.trans' hx5 (fun q hq e => by have := hf4 q e; omega), ?_⟩)
  all_goals (refine WH.done (by kernel_rfl) ?_)
  skip))
  all_goals (refine Gn ?_)
  all_goals (first | (refine Br.keep ?_) | (refine WC.region ?_))
  all_goals (refine Go ?_)
  all_goals (first | (refine Br.keep ?_) | (exact ⟨(k + 1, _), ⟨rfl, rfl, rfl, trivial⟩, (by exact ⟨by omega, hO5, hX5, hF5⟩), (by simp; omega)⟩))
  all_goals (try (refine Br.mk (i := 1000) ?_))
  all_goals (refine Gn ?_)
  all_goals (refine Gs [(0, _)] ?_)
  all_goals (refine WC.sr ?_)
  all_goals (refine Go ?_)
  all_goals (refine Gt ?_)
  all_goals (rw [List.take_of_length_le (by omega)] at ho2
             exact ⟨ho2, hx2, hf2⟩)
set_option maxHeartbeats 2000000 in
set_option maxRecDepth 100000 in
theorem described07 {h : Heap} {vr : Value} (L : List ColD) (hr : Rd h vr 7 L.length (L.flatMap ColD.cells)) (hm : L.length ≤ 65535) (hn : ∀ c ∈ L, c.nm.length ≤ 1048576) (hc : ∀ c ∈ L, c.okB) :
    CallsH Tryz.prog 69 ⟨[vr]⟩ h fun u h' => Own h' u 5 1 (be (L.length : Int) 2 ++ L.flatMap encCol).length (bys (be (L.length : Int) 2 ++ L.flatMap encCol)) ∧ Ext No h h' ∧ ∀ q, u.ownBlock = some q → h.size ≤ q := by
  obtain ⟨A, cc, rfl, _⟩ := id hr
  have hfl : ∀ j, ((L.take j).flatMap encCol).length ≤ 70000000000 := fun j => Nat.le_trans (flat_take L j fun x hx => encCol_lenW (hn x hx)) (by omega)
  refine calls [(0, _)] Tryz.func69 rfl Tryz.ntmps69 rfl ⟨rfl, trivial⟩ ?_
  all_goals (refine WC.sr ?_)
  all_goals (refine Go ?_)
  all_goals (refine WC.sr ?_)
  all_goals (refine Go ?_)
  all_goals (refine WL.call (vs := [_, _, _]) rfl (fun a w => Tryz.call66 a w) rfl (put01 [] (L.length : Int) 2 sz2 (rt2 (by omega)) (Rd.nil _ _) (by decide)) rfl rfl rfl ?_
             rintro v1 h1 ⟨ho1, hx1, hf1⟩)
  all_goals (refine Go ?_)
  all_goals (refine Gs [(0, _), (3, _)] ?_)
  all_goals (refine WC.seq ?_)
  all_goals (refine WC.sr ?_)
  all_goals (refine Go ?_)
  all_goals (refine WC.block ?_)
  -- loop 0: slots that turn [3, 4], that stay [0]
  all_goals (refine WC.loopG (X := Nat × Value) (fun x => ([(4, In (x.1 : Int)), (3, x.2)] : Fr)) [(0, _)] (fun y h' => y.1 ≤ L.length ∧ Own h' y.2 5 1 (be (L.length : Int) 2 ++ (L.take y.1).flatMap encCol).length (bys (be (L.length : Int) 2 ++ (L.take y.1).flatMap encCol)) ∧ Ext No h h' ∧ ∀ q, y.2.ownBlock = some q → h.size ≤ q) (fun y => L.length - y.1) ((0, v1)) ⟨rfl, rfl, rfl, trivial⟩ (by exact ⟨Nat.zero_le _, by simpa using ho1, hx1, hf1⟩) ?_)
  all_goals (rintro ⟨k, u⟩ h2 ⟨hk, ho2, hx2, hf2⟩
             dsimp only at hk ho2 hf2)
  all_goals (refine WC.sub [(3, _), (4, _), (0, _)] ⟨rfl, rfl, rfl, trivial⟩ ?_)
  all_goals (dsimp only)
  all_goals (refine WC.seq ?_)
  all_goals (refine WC.sr ?_)
  all_goals (refine Go ?_)
  all_goals (refine goC 1 2 ?_ ?_ <;> first | exact ⟨⟩ | refine Hb.mk fun hb => ?_ | skip)
  all_goals (first | (fail_if_success refine goB 1 ?_) | (
  refine goB 1 ?_
  all_goals (refine WC.skip ?_)
  skip))
  all_goals (first | (fail_if_success refine goB 2 ?_) | (
  refine goB 2 ?_
  all_goals (refine WC.exit ?_)
  all_goals (repeat' (with_reducible first | refine thenP_x ?_ | refine blockP_miss rfl ?_ | refine blockP_hit ?_ | refine blockP_n ?_ | refine thenP_n ?_))
  all_goals (refine Br.out (i := 1000) ?_)
  skip))
  all_goals (refine Gn ?_)
  all_goals (first | (refine Br.keep ?_) | (refine Gs [(0, _), (3, _), (4, _)] ?_))
  all_goals (first | (refine Br.keep ?_) | (refine WC.seq ?_))
  all_goals (first | (refine Br.keep ?_) | (refine WC.block ?_))
  all_goals (first | (refine Br.keep ?_) | (refine WC.sr ?_))
  all_goals (first
               | (refine Br.keep ?_)
               | (obtain ⟨bL, oL, hA, hbL, hat⟩ := Rd.at_ (hr.ext0 hx2) (by omega)
                  obtain ⟨⟨nm, t, a, o, s, m, f⟩, hy⟩ : ∃ y, L[k]? = some y := ⟨_, List.getElem?_eq_getElem (by omega)⟩
                  have hyn := hn _ (List.mem_of_getElem? hy)
                  obtain ⟨c1, c2, c3, c4, c5, c6, c7⟩ := hc _ (List.mem_of_getElem? hy)
                  dsimp only at hyn c2 c3 c4 c5 c6 c7
                  have hcd : At h2 bL (oL + k * 7) [St nm, In t, In a, In o, In s, In m, In f] := At.elem ColD.len hat hy
                  have hlk := hfl k
                  have hl2 : (be (L.length : Int) 2 ++ (L.take k).flatMap encCol).length ≤ 80000000000 := by simp only [List.length_append, be_len]; omega
                  have hl3 : ∀ x : List UInt8, x.length ≤ 2000000 → (be (L.length : Int) 2 ++ (L.take k).flatMap encCol ++ x).length ≤ 90000000000 := fun x hx => by rw [List.length_append]; omega))
  all_goals (first | (refine Br.keep ?_) | (refine WL.step (ok_move rfl) rfl rfl rfl ?_))
  all_goals (refine Go ?_)
  all_goals (first | (refine Br.keep ?_) | (refine WL.step (ok_idxAddrA Tryz.underlying24 (fun w => Tryz.sizeOf264 w) rfl rfl rfl (by omega) (by first | rfl | assumption)) rfl rfl rfl ?_))
  all_goals (first | (refine Br.keep ?_) | (refine WL.step (ok_loadN (fun w => Tryz.isAgg264 w) (fun w => Tryz.sizeOf264 w) rfl rfl (by exact hcd)) rfl rfl rfl ?_))
  all_goals (first
               | (refine Br.keep ?_)
               | (refine WL.stepR (okE_alloc (fun w => Tryz.zeroValue264 w)) rfl rfl rfl ?_
                  rintro _ h3 ⟨b5, rfl, hg5, hb5, hx3⟩))
  all_goals (first
               | (refine Br.keep ?_)
               | (refine WL.stepR0 (okE_storeW (fun w => Tryz.sizeOf264 w) rfl rfl rfl hb5 rfl (by simp [Value.oneCell'])) rfl rfl ?_
                  rintro _ h4 ⟨hb54, hx4⟩))
  all_goals (first
               | (refine Br.keep ?_)
               | (have hX4 : Ext No h2 h4 := hx3.trans' hx4 (fun q hq e => by omega)
                  have ho4 := ho2.ext hX4 (fun _ _ => nos)
                  have n5 : ¬ u.ownBlock = some b5 := fun e => by obtain ⟨_, z⟩ := own_kind ho4 e; rw [hb54] at z; simp at z
                  have s4 := hX4.size
                  have s2 := hx2.size))
  all_goals (refine Gn ?_)
  all_goals (first | (refine Br.keep ?_) | (refine Gs [(0, _), (3, _), (4, _), (5, _)] ?_))
  all_goals (first | (refine Br.keep ?_) | (refine WC.seq ?_))
  all_goals (first | (refine Br.keep ?_) | (refine WC.drawH (fun h' => Ext (fun q => u.ownBlock = some q) h4 h') 10 11 rfl fol ?_))
  all_goals (first | (refine Br.keep ?_) | (refine WH.tk 0 rfl (fun hq hC => ok_move rfl) rfl rfl rfl ?_))
  all_goals (first | (refine Br.keep ?_) | (refine WH.tk 1 rfl (fun hq hC => ok_fieldAddr rfl Tryz.underlying264 rfl (fun w => Tryz.sizeOf9 w)) rfl rfl rfl ?_))
  all_goals (first | (refine Br.keep ?_) | (refine WH.tk 2 rfl (fun hq hC => ok_load (fun w => Tryz.isAgg9 w) rfl (by first | exact hC.cell (by first | exact cell_blk hb54 rfl | assumption | exact cell_blk (by assumption) rfl) n5)) rfl rfl rfl ?_))
  all_goals (first | (refine Br.keep ?_) | (refine WH.tk 4 rfl (fun hq hC => ok_fieldAddr rfl Tryz.underlying264 rfl (fun w => Tryz.sizeOf3 w)) rfl rfl rfl ?_))
  all_goals (first | (refine Br.keep ?_) | (refine WH.tk 5 rfl (fun hq hC => ok_load (fun w => Tryz.isAgg3 w) rfl (by first | exact hC.cell (by first | exact cell_blk hb54 rfl | assumption | exact cell_blk (by assumption) rfl) n5)) rfl rfl rfl ?_))
  all_goals (first | (refine Br.keep ?_) | (refine WH.tk 7 rfl (fun hq hC => ok_fieldAddr rfl Tryz.underlying264 rfl (fun w => Tryz.sizeOf3 w)) rfl rfl rfl ?_))
  all_goals (first | (refine Br.keep ?_) | (refine WH.tk 8 rfl (fun hq hC => ok_load (fun w => Tryz.isAgg3 w) rfl (by first | exact hC.cell (by first | exact cell_blk hb54 rfl | assumption | exact cell_blk (by assumption) rfl) n5)) rfl rfl rfl ?_))
  all_goals (first | (refine Br.keep ?_) | (refine WH.one 3 (by kernel_rfl) ?_))
  all_goals (first
               | (refine Br.keep ?_)
               | (refine Comes1.call (vs := [_, _]) rfl rfl (fun a w => Tryz.call67 a w) rfl (str06 _ nm ho4 (by omega)) rfl rfl rfl ?_ (fun _ => by kernel_rfl)
                  rintro v6 h6 ⟨ho6, hr6⟩
                  have hC6 := hr6.1
                  have hX6 : Ext No h h6 := (hx2.trans hX4).trans' hr6.1 (fun q hq e => by have := hf2 q e; omega)
                  have hF6 : ∀ q, v6.ownBlock = some q → h.size ≤ q := fun q e => (hr6.2 q e).elim (hf2 q) (fun z => by omega)
                  have hl6 := hl3 (nm ++ [0]) (by simp; omega)
                  rw [← List.append_assoc] at hl6))
  all_goals (first | (refine Br.keep ?_) | (refine ⟨fun _ => hC6, ?_⟩))
  all_goals (first | (refine Br.keep ?_) | (refine WH.one 6 (by kernel_rfl) ?_))
  all_goals (first
               | (refine Br.keep ?_)
               | (refine Comes1.call (vs := [_, _, _]) rfl rfl (fun a w => Tryz.call66 a w) rfl (put01 _ t 4 sz4 (rt4s (by omega)) ho6.rd (by omega)) rfl rfl rfl ?_ (fun _ => by kernel_rfl)
                  rintro v7 h7 ⟨ho7, hx7, hf7⟩
                  have hC7 : Ext (fun q => u.ownBlock = some q) h4 h7 := hC6.trans (hx7.mono fun _ _ e => e.elim)
                  have hl7 := hl3 (nm ++ [0] ++ be t 4) (by simp [be_len]; omega)
                  simp only [← List.append_assoc] at hl7))
  all_goals (first | (refine Br.keep ?_) | (refine ⟨fun _ => hC7, ?_⟩))
  all_goals (first | (refine Br.keep ?_) | (refine WH.one 9 (by kernel_rfl) ?_))
  all_goals (first
               | (refine Br.keep ?_)
               | (refine Comes1.call (vs := [_, _, _]) rfl rfl (fun a w => Tryz.call66 a w) rfl (put01 _ a 2 sz2 (rt2 (by omega)) ho7.rd (by omega)) rfl rfl rfl ?_ (fun _ => by kernel_rfl)
                  rintro v8 h8 ⟨ho8, hx8, hf8⟩
                  have hC8 : Ext (fun q => u.ownBlock = some q) h4 h8 := hC7.trans (hx8.mono fun _ _ e => e.elim)
                  have hl8 := hl3 (nm ++ [0] ++ be t 4 ++ be a 2) (by simp [be_len]; omega)
                  simp only [← List.append_assoc] at hl8
                  have hX8 : Ext No h h8 := (hX6.trans hx7).trans hx8
                  have hb58 := hC8.obj hb54 n5))
  all_goals (first | (refine Br.keep ?_) | (refine ⟨fun _ => hC8, ?_⟩))
  all_goals (first | (refine Br.keep ?_) | (refine WH.one 10 (by kernel_rfl) ?_))
  all_goals (first
               | (refine Br.keep ?_)
               | (refine Comes1.run rfl (OkP.r (ok_assign rfl)) rfl rfl rfl ?_ (fun _ => by kernel_rfl)
                  rintro _ hz ⟨rfl, _⟩
                  subst hz))
  all_goals (first | (refine Br.keep ?_) | (refine ⟨fun _ => hC8, ?_⟩))
  all_goals (first | (refine Br.keep ?_) | (refine WH.done (by kernel_rfl) ?_))
  all_goals (refine Gn ?_)
  all_goals (first | (refine Br.keep ?_) | (refine Gs [(0, _), (3, _), (4, _), (5, _)] ?_))
  all_goals (first | (refine Br.keep ?_) | (refine WC.seq ?_))
  all_goals (first | (refine Br.keep ?_) | (refine WC.drawH (fun h' => Ext No h8 h') 7 8 rfl fol ?_))
  all_goals (first | (refine Br.keep ?_) | (refine WH.tk 0 rfl (fun hq hC => ok_move rfl) rfl rfl rfl ?_))
  all_goals (first | (refine Br.keep ?_) | (refine WH.tk 1 rfl (fun hq hC => ok_fieldAddr rfl Tryz.underlying264 rfl (fun w => Tryz.sizeOf3 w)) rfl rfl rfl ?_))
  all_goals (first | (refine Br.keep ?_) | (refine WH.tk 2 rfl (fun hq hC => ok_load (fun w => Tryz.isAgg3 w) rfl (by first | exact hC.cell (by first | exact cell_blk hb58 rfl | assumption | exact cell_blk (by assumption) rfl) nos)) rfl rfl rfl ?_))
  all_goals (first | (refine Br.keep ?_) | (refine WH.tk 4 rfl (fun hq hC => ok_fieldAddr rfl Tryz.underlying264 rfl (fun w => Tryz.sizeOf3 w)) rfl rfl rfl ?_))
  all_goals (first | (refine Br.keep ?_) | (refine WH.tk 5 rfl (fun hq hC => ok_load (fun w => Tryz.isAgg3 w) rfl (by first | exact hC.cell (by first | exact cell_blk hb58 rfl | assumption | exact cell_blk (by assumption) rfl) nos)) rfl rfl rfl ?_))
  all_goals (first | (refine Br.keep ?_) | (refine WH.one 3 (by kernel_rfl) ?_))
  all_goals (first
               | (refine Br.keep ?_)
               | (refine Comes1.call (vs := [_, _, _]) rfl rfl (fun a w => Tryz.call66 a w) rfl (put01 _ o 4 sz4 (rt4s (by omega)) ho8.rd (by omega)) rfl rfl rfl ?_ (fun _ => by kernel_rfl)
                  rintro v9 h9 ⟨ho9, hx9, hf9⟩
                  have hl9 := hl3 (nm ++ [0] ++ be t 4 ++ be a 2 ++ be o 4) (by simp [be_len]; omega)
                  simp only [← List.append_assoc] at hl9))
  all_goals (first | (refine Br.keep ?_) | (refine ⟨fun _ => hx9, ?_⟩))
  all_goals (first | (refine Br.keep ?_) | (refine WH.one 6 (by kernel_rfl) ?_))
  all_goals (first
               | (refine Br.keep ?_)
               | (refine Comes1.call (vs := [_, _, _]) rfl rfl (fun a w => Tryz.call66 a w) rfl (put01 _ s 2 sz2 (rt2 (by omega)) ho9.rd (by omega)) rfl rfl rfl ?_ (fun _ => by kernel_rfl)
                  rintro v10 h10 ⟨ho10, hx10, hf10⟩
                  have hC10 := hx9.trans hx10
                  have hl10 := hl3 (nm ++ [0] ++ be t 4 ++ be a 2 ++ be o 4 ++ be s 2) (by simp [be_len]; omega)
                  simp only [← List.append_assoc] at hl10
                  have hX10 := hX8.trans hC10
                  have hb510 := hC10.obj hb58 nos))
  all_goals (first | (refine Br.keep ?_) | (refine ⟨fun _ => hC10, ?_⟩))
  all_goals (first | (refine Br.keep ?_) | (refine WH.one 7 (by kernel_rfl) ?_))
  all_goals (first
               | (refine Br.keep ?_)
               | (refine Comes1.run rfl (OkP.r (ok_assign rfl)) rfl rfl rfl ?_ (fun _ => by kernel_rfl)
                  rintro _ hz ⟨rfl, _⟩
                  subst hz))
  all_goals (first | (refine Br.keep ?_) | (refine ⟨fun _ => hC10, ?_⟩))
  all_goals (first | (refine Br.keep ?_) | (refine WH.done (by kernel_rfl) ?_))
  all_goals (refine Gn ?_)
  all_goals (first | (refine Br.keep ?_) | (refine Gs [(0, _), (3, _), (4, _), (5, _)] ?_))
  all_goals (first | (refine Br.keep ?_) | (refine WC.drawH (fun h' => Ext No h10 h') 7 8 rfl fol ?_))
  all_goals (first | (refine Br.keep ?_) | (refine WH.tk 0 rfl (fun hq hC => ok_move rfl) rfl rfl rfl ?_))
  all_goals (first | (refine Br.keep ?_) | (refine WH.tk 1 rfl (fun hq hC => ok_fieldAddr rfl Tryz.underlying264 rfl (fun w => Tryz.sizeOf3 w)) rfl rfl rfl ?_))
  all_goals (first | (refine Br.keep ?_) | (refine WH.tk 2 rfl (fun hq hC => ok_load (fun w => Tryz.isAgg3 w) rfl (by first | exact hC.cell (by first | exact cell_blk hb510 rfl | assumption | exact cell_blk (by assumption) rfl) nos)) rfl rfl rfl ?_))
  all_goals (first | (refine Br.keep ?_) | (refine WH.tk 4 rfl (fun hq hC => ok_fieldAddr rfl Tryz.underlying264 rfl (fun w => Tryz.sizeOf3 w)) rfl rfl rfl ?_))
  all_goals (first | (refine Br.keep ?_) | (refine WH.tk 5 rfl (fun hq hC => ok_load (fun w => Tryz.isAgg3 w) rfl (by first | exact hC.cell (by first | exact cell_blk hb510 rfl | assumption | exact cell_blk (by assumption) rfl) nos)) rfl rfl rfl ?_))
  all_goals (first | (refine Br.keep ?_) | (refine WH.one 3 (by kernel_rfl) ?_))
  all_goals (first
               | (refine Br.keep ?_)
               | (refine Comes1.call (vs := [_, _, _]) rfl rfl (fun a w => Tryz.call66 a w) rfl (put01 _ m 4 sz4 (rt4s (by omega)) ho10.rd (by omega)) rfl rfl rfl ?_ (fun _ => by kernel_rfl)
                  rintro v11 h11 ⟨ho11, hx11, hf11⟩
                  have hl11 := hl3 (nm ++ [0] ++ be t 4 ++ be a 2 ++ be o 4 ++ be s 2 ++ be m 4) (by simp [be_len]; omega)
                  simp only [← List.append_assoc] at hl11))
  all_goals (first | (refine Br.keep ?_) | (refine ⟨fun _ => hx11, ?_⟩))
  all_goals (first | (refine Br.keep ?_) | (refine WH.one 6 (by kernel_rfl) ?_))
  all_goals (first
               | (refine Br.keep ?_)
               | (refine Comes1.call (vs := [_, _, _]) rfl rfl (fun a w => Tryz.call66 a w) rfl (put01 _ f 2 sz2 (rt2 (by omega)) ho11.rd (by omega)) rfl rfl rfl ?_ (fun _ => by kernel_rfl)
                  rintro v12 h12 ⟨ho12, hx12, hf12⟩
                  have hC12 := hx11.trans hx12
                  have hX12 := hX10.trans hC12
                  have hF12 : ∀ q, v12.ownBlock = some q → h.size ≤ q := fun q e => by have := hf12 q e; have := (hX10.trans hx11).size; omega
                  have hO12 : Own h12 v12 5 1 (be (L.length : Int) 2 ++ (L.take (k + 1)).flatMap encCol).length (bys (be (L.length : Int) 2 ++ (L.take (k + 1)).flatMap encCol)) := by rw [flat_snoc hy]; simpa [encCol] using ho12))
  all_goals (first | (refine Br.keep ?_) | (refine ⟨fun _ => hC12, ?_⟩))
  all_goals (first | (refine Br.keep ?_) | (refine WH.one 7 (by kernel_rfl) ?_))
  all_goals (first
               | (refine Br.keep ?_)
               | (refine Comes1.run rfl (OkP.r (ok_assign rfl)) rfl rfl rfl ?_ (fun _ => by kernel_rfl)
                  rintro _ hz ⟨rfl, _⟩
                  subst hz))
  all_goals (first | (refine Br.keep ?_) | (refine ⟨fun _ => hC12, ?_⟩))
  all_goals (first | (refine Br.keep ?_) | (refine WH.done (by kernel_rfl) ?_))
  all_goals (refine Gn ?_)
  all_goals (first | (refine Br.keep ?_) | (refine Gs [(0, _), (3, _), (4, _)] ?_))
  all_goals (first | (refine Br.keep ?_) | (refine WC.region ?_))
  all_goals (refine Go ?_)
  all_goals (first | (refine Br.keep ?_) | (exact ⟨(k + 1, _), ⟨rfl, rfl, rfl, trivial⟩, (by exact ⟨by omega, hO12, hX12, hF12⟩), (by simp; omega)⟩))
  all_goals (try (refine Br.mk (i := 1000) ?_))
  all_goals (refine Gn ?_)
  all_goals (refine Gs [(3, _)] ?_)
  all_goals (refine WC.sr ?_)
  all_goals (refine Go ?_)
  all_goals (refine Gt ?_)
  all_goals (rw [List.take_of_length_le (by omega)] at ho2
             exact ⟨ho2, hx2, hf2⟩)
set_option maxHeartbeats 2000000 in
set_option maxRecDepth 100000 in
theorem told07 {h : Heap} {vr : Value} (F : List FieldD) (hr : Rd h vr 2 F.length (F.flatMap FieldD.cells)) (hm : F.length ≤ 65535) (hF : ∀ f ∈ F, f.t.length ≤ 1048576 ∧ 0 ≤ f.k ∧ f.k ≤ 255) :
    CallsH Tryz.prog 71 ⟨[vr]⟩ h fun u h' => Own h' u 5 1 (encF F ++ [0]).length (bys (encF F ++ [0])) ∧ Ext No h h' ∧ ∀ q, u.ownBlock = some q → h.size ≤ q := by
  obtain ⟨A, cc, rfl, _⟩ := id hr
  have hlen : ∀ k, (encF (F.take k)).length ≤ 65535 * 1048578 := fun k => Nat.le_trans (encF_len (F.take k) 1048576 (fun f hf => (hF f (List.mem_of_mem_take hf)).1)) (Nat.mul_le_mul (by rw [List.length_take]; omega) (Nat.le_refl _))
  refine calls [(0, _)] Tryz.func71 rfl Tryz.ntmps71 rfl ⟨rfl, trivial⟩ ?_
  all_goals (refine WC.sr ?_)
  all_goals (refine Go ?_)
  all_goals (refine WC.sr ?_)
  all_goals (refine Go ?_)
  all_goals (refine WC.seq ?_)
  all_goals (refine WC.sr ?_)
  all_goals (refine Go ?_)
  all_goals (refine WC.block ?_)
  -- loop 0: slots that turn [3, 4], that stay [0]
  all_goals (refine WC.loopG (X := Nat × Value) (fun x => ([(4, In (x.1 : Int)), (3, x.2)] : Fr)) [(0, _)] (fun y h' => y.1 ≤ F.length ∧ Own h' y.2 5 1 (encF (F.take y.1)).length (bys (encF (F.take y.1))) ∧ Ext No h h' ∧ ∀ q, y.2.ownBlock = some q → h.size ≤ q) (fun y => F.length - y.1) ((0, nilV)) ⟨rfl, rfl, rfl, trivial⟩ (by exact ⟨Nat.zero_le _, Own.nil _ _ _, .refl _ _, by simp [Value.ownBlock]⟩) ?_)
  all_goals (rintro ⟨k, u⟩ h2 ⟨hk, ho2, hx2, hf2⟩
             dsimp only at hk ho2 hf2)
  all_goals (refine WC.sub [(3, _), (4, _), (0, _)] ⟨rfl, rfl, rfl, trivial⟩ ?_)
  all_goals (dsimp only)
  all_goals (refine WC.seq ?_)
  all_goals (refine WC.sr ?_)
  all_goals (refine Go ?_)
  all_goals (refine goC 1 2 ?_ ?_ <;> first | exact ⟨⟩ | refine Hb.mk fun hb => ?_ | skip)
  all_goals (first | (fail_if_success refine goB 1 ?_) | (
  refine goB 1 ?_
  all_goals (refine WC.skip ?_)
  skip))
  all_goals (first | (fail_if_success refine goB 2 ?_) | (
  refine goB 2 ?_
  all_goals (refine WC.exit ?_)
  all_goals (repeat' (with_reducible first | refine thenP_x ?_ | refine blockP_miss rfl ?_ | refine blockP_hit ?_ | refine blockP_n ?_ | refine thenP_n ?_))
  all_goals (refine Br.out (i := 1000) ?_)
  skip))
  all_goals (refine Gn ?_)
  all_goals (first | (refine Br.keep ?_) | (refine Gs [(0, _), (3, _), (4, _)] ?_))
  all_goals (first | (refine Br.keep ?_) | (refine WC.seq ?_))
  all_goals (first | (refine Br.keep ?_) | (refine WC.block ?_))
  all_goals (first | (refine Br.keep ?_) | (refine WC.drawH (fun h' => Ext (fun q => u.ownBlock = some q) h2 h') 14 15 rfl fol ?_))
  all_goals (first
               | (refine Br.keep ?_)
               | (obtain ⟨bL, oL, hA, hbL, hat⟩ := Rd.at_ hr (by omega)
                  obtain ⟨⟨yk, yt⟩, hy⟩ : ∃ y, F[k]? = some y := ⟨_, List.getElem?_eq_getElem (by omega)⟩
                  have hyF := hF _ (List.mem_of_getElem? hy)
                  dsimp only at hyF
                  have hcd : At h2 bL (oL + k * 2) [.int .u8 yk, St yt] := At.elem FieldD.len (hat.ext hx2 nos) hy
                  have hlk := hlen k
                  have s2 := hx2.size
                  have nL : ¬ u.ownBlock = some bL := fun e => by have := hf2 _ e; omega))
  all_goals (first | (refine Br.keep ?_) | (refine WH.tk 0 rfl (fun hq hC => ok_move rfl) rfl rfl rfl ?_))
  all_goals (first | (refine Br.keep ?_) | (refine WH.tk 1 rfl (fun hq hC => ok_move rfl) rfl rfl rfl ?_))
  all_goals (first | (refine Br.keep ?_) | (refine WH.tk 2 rfl (fun hq hC => ok_move rfl) rfl rfl rfl ?_))
  all_goals (first | (refine Br.keep ?_) | (refine WH.tk 3 rfl (fun hq hC => ok_idxAddrA Tryz.underlying26 (fun w => Tryz.sizeOf266 w) rfl rfl rfl (by omega) (by first | rfl | assumption)) rfl rfl rfl ?_))
  all_goals (first | (refine Br.keep ?_) | (refine WH.tk 4 rfl (fun hq hC => ok_fieldAddr rfl Tryz.underlying266 rfl (fun w => Tryz.sizeOf5 w)) rfl rfl rfl ?_))
  all_goals (first | (refine Br.keep ?_) | (refine WH.tk 5 rfl (fun hq hC => ok_load (fun w => Tryz.isAgg5 w) rfl (by first | exact hC.cell (by first | exact hcd.get 0 rfl rfl | assumption | exact cell_blk (by assumption) rfl) nL)) rfl rfl rfl ?_))
  all_goals (first | (refine Br.keep ?_) | (refine WH.tk 8 rfl (fun hq hC => ok_move rfl) rfl rfl rfl ?_))
  all_goals (first | (refine Br.keep ?_) | (refine WH.tk 9 rfl (fun hq hC => ok_move rfl) rfl rfl rfl ?_))
  all_goals (first | (refine Br.keep ?_) | (refine WH.tk 10 rfl (fun hq hC => ok_idxAddrA Tryz.underlying26 (fun w => Tryz.sizeOf266 w) rfl rfl rfl (by omega) (by first | rfl | assumption)) rfl rfl rfl ?_))
  all_goals (first | (refine Br.keep ?_) | (refine WH.tk 11 rfl (fun hq hC => ok_fieldAddr rfl Tryz.underlying266 rfl (fun w => Tryz.sizeOf9 w)) rfl rfl rfl ?_))
  all_goals (first | (refine Br.keep ?_) | (refine WH.tk 12 rfl (fun hq hC => ok_load (fun w => Tryz.isAgg9 w) rfl (by first | exact hC.cell (by first | exact hcd.get 1 rfl rfl | assumption | exact cell_blk (by assumption) rfl) nL)) rfl rfl rfl ?_))
  all_goals (first | (refine Br.keep ?_) | (refine WH.one 6 (by kernel_rfl) ?_))
  all_goals (first
               | (refine Br.keep ?_)
               | (refine Comes1.run rfl (okE_buildSlice (vs := [_]) (cs := [_]) (fun | [a0] => [a0] | _ => []) Tryz.underlying22 rfl rfl (by kernel_rfl)) rfl rfl rfl ?_ (fun _ => by kernel_rfl)
                  rintro _ h7 ⟨b7, rfl, hg7, hb7, hx7⟩))
  all_goals (first | (refine Br.keep ?_) | (refine ⟨fun _ => hx7.mono fun _ _ e => e.elim, ?_⟩))
  all_goals (first | (refine Br.keep ?_) | (have hC7 : Ext (fun q => u.ownBlock = some q) h2 h7 := hx7.mono fun _ _ e => e.elim))
  all_goals (first | (refine Br.keep ?_) | (refine WH.one 7 (by kernel_rfl) ?_))
  all_goals (first
               | (refine Br.keep ?_)
               | (refine Comes1.run rfl (ok_append (sz := 1) (bytes := 1) rfl Tryz.underlying22 (show Tryz.prog.info? 5 = some Tryz.t5 by kernel_rfl) rfl rfl rfl rfl (by decide) rfl rfl (ho2.ext hx7 (fun _ _ => nos)) (rd_blk hb7 rfl) (by simp [Value.oneCell']) (by simp only [maxLen]; omega) (by omega)) rfl rfl rfl ?_ (fun _ => by kernel_rfl)
                  rintro v8 h8 ⟨ho8, hx8, hl8⟩))
  all_goals (first | (refine Br.keep ?_) | (refine ⟨fun _ => hC7.trans hx8, ?_⟩))
  all_goals (first
               | (refine Br.keep ?_)
               | (have hC8 := hC7.trans hx8
                  have s7 := hx7.size
                  have s8 := hx8.size
                  have hX8 : Ext No h h8 := hx2.trans' hC8 (fun q hq e => by have := hf2 q e; omega)
                  have hF8 : ∀ q, v8.ownBlock = some q → h.size ≤ q := fun q e => hl8.elim (fun z => hf2 q (z ▸ e)) (fun z => by rw [z] at e; cases e; omega)
                  have hO8 : Own h8 v8 5 1 (encF (F.take k) ++ [UInt8.ofNat yk.toNat]).length (bys (encF (F.take k) ++ [UInt8.ofNat yk.toNat])) := by rw [show (encF (F.take k) ++ [UInt8.ofNat yk.toNat]).length = (encF (F.take k)).length + 1 by simp, show bys (encF (F.take k) ++ [UInt8.ofNat yk.toNat]) = bys (encF (F.take k)) ++ [Value.int .u8 yk] by simp only [bys, List.map_append, List.map_cons, List.map_nil]; exact congrArg (fun z => List.map By (encF (List.take k F)) ++ [z]) (byK hyF.2.1 hyF.2.2)]; exact ho8
                  have n8 : ∀ q, v8.ownBlock = some q → q < h2.size → u.ownBlock = some q := fun q e hq => hl8.elim (fun z => z ▸ e) (fun z => by rw [z] at e; cases e; omega)))
  all_goals (first | (refine Br.keep ?_) | (refine WH.one 13 (by kernel_rfl) ?_))
  all_goals (first
               | (refine Br.keep ?_)
               | (refine Comes1.call (vs := [_, _]) rfl rfl (fun a w => Tryz.call67 a w) rfl (str06 _ yt hO8 (by simp only [List.length_append, List.length_cons, List.length_nil]; omega)) rfl rfl rfl ?_ (fun _ => by kernel_rfl)
                  rintro v9 h9 ⟨ho9, hr9⟩
                  have hC9 : Ext (fun q => u.ownBlock = some q) h2 h9 := hC8.trans' hr9.1 (fun q hq e => n8 q e hq)
                  obtain ⟨hX9, hF9⟩ := hr9.fresh hX8 hF8))
  all_goals (first | (refine Br.keep ?_) | (refine ⟨fun _ => hC9, ?_⟩))
  all_goals (first | (refine Br.keep ?_) | (refine WH.one 14 (by kernel_rfl) ?_))
  all_goals (first
               | (refine Br.keep ?_)
               | (refine Comes1.run rfl (OkP.r (ok_assign rfl)) rfl rfl rfl ?_ (fun _ => by kernel_rfl)
                  rintro _ hz ⟨rfl, _⟩
                  subst hz))
  all_goals (first | (refine Br.keep ?_) | (refine ⟨fun _ => hC9, ?_⟩))
  all_goals (first | (refine Br.keep ?_) | (refine WH.done (by kernel_rfl) ?_))
  all_goals (refine Gn ?_)
  all_goals (first | (refine Br.keep ?_) | (refine Gs [(0, _), (3, _), (4, _)] ?_))
  all_goals (first | (refine Br.keep ?_) | (refine WC.region ?_))
  all_goals (refine Go ?_)
  all_goals (first | (refine Br.keep ?_) | (exact ⟨(k + 1, _), ⟨rfl, rfl, rfl, trivial⟩, (by exact ⟨by omega, by rw [encF_snoc hy]; exact ho9, hX9, hF9⟩), (by simp; omega)⟩))
  all_goals (try (refine Br.mk (i := 1000) ?_))
  all_goals (refine Gn ?_)
  all_goals (refine Gs [(3, _)] ?_)
  all_goals (refine WC.sr ?_)
  all_goals (refine Go ?_)
  all_goals (have hlk := hlen k)
  all_goals (refine WL.stepR (okE_buildSlice (vs := [_]) (cs := [_]) (fun | [a0] => [a0] | _ => []) Tryz.underlying22 rfl rfl (by kernel_rfl)) rfl rfl rfl ?_
             rintro _ h3 ⟨b3, rfl, hg3, hb3, hx3⟩)
  all_goals (refine WL.stepR (ok_append (sz := 1) (bytes := 1) rfl Tryz.underlying22 (show Tryz.prog.info? 5 = some Tryz.t5 by kernel_rfl) rfl rfl rfl rfl (by decide) rfl rfl (ho2.ext hx3 (fun _ _ => nos)) (rd_blk hb3 rfl) (by simp [Value.oneCell']) (by simp only [maxLen]; omega) (by omega)) rfl rfl rfl ?_
             rintro v4 h4 ⟨ho4, hx4, hl4⟩)
  all_goals (refine Go ?_)
  all_goals (refine Gs [(2, _)] ?_)
  all_goals (refine Gt ?_)
  all_goals (have e0 : F.take k = F := List.take_of_length_le (by omega)
             have s2 := hx2.size
             have s3 := hx3.size
             rw [e0] at ho4
             refine ⟨?_, (hx2.trans hx3).trans' hx4 (fun q hq e => by have := hf2 q e; omega), fun q e => hl4.elim (fun z => hf2 q (z ▸ e)) (fun z => by rw [z] at e; cases e; omega)⟩
             rw [show (encF F ++ [(0 : UInt8)]).length = (encF F).length + 1 by simp, show bys (encF F ++ [0]) = bys (encF F) ++ [Value.int .u8 0] by simp only [bys, List.map_append, List.map_cons, List.map_nil]; rfl]
             exact ho4)
end Go.Proofs.YtbglafgndaekoaaGreatDoor


