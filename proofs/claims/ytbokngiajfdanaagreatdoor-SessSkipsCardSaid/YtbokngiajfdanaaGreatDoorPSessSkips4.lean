/-
  SEVERAL TEXTS IN ONE: Dx8, Dx10, Dx11, Dx12, Dx13, ColsR, Dx14, Dx15, K29, Dx9.
-/
import Derived.Test.YtbokngiajfdanaaGreatDoorPSessSkips3
/-
  SESSIONS (layer 30), in plain Lean: what a session has, and what it says of a message.
-/
namespace Go.Proofs.YtbokngiajfdanaaGreatDoor
open Go Go.RK

abbrev CelP := Bool × List UInt8
abbrev StP := List UInt8 × List Int
abbrev PdP := List UInt8 × List Int × List CelP × List (List CelP) × Bool × Bool
abbrev ErP := Option (List UInt8 × List UInt8)
/-- What a session has. -/
structure SP where
  st : Int
  sk : Bool
  ov : Bool
  cnt : Int
  L : List (List UInt8 × StP)
  P : List (List UInt8 × PdP)
/-- What a message says, as far as a session looks at it. -/
structure FmP where
  kind : Int
  what : Int
  name : List UInt8
  portal : List UInt8
  text : List UInt8
  oids : List Int
  params : List CelP
  max : Int
/-- What a reply says. -/
structure BkP where
  kind : Int
  status : Int := 0
  tag : List UInt8 := []
  name : List UInt8 := []
  value : List UInt8 := []
  n : Int := 0
  m : Int := 0
  oids : List Int := []
  cols : List ColD := []
  row : List CelP := []
  fields : List FieldD := []
def Fm.p (f : Fm) : FmP := ⟨f.kind, f.what, f.name, f.portal, f.text, f.oids, f.params.map Cel.pl, f.max⟩
def Bk.p (b : Bk) : BkP := ⟨b.kind, b.status, b.tag, b.name, b.value, b.n, b.m, b.oids, b.cols, b.row.map Cel.pl, b.fields⟩
def plL (L : List (List UInt8 × StD)) : List (List UInt8 × StP) := L.map fun q => (q.1, q.2.text, q.2.oids)
def plP (P : List (List UInt8 × ItD)) : List (List UInt8 × PdP) := P.map fun q => (q.1, q.2.d.pl)
abbrev SayP := SP × List BkP × ErP
def stmtP (s : SP) (n : List UInt8) : ErP := match getK s.L n with
  | none => some (([50, 54, 48, 48, 48] : List UInt8), missL n)
  | some t => abortP t.1 s.st
def portP (s : SP) (n : List UInt8) : ErP := match getK s.P n with
  | none => some (([51, 52, 48, 48, 48] : List UInt8), saysL ([112, 111, 114, 116, 97, 108] : List UInt8) n ([100, 111, 101, 115, 32, 110, 111, 116, 32, 101, 120, 105, 115, 116] : List UInt8))
  | some p => abortP p.1 s.st
def parseP (s : SP) (f : FmP) : SayP :=
  let s1 : SP := if f.name = [] then { s with L := delK s.L [] } else s
  match refP f.text s.st with
  | some e => (s1, [], some e)
  | none => if (getK s1.L f.name).isSome = true then (s1, [], some (([52, 50, 80, 48, 53] : List UInt8), exisL f.name)) else ({ s1 with L := putK s1.L f.name (f.text, f.oids) }, [{ kind := 49 }], none)
def bindP (s : SP) (f : FmP) : SayP := match stmtP s f.name with
  | some e => (s, [], some e)
  | none => match getK s.L f.name with
    | none => (s, [], none)
    | some t => if f.params.length ≠ t.2.length then (s, [], some (([48, 56, 80, 48, 49] : List UInt8), arityL (f.params.length : Int) f.name (t.2.length : Int)))
      else if f.portal ≠ [] ∧ (getK s.P f.portal).isSome = true then (s, [], some (([52, 50, 80, 48, 51] : List UInt8), saysL ([99, 117, 114, 115, 111, 114] : List UInt8) f.portal ([97, 108, 114, 101, 97, 100, 121, 32, 101, 120, 105, 115, 116, 115] : List UInt8)))
      else ({ s with P := putK s.P f.portal (t.1, t.2, f.params, [], false, false) }, [{ kind := 50 }], none)
def colP (nm : List UInt8) : ColD := ⟨nm, 0, 0, 25, -1, -1, 0⟩
def descP (n : Int) : BkP := { kind := 84, cols := (colsL (heldN n)).map colP }
def shapeP (t : StP) : BkP := if rowsB (verbP t.1) = true then descP (colN (verbP t.1) t.2.length) else { kind := 110 }
def describeP (s : SP) (f : FmP) : SayP := if f.what = 83 then (match stmtP s f.name with
    | some e => (s, [], some e)
    | none => match getK s.L f.name with
      | none => (s, [], none)
      | some t => (s, [{ kind := 116, oids := t.2 }, shapeP t], none))
  else match portP s f.portal with
    | some e => (s, [], some e)
    | none => match getK s.P f.portal with
      | none => (s, [], none)
      | some p => (s, [shapeP (p.1, p.2.1)], none)
def tagP (n : Nat) : List UInt8 := ([83, 69, 76, 69, 67, 84, 32] : List UInt8) ++ deci (n : Int)
def rowsRep (l : List (List CelP)) (more : Bool) : List BkP := l.map (fun r => ({ kind := 68, row := r } : BkP)) ++ [if more = true then { kind := 115 } else { kind := 67, tag := tagP l.length }]
def turnP (s : SP) (v : VeD) : SayP := if v.k = 1 then (s, [{ kind := 73 }], none) else if v.k = 8 then (s, [], some (v.c, ([102, 97, 105, 108, 101, 100, 32, 111, 110, 32, 112, 117, 114, 112, 111, 115, 101] : List UInt8)))
  else ({ s with st := (nextP s.st v).1, P := if exitB v = true then [] else s.P }, [{ kind := 67, tag := (nextP s.st v).2 }], none)
/-- What the engine tells of a verb, and how often it was asked then. -/
def engP (v : VeD) (ps : List CelP) (cnt : Int) : List (List CelP) × Int := if v.k = 5 then (rowsP (heldN v.n), cnt) else if v.k = 6 then ([ps], cnt) else if v.k = 7 then ([[(false, deci (cnt + 1))]], cnt + 1) else ([], cnt)
/-- A portal that ran: its next rows, and whether some are left. -/
def fetP (rs : List (List CelP)) (ov : Bool) (most : Int) : List (List CelP) × List (List CelP) × Bool :=
  if ov = true then ([], rs, true) else
    let n := if 0 < most then min rs.length most.toNat else rs.length
    (rs.take n, rs.drop n, decide ((rs.drop n).length = 0))
def executeP (s : SP) (f : FmP) : SayP := match portP s f.portal with
  | some e => (s, [], some e)
  | none => match getK s.P f.portal with
    | none => (s, [], none)
    | some (t, o, ps, rs, ran, ov) =>
      if rowsB (verbP t) = true then
        let rc := if ran = true then (rs, s.cnt) else engP (verbP t) ps s.cnt
        let q := fetP rc.1 ov f.max
        ({ s with cnt := rc.2, P := putK s.P f.portal (t, o, ps, q.2.1, true, q.2.2) }, rowsRep q.1 (!q.2.2), none)
      else if ran = true ∧ (verbP t).k ≠ 1 then (s, [], some (([53, 53, 48, 48, 48] : List UInt8), ([112, 111, 114, 116, 97, 108, 32, 99, 97, 110, 110, 111, 116, 32, 98, 101, 32, 114, 117, 110] : List UInt8)))
      else match turnP s (verbP t) with
        | (s1, out, none) => ({ s1 with P := if exitB (verbP t) = true ∨ ran = true then s1.P else putK s1.P f.portal (t, o, ps, [], true, ov) }, out, none)
        | r => r
def shutP (s : SP) (f : FmP) : SayP := if f.what = 83 then ({ s with L := delK s.L f.name }, [{ kind := 51 }], none) else ({ s with P := delK s.P f.portal }, [{ kind := 51 }], none)
def queryP (s : SP) (f : FmP) : SayP :=
  let s1 : SP := { s with L := delK s.L [], P := delK s.P [] }
  match refP f.text s.st with
  | some e => (s1, [], some e)
  | none => if rowsB (verbP f.text) = true then
      let rc := engP (verbP f.text) [] s.cnt
      ({ s1 with cnt := rc.2 }, descP (colN (verbP f.text) 0) :: rowsRep rc.1 false, none)
    else turnP s1 (verbP f.text)
def syncP (s : SP) : SP × BkP := ({ s with P := if s.st = 73 then [] else s.P }, { kind := 90, status := s.st })
def dealP (s : SP) (f : FmP) : SayP :=
  if f.kind = 80 then parseP s f else if f.kind = 66 then bindP s f else if f.kind = 68 then describeP s f else if f.kind = 69 then executeP s f
  else if f.kind = 67 then shutP s f else if f.kind = 81 then queryP s f else (s, [], none)
def errP (c t : List UInt8) : BkP := { kind := 69, fields := fl4 ([69, 82, 82, 79, 82] : List UInt8) c t }
def failedP (s : SP) (c t : List UInt8) : SP × BkP := ({ s with st := failP s.st, P := if failP s.st = 69 then [] else s.P }, errP c t)
/-- What is said of a message behind what is dealt. -/
def restP (f : FmP) (r : SayP) : SP × List BkP :=
  let a : SP × List BkP := match r.2.2 with
    | some (c, t) => ((failedP { r.1 with sk := decide (f.kind ≠ 81) } c t).1, r.2.1 ++ [(failedP r.1 c t).2])
    | none => (r.1, r.2.1)
  if f.kind = 81 then ((syncP a.1).1, a.2 ++ [(syncP a.1).2]) else a
/-- What is said of a message. -/
def doP (s : SP) (f : FmP) : SP × List BkP :=
  if s.ov = true then (s, [])
  else if f.kind = 88 then ({ s with ov := true }, [])
  else if f.kind = 83 then ((syncP { s with sk := false }).1, [(syncP s).2])
  else if s.sk = true then (s, [])
  else restP f (dealP s f)
/-! ### maps, told plainly -/
section
variable {κ α β : Type} [DecidableEq κ]
theorem getK_map (F : α → β) (E : List (κ × α)) (n : κ) : getK (E.map fun q => (q.1, F q.2)) n = (getK E n).map F := by
  induction E with
  | nil => rfl
  | cons a E ih => rw [List.map_cons, getK_cons, getK_cons, ih]; split <;> rfl
theorem delK_map (F : α → β) (E : List (κ × α)) (n : κ) : delK (E.map fun q => (q.1, F q.2)) n = (delK E n).map fun q => (q.1, F q.2) := by
  unfold delK
  rw [List.filter_map]
  rfl
theorem putK_map (F : α → β) (E : List (κ × α)) (n : κ) (v : α) : putK (E.map fun q => (q.1, F q.2)) n (F v) = (putK E n v).map fun q => (q.1, F q.2) := by
  unfold putK
  rw [getK_map]
  rcases getK E n with _ | w
  · simp
  · simp only [Option.map_some, Option.isSome_some, if_true, List.map_map]
    refine List.map_congr_left fun p _ => ?_
    simp only [Function.comp]
    split <;> rfl
end
theorem getL_pl (L : List (List UInt8 × StD)) (n : List UInt8) : getK (plL L) n = (getK L n).map fun q => (q.text, q.oids) := getK_map (fun q : StD => (q.text, q.oids)) L n
theorem getP_pl (P : List (List UInt8 × ItD)) (n : List UInt8) : getK (plP P) n = (getK P n).map fun q => q.d.pl := getK_map (fun q : ItD => q.d.pl) P n
theorem delL_pl (L : List (List UInt8 × StD)) (n : List UInt8) : plL (delK L n) = delK (plL L) n := (delK_map (fun q : StD => (q.text, q.oids)) L n).symm
theorem delP_pl (P : List (List UInt8 × ItD)) (n : List UInt8) : plP (delK P n) = delK (plP P) n := (delK_map (fun q : ItD => q.d.pl) P n).symm
theorem putL_pl (L : List (List UInt8 × StD)) (n : List UInt8) (v : StD) : plL (putK L n v) = putK (plL L) n (v.text, v.oids) := (putK_map (fun q : StD => (q.text, q.oids)) L n v).symm
theorem putP_pl (P : List (List UInt8 × ItD)) (n : List UInt8) (v : ItD) : plP (putK P n v) = putK (plP P) n v.d.pl := (putK_map (fun q : ItD => q.d.pl) P n v).symm
/-! ### replies in memory -/
def Bk.F (b : Bk) (q : Nat) : Prop := (0 < b.oids.length ∧ b.vo.ownBlock = some q) ∨ (0 < b.cols.length ∧ b.vc.ownBlock = some q) ∨ CelsF b.vr b.row q ∨ (0 < b.fields.length ∧ b.vf.ownBlock = some q)
theorem Bk.ok.ext {h h' : Heap} {S : Nat → Prop} {b : Bk} (k : b.ok h) (a : Ext S h h') (hS : ∀ q, b.F q → ¬ S q) : b.ok h' := by
  refine ⟨⟨k.oids.1.ext' a fun q h1 h2 => hS q (.inl ⟨?_, h2⟩), k.oids.2⟩, ⟨k.cols.1.ext' a fun q h1 h2 => hS q (.inr (.inl ⟨?_, h2⟩)), k.cols.2⟩, k.row.ext a fun q hq => hS q (.inr (.inr (.inl hq))), ⟨k.fields.1.ext' a fun q h1 h2 => hS q (.inr (.inr (.inr ⟨?_, h2⟩))), k.fields.2⟩⟩
  · exact h1
  · exact h1
  · exact h1
theorem Bk.ok.lt {h : Heap} {b : Bk} {q : Nat} (k : b.ok h) (hq : b.F q) : q < h.size := by
  rcases hq with ⟨h1, h2⟩ | ⟨h1, h2⟩ | hq | ⟨h1, h2⟩
  · exact k.oids.1.lt h1 h2
  · exact k.cols.1.lt h1 h2
  · exact k.row.lt hq
  · exact k.fields.1.lt h1 h2
theorem Bk.ok.one {h : Heap} {b : Bk} (k : b.ok h) : ∀ v ∈ b.cells, v.oneCell' = true := by
  obtain ⟨_, _, e1, _⟩ := k.oids.1
  obtain ⟨_, _, e2, _⟩ := k.cols.1
  obtain ⟨_, ⟨_, _, _, e3, _⟩, _⟩ := k.row
  obtain ⟨_, _, e4, _⟩ := k.fields.1
  simp [Bk.cells, Value.oneCell', e1, e2, e3, e4]
/-- Replies in a row of one's own, all made behind h0. -/
structure Outs (h0 h : Heap) (v : Value) (B : List Bk) : Prop where
  own : Own h v 42 11 B.length (B.flatMap Bk.cells)
  ok : ∀ b ∈ B, b.ok h
  vf : ∀ q, v.ownBlock = some q → h0.size ≤ q
  bf : ∀ b ∈ B, ∀ q, b.F q → h0.size ≤ q
  dj : ∀ b ∈ B, ∀ q, b.F q → v.ownBlock ≠ some q
theorem Outs.nil (h0 h : Heap) : Outs h0 h (.slice none 0 0) [] := ⟨Own.nil _ _ _, (fun _ h => nomatch h), by simp [Value.ownBlock], (fun _ h => nomatch h), (fun _ h => nomatch h)⟩
theorem Outs.ext {h0 h h' : Heap} {S : Nat → Prop} {v : Value} {B : List Bk} (k : Outs h0 h v B) (x : Ext S h h') (hS : ∀ q, S q → q < h0.size) : Outs h0 h' v B :=
  ⟨k.own.ext x fun q hq e => by have := k.vf q hq; have := hS q e; omega, fun b hb => (k.ok b hb).ext x fun q hq e => by have := k.bf b hb q hq; have := hS q e; omega, k.vf, k.bf, k.dj⟩
theorem Outs.ext0 {h0 h h' : Heap} {v : Value} {B : List Bk} (k : Outs h0 h v B) (x : Ext No h h') : Outs h0 h' v B := k.ext x fun _ e => e.elim
theorem Outs.mono {h0 h1 h : Heap} {v : Value} {B : List Bk} (k : Outs h1 h v B) (e : h0.size ≤ h1.size) : Outs h0 h v B :=
  ⟨k.own, k.ok, fun q hq => Nat.le_trans e (k.vf q hq), fun b hb q hq => Nat.le_trans e (k.bf b hb q hq), k.dj⟩
/-- One more reply. -/
theorem Outs.snoc {h0 h h' : Heap} {v v' : Value} {B : List Bk} {b : Bk} (k : Outs h0 h v B) (ok : b.ok h) (fb : ∀ z, b.F z → h0.size ≤ z) (hd : ∀ z, b.F z → v.ownBlock ≠ some z) (hs : h0.size ≤ h.size)
    (ho : Own h' v' 42 11 (B.length + 1) (B.flatMap Bk.cells ++ b.cells)) (hx : Ext (fun z => v.ownBlock = some z) h h') (hl : v'.ownBlock = v.ownBlock ∨ v'.ownBlock = some h.size) : Outs h0 h' v' (B ++ [b]) := by
  have okB : ∀ c ∈ B ++ [b], c.ok h ∧ (∀ z, c.F z → h0.size ≤ z) ∧ ∀ z, c.F z → v.ownBlock ≠ some z := fun c hc => by
    rcases List.mem_append.1 hc with hc | hc
    · exact ⟨k.ok c hc, k.bf c hc, k.dj c hc⟩
    · obtain rfl := List.mem_singleton.1 hc
      exact ⟨ok, fb, hd⟩
  refine ⟨by simpa using ho, fun c hc => (okB c hc).1.ext hx fun z hz e => (okB c hc).2.2 z hz e, fun q hq => ?_, fun c hc => (okB c hc).2.1, fun c hc z hz e => ?_⟩
  · rcases hl with e | e
    · exact k.vf q (e ▸ hq)
    · rw [e] at hq
      simp only [Option.some.injEq] at hq
      omega
  · rcases hl with e2 | e2
    · exact (okB c hc).2.2 z hz (e2 ▸ e)
    · rw [e2] at e
      simp only [Option.some.injEq] at e
      have := (okB c hc).1.lt hz
      omega
/-- A reply with a tag at most. -/
def bk0 (k st : Int) (tag : List UInt8) : Bk := ⟨k, st, tag, [], [], 0, 0, nS, [], nS, [], nS, [], nS, []⟩
theorem bk0_ok (h : Heap) (k st : Int) (tag : List UInt8) : (bk0 k st tag).ok h := ⟨⟨Rd.nil _ _, by simp [bk0]⟩, ⟨Rd.nil _ _, by simp [bk0]⟩, cels_zero h _, ⟨Rd.nil _ _, by simp [bk0]⟩⟩
theorem bk0_F {k st : Int} {tag : List UInt8} {q : Nat} : ¬ (bk0 k st tag).F q := fun e => by
  rcases e with ⟨e, _⟩ | ⟨e, _⟩ | e | ⟨e, _⟩
  · exact absurd e (Nat.lt_irrefl 0)
  · exact absurd e (Nat.lt_irrefl 0)
  · exact (celsF_nil rfl e).elim
  · exact absurd e (Nat.lt_irrefl 0)
theorem Outs.one {h0 h : Heap} {q : Nat} {b : Bk} (hq : h[q]? = some (.cells ⟨b.cells⟩ 42 (0, 0))) (ok : b.ok h) (hg : h0.size ≤ q) (hF : ∀ z, b.F z → h0.size ≤ z ∧ z ≠ q) : Outs h0 h (.slice (some ⟨q, 0, none⟩) 1 1) [b] :=
  ⟨by simpa using own_blk hq (len := 1) rfl (by simp [maxLen]), by simpa using ok, fun z hz => by simp [Value.ownBlock] at hz; omega, by simpa using fun z hz => (hF z hz).1, by simpa [Value.ownBlock] using fun z hz e => (hF z hz).2 e.symm⟩
theorem Outs.tag {h0 h : Heap} {q : Nat} {k st : Int} {tag : List UInt8} (hq : h[q]? = some (.cells ⟨bkC k st tag⟩ 42 (0, 0))) (hg : h0.size ≤ q) : Outs h0 h (.slice (some ⟨q, 0, none⟩) 1 1) [bk0 k st tag] :=
  .one hq (bk0_ok _ _ _ _) hg fun _ e => (bk0_F e).elim
/-- More replies. -/
theorem Outs.append {h0 h h' : Heap} {v w v' : Value} {B C : List Bk} (k : Outs h0 h v B) (j : Outs h0 h w C) (hd : ∀ c ∈ C, ∀ z, c.F z → v.ownBlock ≠ some z) (hs : h0.size ≤ h.size)
    (ho : Own h' v' 42 11 (B.length + C.length) (B.flatMap Bk.cells ++ C.flatMap Bk.cells)) (hx : Ext (fun z => v.ownBlock = some z) h h') (hl : v'.ownBlock = v.ownBlock ∨ v'.ownBlock = some h.size) : Outs h0 h' v' (B ++ C) := by
  have okB : ∀ c ∈ B ++ C, c.ok h ∧ (∀ z, c.F z → h0.size ≤ z) ∧ ∀ z, c.F z → v.ownBlock ≠ some z := fun c hc => by
    rcases List.mem_append.1 hc with hc | hc
    · exact ⟨k.ok c hc, k.bf c hc, k.dj c hc⟩
    · exact ⟨j.ok c hc, j.bf c hc, hd c hc⟩
  refine ⟨by simpa using ho, fun c hc => (okB c hc).1.ext hx fun z hz e => (okB c hc).2.2 z hz e, fun q hq => ?_, fun c hc => (okB c hc).2.1, fun c hc z hz e => ?_⟩
  · rcases hl with e | e
    · exact k.vf q (e ▸ hq)
    · rw [e] at hq
      simp only [Option.some.injEq] at hq
      omega
  · rcases hl with e2 | e2
    · exact (okB c hc).2.2 z hz (e2 ▸ e)
    · rw [e2] at e
      simp only [Option.some.injEq] at e
      have := (okB c hc).1.lt hz
      omega
/-- Replies stay, whatever else is turned. -/
theorem Outs.ext' {h0 h h' : Heap} {S : Nat → Prop} {v : Value} {B : List Bk} (k : Outs h0 h v B) (x : Ext S h h') (h1 : ∀ q, v.ownBlock = some q → ¬ S q) (h2 : ∀ b ∈ B, ∀ q, b.F q → ¬ S q) : Outs h0 h' v B :=
  ⟨k.own.ext x h1, fun b hb => (k.ok b hb).ext x (h2 b hb), k.vf, k.bf, k.dj⟩
theorem Bk.noF {b : Bk} (h1 : b.oids = []) (h2 : b.cols = []) (h3 : b.row = []) (h4 : b.fields = []) (q : Nat) : ¬ b.F q := fun e => by
  rcases e with ⟨e, _⟩ | ⟨e, _⟩ | e | ⟨e, _⟩
  · rw [h1] at e; exact absurd e (Nat.lt_irrefl 0)
  · rw [h2] at e; exact absurd e (Nat.lt_irrefl 0)
  · exact (celsF_nil h3 e).elim
  · rw [h4] at e; exact absurd e (Nat.lt_irrefl 0)
/-- A message's lists. -/
def Fm.F (f : Fm) (q : Nat) : Prop := (0 < f.oids.length ∧ f.vo.ownBlock = some q) ∨ CelsF f.vp f.params q
structure FmLim (f : Fm) : Prop where
  n : f.name.length ≤ 100000
  p : f.portal.length ≤ 100000
  t : f.text.length ≤ 100000
  o : f.oids.length ≤ 20000
  m : f.params.length ≤ 100000
  x : -9223372036854775808 ≤ f.max ∧ f.max ≤ 9223372036854775807
end Go.Proofs.YtbokngiajfdanaaGreatDoor


/-
  SESSIONS (layer 30), by the code: a statement, and a portal, that may be used.
-/
namespace Go.Proofs.YtbokngiajfdanaaGreatDoor
open Go Go.RK

/-- What a session has, told plainly. -/
def spO (st : Int) (sk ov : Bool) (cnt : Int) (L : List (List UInt8 × StD)) (P : List (List UInt8 × ItD)) : SP := ⟨st, sk, ov, cnt, plL L, plP P⟩
/-- A session behind a call: what was turned is its own. -/
def Sv (g : Heap) (A : Ad) (P0 : List (List UInt8 × ItD)) (h : Heap) (s : SP) : Prop := ∃ L P, Ss h A s.st s.sk s.ov s.cnt L P ∧ plL L = s.L ∧ plP P = s.P ∧ Tn A P0 g h P
/-- What may be said of lengths. -/
structure LimP (s : SP) : Prop where
  l : ∀ q ∈ s.L, q.2.1.length ≤ 100000
  p : ∀ q ∈ s.P, q.2.1.length ≤ 100000 ∧ q.2.2.1.length ≤ 20000 ∧ q.2.2.2.1.length ≤ 100000 ∧ q.2.2.2.2.1.length ≤ 100000 ∧ ∀ r ∈ q.2.2.2.2.1, r.length ≤ 100000
  c : s.cnt < 1000000
/-- What is dealt: replies or a fault, and the session behind it. -/
def Dealt (h : Heap) (A : Ad) (P : List (List UInt8 × ItD)) (r : SayP) (u : Value) (h' : Heap) : Prop := ∃ v B, (r.2.2 ≠ none → v = nS) ∧ u = .tuple ⟨[v, erV r.2.2]⟩ ∧ Outs h h' v B ∧ B.map Bk.p = r.2.1 ∧ Sv h A P h' r.1
/-- The same, where no statement and no portal was made. -/
def DealtS (h : Heap) (A : Ad) (L : List (List UInt8 × StD)) (P : List (List UInt8 × ItD)) (r : SayP) (u : Value) (h' : Heap) : Prop := ∃ v B, (r.2.2 ≠ none → v = nS) ∧ u = .tuple ⟨[v, erV r.2.2]⟩ ∧ Outs h h' v B ∧ B.map Bk.p = r.2.1 ∧ ∃ L' P', (∀ q ∈ L', q ∈ L) ∧ (∀ q ∈ P', q ∈ P) ∧ Ss h' A r.1.st r.1.sk r.1.ov r.1.cnt L' P' ∧ plL L' = r.1.L ∧ plP P' = r.1.P ∧ Tn A P h h' P'
theorem DealtS.toD {h h' : Heap} {A : Ad} {L : List (List UInt8 × StD)} {P : List (List UInt8 × ItD)} {r : SayP} {u : Value} (d : DealtS h A L P r u h') : Dealt h A P r u h' := by
  obtain ⟨v, B, c, e, O, p, L', P', _, _, k⟩ := d
  exact ⟨v, B, c, e, O, p, L', P', k⟩
section
variable {h h' : Heap} {A : Ad} {st : Int} {sk ov : Bool} {cnt : Int} {L : List (List UInt8 × StD)} {P : List (List UInt8 × ItD)}
theorem LimP.tl (lm : LimP (spO st sk ov cnt L P)) : ∀ q ∈ L, q.2.text.length ≤ 100000 := fun q hq => lm.l _ (List.mem_map.2 ⟨q, hq, rfl⟩)
theorem LimP.tp (lm : LimP (spO st sk ov cnt L P)) : ∀ q ∈ P, q.2.d.text.length ≤ 100000 ∧ q.2.d.oids.length ≤ 20000 ∧ (q.2.d.ps.map Cel.pl).length ≤ 100000 ∧ (q.2.d.rs.map Rw.pl).length ≤ 100000 ∧ ∀ r ∈ q.2.d.rs.map Rw.pl, r.length ≤ 100000 := fun q hq => lm.p _ (List.mem_map.2 ⟨q, hq, rfl⟩)
set_option maxHeartbeats 2000000 in
set_option maxRecDepth 100000 in
theorem stmt_v (k : Ss h A st sk ov cnt L P) (lm : LimP (spO st sk ov cnt L P)) (n : List UInt8) (hn : n.length ≤ 100000) : CallsH Tryz.prog 83 ⟨[.pointer (some ⟨A.bs, 0, none⟩), St n]⟩ h fun u h' =>
    (∃ q : StD, u = .tuple ⟨[stE q, erV (stmtP (spO st sk ov cnt L P) n)]⟩ ∧ (∃ B c, q.vo = .slice B q.oids.length c) ∧ (stmtP (spO st sk ov cnt L P) n = none → getK L n = some q)) ∧ Ext No h h' := by
  have hlk := alook_encK stE L n
  have hsp : stmtP (spO st sk ov cnt L P) n = match (getK L n).map fun q => (q.text, q.oids) with
    | none => some (([50, 54, 48, 48, 48] : List UInt8), missL n)
    | some t => abortP t.1 st := by rw [← getL_pl]; rfl
  rcases hg : getK L n with _ | ⟨text, vo, oids⟩
  · rw [hg] at hlk hsp
    dsimp only [Option.map_none] at hlk hsp
    rw [hsp]
    refine calls [(0, _), (1, _)] Tryz.func83 rfl Tryz.ntmps83 rfl ⟨rfl, rfl, trivial⟩ ?_
    all_goals (refine WC.sr ?_)
    all_goals (refine WL.stepR (okE_alloc (fun w => Tryz.zeroValue135 w)) rfl rfl rfl ?_
               rintro _ h1 ⟨b4, rfl, hg1, hb4, hx1⟩)
    all_goals (refine Go ?_)
    all_goals (refine WC.sr ?_)
    all_goals (have k1 := k.ext0 hx1
               have hb := k1.se.blk
               have hms := k1.se.stm
               have l4 := lt_of_some hb4)
    all_goals (refine WL.step (ok_move rfl) rfl rfl rfl ?_)
    all_goals (refine WL.step (ok_nilCheck rfl) rfl rfl rfl ?_)
    all_goals (refine Go ?_)
    all_goals (refine WL.ld rfl (by first | exact cell_blk hb rfl | assumption | exact cell_blk (by assumption) rfl) rfl rfl rfl ?_)
    all_goals (refine Go ?_)
    all_goals (first | (refine WL.step ((ok_lookup keyS Tryz.underlying50 Tryz.underlying9 rfl rfl hms hlk).1) rfl rfl rfl ?_) | (refine WL.step ((ok_lookup_no keyS Tryz.underlying50 Tryz.underlying9 (fun w => Tryz.zeroValue135 w) rfl rfl hms hlk).1) rfl rfl rfl ?_) | (refine WL.step ((ok_lookup_nil keyS Tryz.underlying50 Tryz.underlying9 (fun w => Tryz.zeroValue135 w) rfl rfl).1) rfl rfl rfl ?_))
    all_goals (refine Go ?_)
    all_goals (refine WL.stepR (okE_alloc (fun w => Tryz.zeroValue135 w)) rfl rfl rfl ?_
               rintro _ h2 ⟨b6, rfl, hg2, hb6, hx2⟩)
    all_goals (refine WL.stepR0 (okE_storeW (fun w => Tryz.sizeOf135 w) rfl rfl rfl hb6 rfl (by simp [Value.oneCell'])) rfl rfl ?_
               rintro _ h3 ⟨hb63, hx3⟩)
    all_goals (have X3 : Ext No h1 h3 := hx2.trans' hx3 (fun q hq e => by omega)
               have hb43 := X3.obj hb4 nos)
    all_goals (refine Go ?_)
    all_goals (refine Gs [(0, _), (1, _), (4, _), (6, _), (7, _)] ?_)
    all_goals (refine WC.seq ?_)
    all_goals (refine WC.sr ?_)
    all_goals (refine Go ?_)
    all_goals (refine goC 1 2 ?_ ?_ <;> first | exact ⟨⟩ | refine Hb.mk fun hb => ?_ | skip)
    all_goals (first | (fail_if_success refine goB 1 ?_) | (
    refine goB 1 ?_
    all_goals (refine WC.sr ?_)
    all_goals (refine WL.step (ok_buildF (vs := []) (cs := [_, _]) (fun | [] => [(St []), (.slice none 0 0)] | _ => []) rfl rfl (by kernel_rfl)) rfl rfl rfl ?_)
    all_goals (refine Go ?_)
    all_goals (refine WL.call (vs := [_]) rfl (fun a w => Tryz.call130 a w) rfl (missing_any n hn) rfl rfl rfl ?_
               rintro _ h4 ⟨rfl, hx4⟩)
    all_goals (refine WL.call (vs := [_, _]) rfl (fun a w => Tryz.call79 a w) rfl (stop_v _ _) rfl rfl rfl ?_
               rintro _ hq ⟨rfl, hz⟩
               replace hz := hz.symm
               subst hz)
    all_goals (refine WL.stepR0 (okE_storeW (fun w => Tryz.sizeOf135 w) rfl rfl rfl (hx4.obj hb43 nos) rfl (by simp [Value.oneCell'])) rfl rfl ?_
               rintro _ h5 ⟨hb5, hx5⟩)
    all_goals (refine Go ?_)
    all_goals (refine Gs [(4, _), (5, _)] ?_)
    all_goals (refine WC.ret ?_)
    all_goals (repeat' (with_reducible first | refine thenP_r ?_ | refine blockP_r ?_))
    all_goals (refine retP_2 _ _ ⟨⟨_, rfl, ld_blk (fun w => Tryz.isAgg135 w) (fun w => Tryz.sizeOf135 w) hb5 rfl⟩, rfl, trivial⟩ ?_)
    all_goals (exact ⟨⟨⟨[], .slice none 0 0, []⟩, rfl, ⟨_, _, rfl⟩, fun e => by cases e⟩, ((hx1.trans X3).trans hx4).trans' hx5 (fun q hq e => by omega)⟩)
    skip))
    all_goals (first | (fail_if_success refine goB 2 ?_) | (
    refine goB 2 ?_
    all_goals (refine WC.skip ?_)
    skip))
    all_goals (refine Gn ?_)
    all_goals (refine Gs [(0, _), (4, _), (6, _)] ?_)
    all_goals (refine WC.seq ?_)
    all_goals (refine WC.drawE fol (by kernel_rfl) ?_)
    all_goals (refine WQ.stepE (ok_loadN (fun w => Tryz.isAgg135 w) (fun w => Tryz.sizeOf135 w) rfl rfl (by assumption)) rfl rfl rfl ?_)
    all_goals (refine WQ.stepE (ok_move rfl) rfl rfl rfl ?_)
    all_goals (refine WQ.stepE (ok_loadN (fun w => Tryz.isAgg135 w) (fun w => Tryz.sizeOf135 w) rfl rfl (by assumption)) rfl rfl rfl ?_)
    all_goals (fail "no contract for call of (*remuda/sess.Session).aborted at 4.3")
    all_goals (refine WL.stepR0 (okE_storeW (fun w => Tryz.sizeOf135 w) rfl rfl rfl (by assumption) rfl (by simp [Value.oneCell'])) rfl rfl ?_
               rintro _ h1 ⟨hb1, hx1⟩)
    all_goals (refine WQ.stepE (ok_assign rfl) rfl rfl rfl ?_)
    all_goals (refine WQ.nil ?_)
    all_goals (refine Gn ?_)
    all_goals (refine Gs [(4, _), (5, _)] ?_)
    all_goals (refine WC.ret ?_)
    all_goals (repeat' (with_reducible first | refine thenP_r ?_ | refine blockP_r ?_))
    all_goals (refine retP_2 _ _ ⟨⟨_, rfl, ld_blk (fun w => Tryz.isAgg135 w) (fun w => Tryz.sizeOf135 w) hb5 rfl⟩, rfl, trivial⟩ ?_)
    all_goals (exact ⟨⟨⟨[], .slice none 0 0, []⟩, rfl, ⟨_, _, rfl⟩, fun e => by cases e⟩, ((hx1.trans X3).trans hx4).trans' hx5 (fun q hq e => by omega)⟩)
  · have hm := getK_mem hg
    have htl := lm.tl _ hm
    obtain ⟨B, c, hvo, _⟩ := (k.sok _ hm).1
    dsimp only at htl hvo
    subst hvo
    rw [hg] at hlk hsp
    dsimp only [Option.map_some, stE] at hlk hsp
    rw [hsp]
    unfold stE
    refine calls [(0, _), (1, _)] Tryz.func83 rfl Tryz.ntmps83 rfl ⟨rfl, rfl, trivial⟩ ?_
    all_goals (refine WC.sr ?_)
    all_goals (refine WL.stepR (okE_alloc (fun w => Tryz.zeroValue135 w)) rfl rfl rfl ?_
               rintro _ h1 ⟨b4, rfl, hg1, hb4, hx1⟩)
    all_goals (refine Go ?_)
    all_goals (refine WC.sr ?_)
    all_goals (have k1 := k.ext0 hx1
               have hb := k1.se.blk
               have hms := k1.se.stm
               have l4 := lt_of_some hb4)
    all_goals (refine WL.step (ok_move rfl) rfl rfl rfl ?_)
    all_goals (refine WL.step (ok_nilCheck rfl) rfl rfl rfl ?_)
    all_goals (refine Go ?_)
    all_goals (refine WL.ld rfl (by first | exact cell_blk hb rfl | assumption | exact cell_blk (by assumption) rfl) rfl rfl rfl ?_)
    all_goals (refine Go ?_)
    all_goals (first | (refine WL.step ((ok_lookup keyS Tryz.underlying50 Tryz.underlying9 rfl rfl hms hlk).1) rfl rfl rfl ?_) | (refine WL.step ((ok_lookup_no keyS Tryz.underlying50 Tryz.underlying9 (fun w => Tryz.zeroValue135 w) rfl rfl hms hlk).1) rfl rfl rfl ?_) | (refine WL.step ((ok_lookup_nil keyS Tryz.underlying50 Tryz.underlying9 (fun w => Tryz.zeroValue135 w) rfl rfl).1) rfl rfl rfl ?_))
    all_goals (refine Go ?_)
    all_goals (refine WL.stepR (okE_alloc (fun w => Tryz.zeroValue135 w)) rfl rfl rfl ?_
               rintro _ h2 ⟨b6, rfl, hg2, hb6, hx2⟩)
    all_goals (refine WL.stepR0 (okE_storeW (fun w => Tryz.sizeOf135 w) rfl rfl rfl hb6 rfl (by simp [Value.oneCell'])) rfl rfl ?_
               rintro _ h3 ⟨hb63, hx3⟩)
    all_goals (have X3 : Ext No h1 h3 := hx2.trans' hx3 (fun q hq e => by omega)
               have k3 := k1.ext0 X3
               have hb43 := X3.obj hb4 nos
               have n64 : ¬ b6 = b4 := by omega)
    all_goals (refine Go ?_)
    all_goals (refine Gs [(0, _), (1, _), (4, _), (6, _), (7, _)] ?_)
    all_goals (refine WC.seq ?_)
    all_goals (refine WC.sr ?_)
    all_goals (refine Go ?_)
    all_goals (refine goC 1 2 ?_ ?_ <;> first | exact ⟨⟩ | refine Hb.mk fun hb => ?_ | skip)
    all_goals (first | (fail_if_success refine goB 2 ?_) | (
    refine goB 2 ?_
    all_goals (refine WC.skip ?_)
    skip))
    all_goals (refine Gn ?_)
    all_goals (refine Gs [(0, _), (4, _), (6, _)] ?_)
    all_goals (refine WC.seq ?_)
    all_goals (refine WC.drawH (fun h' => Ext (fun q => q = b4) h3 h') 6 6 rfl fol ?_)
    all_goals (refine WH.tk 0 rfl (fun hq hC => ok_loadN (fun w => Tryz.isAgg135 w) (fun w => Tryz.sizeOf135 w) rfl rfl (by exact (At.of_block hb63).ext hC n64)) rfl rfl rfl ?_)
    all_goals (refine WH.tk 1 rfl (fun hq hC => ok_move rfl) rfl rfl rfl ?_)
    all_goals (refine WH.tk 2 rfl (fun hq hC => ok_loadN (fun w => Tryz.isAgg135 w) (fun w => Tryz.sizeOf135 w) rfl rfl (by exact (At.of_block hb63).ext hC n64)) rfl rfl rfl ?_)
    all_goals (refine WH.one 3 (by kernel_rfl) ?_)
    all_goals (refine Comes1.call (vs := [_, _]) rfl rfl (fun a w => Tryz.call131 a w) rfl (aborted_v k3 text (by omega) ⟨_, _, _, rfl⟩) rfl rfl rfl ?_ (fun _ => by kernel_rfl)
               rintro _ h4 ⟨rfl, hx4⟩)
    all_goals (refine ⟨fun _ => hx4.mono fun _ _ e => e.elim, ?_⟩)
    all_goals (have hC4 : Ext (fun q => q = b4) h3 h4 := hx4.mono fun _ _ e => e.elim)
    all_goals (refine WH.one 4 (by kernel_rfl) ?_)
    all_goals (refine Comes1.run0 rfl (okE_storeW (fun w => Tryz.sizeOf135 w) rfl rfl rfl (hx4.obj hb43 nos) rfl (by simp [Value.oneCell'])) rfl rfl ?_ (fun _ => by kernel_rfl)
               rintro _ h5 ⟨hb5, hx5⟩)
    all_goals (refine ⟨fun _ => hC4.trans hx5, ?_⟩)
    all_goals (have hC5 := hC4.trans hx5)
    all_goals (refine WH.tk 5 rfl (fun hq hC => ok_assign rfl) rfl rfl rfl ?_)
    all_goals (refine WH.done (by kernel_rfl) ?_)
    all_goals (refine Gn ?_)
    all_goals (refine Gs [(4, _), (5, _)] ?_)
    all_goals (refine WC.ret ?_)
    all_goals (repeat' (with_reducible first | refine thenP_r ?_ | refine blockP_r ?_))
    all_goals (refine retP_2 _ _ ⟨⟨_, rfl, ld_blk (fun w => Tryz.isAgg135 w) (fun w => Tryz.sizeOf135 w) hb5 rfl⟩, rfl, trivial⟩ ?_)
    all_goals (exact ⟨⟨⟨text, _, oids⟩, rfl, ⟨_, _, rfl⟩, fun _ => rfl⟩, (hx1.trans X3).trans' hC5 (fun q hq e => by omega)⟩)
theorem Ss.pe (k : Ss h A st sk ov cnt L P) {n : List UInt8} {i : ItD} (hi : getK P n = some i) : Pe h A.bp A.mp (encK pcE P) i.p n i.d :=
  have hm := getK_mem hi
  ⟨k.se.pb, k.se.pm, by rw [alook_encK, hi]; rfl, (k.pok _ hm).1, (k.pok _ hm).2.1, fun q hq e => (k.pok _ hm).2.2 q hq (e ▸ .inr (.inr (.inr (.inr ⟨_, hm, rfl⟩))))⟩
set_option maxHeartbeats 2000000 in
set_option maxRecDepth 100000 in
theorem portal_v (k : Ss h A st sk ov cnt L P) (lm : LimP (spO st sk ov cnt L P)) (n : List UInt8) (hn : n.length ≤ 100000) : CallsH Tryz.prog 88 ⟨[.pointer (some ⟨A.bs, 0, none⟩), St n]⟩ h fun u h' =>
    (∃ d : PD, u = .tuple ⟨[.agg ⟨d.cells⟩, erV (portP (spO st sk ov cnt L P) n)]⟩ ∧ d.ok h' ∧ (∀ q, d.F q → h.size ≤ q) ∧ (portP (spO st sk ov cnt L P) n = none → ∃ i, getK P n = some i ∧ d.pl = i.d.pl)) ∧ Ext No h h' := by
  have hlk := alook_encK pcE P n
  have hsp : portP (spO st sk ov cnt L P) n = match (getK P n).map fun q => q.d.pl with
    | none => some (([51, 52, 48, 48, 48] : List UInt8), saysL ([112, 111, 114, 116, 97, 108] : List UInt8) n ([100, 111, 101, 115, 32, 110, 111, 116, 32, 101, 120, 105, 115, 116] : List UInt8))
    | some t => abortP t.1 st := by rw [← getP_pl]; rfl
  rcases hg : getK P n with _ | i
  · rw [hg] at hlk hsp
    dsimp only [Option.map_none] at hlk hsp
    rw [hsp]
    have kg := fun (g : Heap) (k : Ss g A st sk ov cnt L P) => get_no n k.se.pb k.se.pm hlk
    unfold PD0 PD.cells at kg
    refine calls [(0, _), (1, _)] Tryz.func88 rfl Tryz.ntmps88 rfl ⟨rfl, rfl, trivial⟩ ?_
    all_goals (refine WC.sr ?_)
    all_goals (refine WL.stepR (okE_alloc (fun w => Tryz.zeroValue147 w)) rfl rfl rfl ?_
               rintro _ h1 ⟨b4, rfl, hg1, hb4, hx1⟩)
    all_goals (refine Go ?_)
    all_goals (refine WC.sr ?_)
    all_goals (have k1 := k.ext0 hx1
               have hb := k1.se.blk
               have l4 := lt_of_some hb4)
    all_goals (refine WL.step (ok_move rfl) rfl rfl rfl ?_)
    all_goals (refine WL.step (ok_nilCheck rfl) rfl rfl rfl ?_)
    all_goals (refine Go ?_)
    all_goals (refine WL.ld rfl (by first | exact cell_blk hb rfl | assumption | exact cell_blk (by assumption) rfl) rfl rfl rfl ?_)
    all_goals (refine Go ?_)
    all_goals (refine WL.call (vs := [_, _]) rfl (fun a w => Tryz.call135 a w) rfl (kg _ k1) rfl rfl rfl ?_
               rintro _ h2 ⟨rfl, hx2⟩)
    all_goals (refine Go ?_)
    all_goals (refine WL.stepR (okE_alloc (fun w => Tryz.zeroValue147 w)) rfl rfl rfl ?_
               rintro _ h3 ⟨b6, rfl, hg3, hb6, hx3⟩)
    all_goals (refine WL.stepR0 (okE_storeW (fun w => Tryz.sizeOf147 w) rfl rfl rfl hb6 rfl (by simp [Value.oneCell'])) rfl rfl ?_
               rintro _ h4 ⟨hb64, hx4⟩)
    all_goals (have X14 : Ext No h1 h4 := hx2.trans (hx3.trans' hx4 (fun q hq e => by omega))
               have hb44 := X14.obj hb4 nos)
    all_goals (refine Go ?_)
    all_goals (refine Gs [(0, _), (1, _), (4, _), (6, _), (7, _)] ?_)
    all_goals (refine WC.seq ?_)
    all_goals (refine WC.sr ?_)
    all_goals (refine Go ?_)
    all_goals (refine goC 1 2 ?_ ?_ <;> first | exact ⟨⟩ | refine Hb.mk fun hb => ?_ | skip)
    all_goals (first | (fail_if_success refine goB 1 ?_) | (
    refine goB 1 ?_
    all_goals (refine WC.sr ?_)
    all_goals (refine WL.step (ok_buildF (vs := []) (cs := [_, _, _, _, _, _]) (fun | [] => [(St []), (.slice none 0 0), (.slice none 0 0), (.slice none 0 0), (.bool false), (.bool false)] | _ => []) rfl rfl (by kernel_rfl)) rfl rfl rfl ?_)
    all_goals (refine Go ?_)
    all_goals (refine WL.call (vs := [_]) rfl (fun a w => Tryz.call136 a w) rfl (portal_any n hn) rfl rfl rfl ?_
               rintro _ h5 ⟨rfl, hx5⟩)
    all_goals (refine WL.call (vs := [_, _]) rfl (fun a w => Tryz.call79 a w) rfl (stop_v _ _) rfl rfl rfl ?_
               rintro _ hq ⟨rfl, hz⟩
               replace hz := hz.symm
               subst hz)
    all_goals (refine WL.stepR0 (okE_storeW (fun w => Tryz.sizeOf147 w) rfl rfl rfl (hx5.obj hb44 nos) rfl (by simp [Value.oneCell'])) rfl rfl ?_
               rintro _ h6 ⟨hb6', hx6⟩)
    all_goals (refine Go ?_)
    all_goals (refine Gs [(4, _), (5, _)] ?_)
    all_goals (refine WC.ret ?_)
    all_goals (repeat' (with_reducible first | refine thenP_r ?_ | refine blockP_r ?_))
    all_goals (refine retP_2 _ _ ⟨⟨_, rfl, ld_blk (fun w => Tryz.isAgg147 w) (fun w => Tryz.sizeOf147 w) hb6' rfl⟩, rfl, trivial⟩ ?_)
    all_goals (exact ⟨⟨PD0, rfl, pd0_ok _, fun q hq => by
                rcases hq with ⟨h0, _⟩ | hq | hq
                · exact absurd h0 (by decide)
                · exact (celsF_nil rfl hq).elim
                · exact (rwsF_nil rfl hq).elim, fun e => by cases e⟩, ((hx1.trans X14).trans hx5).trans' hx6 (fun q hq e => by omega)⟩)
    skip))
    all_goals (first | (fail_if_success refine goB 2 ?_) | (
    refine goB 2 ?_
    all_goals (refine WC.skip ?_)
    skip))
    all_goals (refine Gn ?_)
    all_goals (refine Gs [(0, _), (4, _), (6, _)] ?_)
    all_goals (refine WC.seq ?_)
    all_goals (refine WC.drawE fol (by kernel_rfl) ?_)
    all_goals (refine WQ.stepE (ok_loadN (fun w => Tryz.isAgg147 w) (fun w => Tryz.sizeOf147 w) rfl rfl (by assumption)) rfl rfl rfl ?_)
    all_goals (refine WQ.stepE (ok_move rfl) rfl rfl rfl ?_)
    all_goals (refine WQ.stepE (ok_fieldAddr rfl Tryz.underlying147 rfl (fun w => Tryz.sizeOf135 w)) rfl rfl rfl ?_)
    all_goals (refine WQ.stepE (ok_loadN (fun w => Tryz.isAgg135 w) (fun w => Tryz.sizeOf135 w) rfl rfl (by assumption)) rfl rfl rfl ?_)
    all_goals (fail "no contract for call of (*remuda/sess.Session).aborted at 4.4")
    all_goals (refine WL.stepR0 (okE_storeW (fun w => Tryz.sizeOf147 w) rfl rfl rfl (by assumption) rfl (by simp [Value.oneCell'])) rfl rfl ?_
               rintro _ h1 ⟨hb1, hx1⟩)
    all_goals (refine WQ.stepE (ok_assign rfl) rfl rfl rfl ?_)
    all_goals (refine WQ.nil ?_)
    all_goals (refine Gn ?_)
    all_goals (refine Gs [(4, _), (5, _)] ?_)
    all_goals (refine WC.ret ?_)
    all_goals (repeat' (with_reducible first | refine thenP_r ?_ | refine blockP_r ?_))
    all_goals (refine retP_2 _ _ ⟨⟨_, rfl, ld_blk (fun w => Tryz.isAgg147 w) (fun w => Tryz.sizeOf147 w) hb6' rfl⟩, rfl, trivial⟩ ?_)
    all_goals (exact ⟨⟨PD0, rfl, pd0_ok _, fun q hq => by
                rcases hq with ⟨h0, _⟩ | hq | hq
                · exact absurd h0 (by decide)
                · exact (celsF_nil rfl hq).elim
                · exact (rwsF_nil rfl hq).elim, fun e => by cases e⟩, ((hx1.trans X14).trans hx5).trans' hx6 (fun q hq e => by omega)⟩)
  · have hpe := k.pe hg
    have htl := (lm.tp _ (getK_mem hg)).1
    dsimp only at htl
    rw [hg] at hsp
    dsimp only [Option.map_some] at hsp
    rw [hsp]
    have kg := fun (g : Heap) (k : Ss g A st sk ov cnt L P) => get_f (k.pe hg)
    refine calls [(0, _), (1, _)] Tryz.func88 rfl Tryz.ntmps88 rfl ⟨rfl, rfl, trivial⟩ ?_
    all_goals (refine WC.sr ?_)
    all_goals (refine WL.stepR (okE_alloc (fun w => Tryz.zeroValue147 w)) rfl rfl rfl ?_
               rintro _ h1 ⟨b4, rfl, hg1, hb4, hx1⟩)
    all_goals (refine Go ?_)
    all_goals (refine WC.sr ?_)
    all_goals (have k1 := k.ext0 hx1
               have hb := k1.se.blk
               have l4 := lt_of_some hb4)
    all_goals (refine WL.step (ok_move rfl) rfl rfl rfl ?_)
    all_goals (refine WL.step (ok_nilCheck rfl) rfl rfl rfl ?_)
    all_goals (refine Go ?_)
    all_goals (refine WL.ld rfl (by first | exact cell_blk hb rfl | assumption | exact cell_blk (by assumption) rfl) rfl rfl rfl ?_)
    all_goals (refine Go ?_)
    all_goals (refine WL.call (vs := [_, _]) rfl (fun a w => Tryz.call135 a w) rfl (kg _ k1) rfl rfl rfl ?_
               rintro _ h2 ⟨⟨d2, rfl, ok2, pl2, hf2⟩, hx2⟩)
    all_goals (refine Go ?_)
    all_goals (refine WL.stepR (okE_alloc (fun w => Tryz.zeroValue147 w)) rfl rfl rfl ?_
               rintro _ h3 ⟨b6, rfl, hg3, hb6, hx3⟩)
    all_goals (refine WL.stepR0 (okE_storeW (fun w => Tryz.sizeOf147 w) rfl rfl rfl hb6 rfl (pd_one ok2)) rfl rfl ?_
               rintro _ h4 ⟨hb64, hx4⟩)
    all_goals (have X14 : Ext No h1 h4 := hx2.trans (hx3.trans' hx4 (fun q hq e => by omega))
               have k4 := k1.ext0 X14
               have ok4 := ok2.ext (hx3.trans' (S := No) hx4 (fun q hq e => by omega)) (fun _ _ => nos)
               have hb44 := X14.obj hb4 nos
               have n64 : ¬ b6 = b4 := by have := hx2.size; omega
               have hti : d2.text = i.d.text := congrArg (·.1) pl2
               obtain ⟨text, vo, oids, vp, ps, vr, rs, ran, over⟩ := d2
               dsimp only at hti
               subst hti
               dsimp only [PD.cells] at hb64
               obtain ⟨A3, c3, hvo, _⟩ := id ok4.oids
               dsimp only at hvo
               subst hvo)
    all_goals (refine Go ?_)
    all_goals (refine Gs [(0, _), (1, _), (4, _), (6, _), (7, _)] ?_)
    all_goals (refine WC.seq ?_)
    all_goals (refine WC.sr ?_)
    all_goals (refine Go ?_)
    all_goals (refine goC 1 2 ?_ ?_ <;> first | exact ⟨⟩ | refine Hb.mk fun hb => ?_ | skip)
    all_goals (first | (fail_if_success refine goB 2 ?_) | (
    refine goB 2 ?_
    all_goals (refine WC.skip ?_)
    skip))
    all_goals (refine Gn ?_)
    all_goals (refine Gs [(0, _), (4, _), (6, _)] ?_)
    all_goals (refine WC.seq ?_)
    all_goals (refine WC.drawH (fun h' => Ext (fun q => q = b4) h4 h') 7 7 rfl fol ?_)
    all_goals (refine WH.tk 0 rfl (fun hq hC => ok_loadN (fun w => Tryz.isAgg147 w) (fun w => Tryz.sizeOf147 w) rfl rfl (by exact (At.of_block hb64).ext hC n64)) rfl rfl rfl ?_)
    all_goals (refine WH.tk 1 rfl (fun hq hC => ok_move rfl) rfl rfl rfl ?_)
    all_goals (refine WH.tk 2 rfl (fun hq hC => ok_fieldAddr rfl Tryz.underlying147 rfl (fun w => Tryz.sizeOf135 w)) rfl rfl rfl ?_)
    all_goals (refine WH.tk 3 rfl (fun hq hC => ok_loadN (fun w => Tryz.isAgg135 w) (fun w => Tryz.sizeOf135 w) rfl rfl (by exact At.pre (xs := [_, _]) (ys := [_, _, _, _]) ((At.of_block hb64).ext hC n64))) rfl rfl rfl ?_)
    all_goals (refine WH.one 4 (by kernel_rfl) ?_)
    all_goals (refine Comes1.call (vs := [_, _]) rfl rfl (fun a w => Tryz.call131 a w) rfl (aborted_v k4 i.d.text (by omega) ⟨_, _, _, rfl⟩) rfl rfl rfl ?_ (fun _ => by kernel_rfl)
               rintro _ h5 ⟨rfl, hx5⟩)
    all_goals (refine ⟨fun _ => hx5.mono fun _ _ e => e.elim, ?_⟩)
    all_goals (have hC5 : Ext (fun q => q = b4) h4 h5 := hx5.mono fun _ _ e => e.elim)
    all_goals (refine WH.one 5 (by kernel_rfl) ?_)
    all_goals (refine Comes1.run0 rfl (okE_storeW (fun w => Tryz.sizeOf147 w) rfl rfl rfl (hx5.obj hb44 nos) rfl (pd_one ok4)) rfl rfl ?_ (fun _ => by kernel_rfl)
               rintro _ h6 ⟨hb6', hx6⟩)
    all_goals (refine ⟨fun _ => hC5.trans hx6, ?_⟩)
    all_goals (have hC6 := hC5.trans hx6)
    all_goals (refine WH.tk 6 rfl (fun hq hC => ok_assign rfl) rfl rfl rfl ?_)
    all_goals (refine WH.done (by kernel_rfl) ?_)
    all_goals (refine Gn ?_)
    all_goals (refine Gs [(4, _), (5, _)] ?_)
    all_goals (refine WC.ret ?_)
    all_goals (repeat' (with_reducible first | refine thenP_r ?_ | refine blockP_r ?_))
    all_goals (refine retP_2 _ _ ⟨⟨_, rfl, ld_blk (fun w => Tryz.isAgg147 w) (fun w => Tryz.sizeOf147 w) hb6' rfl⟩, rfl, trivial⟩ ?_)
    all_goals (exact ⟨⟨⟨i.d.text, _, oids, vp, ps, vr, rs, ran, over⟩, rfl, (ok4.ext hx5 (fun _ _ => nos)).ext hx6 (fun q hq e => by subst e; have := hf2 _ hq; omega), fun q hq => by have := hf2 q hq; have := hx1.size; omega, fun _ => ⟨i, rfl, pl2⟩⟩, (hx1.trans X14).trans' hC6 (fun q hq e => by omega)⟩)
end
end Go.Proofs.YtbokngiajfdanaaGreatDoor


/-
  SESSIONS (layer 30), by the code: a P.
-/
namespace Go.Proofs.YtbokngiajfdanaaGreatDoor
open Go Go.RK

section
variable {h h' : Heap} {A : Ad} {st : Int} {sk ov : Bool} {cnt : Int} {L : List (List UInt8 × StD)} {P : List (List UInt8 × ItD)}
def delE (L : List (List UInt8 × StD)) (n : List UInt8) : List (List UInt8 × StD) := if n = [] then delK L [] else L
theorem parse_eq (f : FmP) : parseP (spO st sk ov cnt L P) f = match refP f.text st with
    | some e => (spO st sk ov cnt (delE L f.name) P, [], some e)
    | none => match getK (delE L f.name) f.name with
      | some _ => (spO st sk ov cnt (delE L f.name) P, [], some (([52, 50, 80, 48, 53] : List UInt8), exisL f.name))
      | none => ({ spO st sk ov cnt (delE L f.name) P with L := putK (plL (delE L f.name)) f.name (f.text, f.oids) }, [{ kind := 49 }], none) := by
  have e1 : (if f.name = [] then { spO st sk ov cnt L P with L := delK (spO st sk ov cnt L P).L [] } else spO st sk ov cnt L P) = spO st sk ov cnt (delE L f.name) P := by
    unfold delE
    split
    · simp only [spO, delL_pl]
    · rfl
  unfold parseP
  dsimp only
  rw [e1]
  have hg := getL_pl (delE L f.name) f.name
  rcases hr : refP f.text st with _ | e
  · simp only [spO, hr, hg]
    cases getK (delE L f.name) f.name <;> simp
  · simp only [spO, hr]
/-- Nothing said, and a fault. -/
theorem Dealt.err {r : SayP} {a c : List UInt8} {s : SP} (hr : r = (s, [], some (a, c))) (k : Sv h A P h' s) : Dealt h A P r (.tuple ⟨[.slice none 0 0, erV (some (a, c))]⟩) h' := by
  subst hr
  exact ⟨_, [], fun _ => rfl, rfl, Outs.nil _ _, rfl, k⟩
theorem Sv.of {P0 : List (List UInt8 × ItD)} {g : Heap} (k : Ss h A st sk ov cnt L P) (t : Tn A P0 g h P) : Sv g A P0 h (spO st sk ov cnt L P) := ⟨L, P, k, rfl, rfl, t⟩
set_option maxHeartbeats 2000000 in
set_option maxRecDepth 100000 in
theorem parse_v (k : Ss h A st sk ov cnt L P) (f : Fm) (hf : f.ok h) (hF : ∀ q, f.F q → ¬ Mu A P q) (fl : FmLim f) : CallsH Tryz.prog 46 ⟨[.pointer (some ⟨A.bs, 0, none⟩), .agg ⟨f.cells⟩]⟩ h (Dealt h A P (parseP (spO st sk ov cnt L P) f.p)) := by
  have hpe := parse_eq (st := st) (sk := sk) (ov := ov) (cnt := cnt) (L := L) (P := P) f.p
  obtain ⟨⟨e1, _⟩, ⟨e2, _⟩, ⟨e3, _⟩, e4, _⟩ := hf
  obtain ⟨fl1, fl2, fl3, fl4, _⟩ := fl
  obtain ⟨fk, w, n, p, t, vo, o, vf, fs, vs, rs, vp, ps, mx⟩ := f
  dsimp only [Fm.p] at e1 e2 e3 e4 hpe fl1 fl2 fl3 fl4
  have er := e1
  obtain ⟨A1, c1, rfl, _⟩ := e1
  obtain ⟨_, _, rfl, _⟩ := e2
  obtain ⟨_, _, rfl, _⟩ := e3
  obtain ⟨_, _, rfl, _⟩ := e4
  dsimp only [Fm.cells, Fm.p]
  obtain ⟨L1, hL1⟩ : ∃ L1, delE L n = L1 := ⟨_, rfl⟩
  rw [hL1] at hpe
  obtain ⟨r, hr⟩ : ∃ r, refP t st = r := ⟨_, rfl⟩
  obtain ⟨g, hg⟩ : ∃ g, getK L1 n = g := ⟨_, rfl⟩
  have hlk := alook_encK stE L1 n
  rw [hg] at hlk
  rw [hr, hg] at hpe
  rcases (show (n = [] ∧ L1 = delK L [] ∧ g = none) ∨ (n ≠ [] ∧ L1 = L) by
    unfold delE at hL1
    by_cases hn : n = []
    · rw [if_pos hn] at hL1
      exact .inl ⟨hn, hL1.symm, by rw [← hg, ← hL1, hn, getK_del, if_pos rfl]⟩
    · rw [if_neg hn] at hL1
      exact .inr ⟨hn, hL1.symm⟩) with ⟨hn, hL, hg0⟩ | ⟨hn, hL⟩
  · subst hg0
    rcases r with _ | ⟨ra, rb⟩
    all_goals
      dsimp only [Option.map_none] at hlk hpe
      refine calls [(0, _), (1, _)] Tryz.func46 rfl Tryz.ntmps46 rfl ⟨rfl, rfl, trivial⟩ ?_
      all_goals (refine WC.sr ?_)
      all_goals (refine WL.stepR (okE_box rfl) rfl rfl rfl ?_
                 rintro _ h1 ⟨b3, rfl, hg1, hb1, hx1⟩)
      all_goals (have k1 := k.ext0 hx1
                 have hbs1 := k1.se.blk
                 have hms1 := k1.se.stm)
      all_goals (refine Go ?_)
      all_goals (refine WC.seq ?_)
      all_goals (refine WC.sr ?_)
      all_goals (refine Go ?_)
      all_goals (refine WL.ld rfl (by first | exact cell_blk hb1 rfl | assumption | exact cell_blk (by assumption) rfl) rfl rfl rfl ?_)
      all_goals (refine Go ?_)
      all_goals (refine Gs [(0, _), (3, _), (11, _)] ?_)
      all_goals (refine goC 1 2 ?_ ?_ <;> first | exact ⟨⟩ | refine Hb.mk fun hb => ?_ | skip)
      all_goals (first | (fail_if_success refine goB 1 ?_) | (
      refine goB 1 ?_
      all_goals (refine WC.region ?_)
      all_goals (refine Go ?_)
      all_goals (refine WL.step (ok_nilCheck rfl) rfl rfl rfl ?_)
      all_goals (refine Go ?_)
      all_goals (refine WL.ld rfl (by first | exact cell_blk hbs1 rfl | assumption | exact cell_blk (by assumption) rfl) rfl rfl rfl ?_)
      all_goals (refine WL.stepR0 (ok_delete rfl keyS Tryz.underlying50 Tryz.underlying9 rfl rfl hms1) rfl rfl ?_
                 rintro _ h2 ⟨hm2, hx2⟩)
      all_goals (rw [adel_encK, ← hL] at hm2
                 obtain ⟨k2, t2⟩ := k1.turnL hx2 hm2 (fun q hq => .inl (mem_delK (hL ▸ hq)).1)
                 have hb2 := t2.1.obj hb1 (k1.not hb1 (by decide) (by decide) (by decide))
                 have T2 := (Tn.no (A := A) (P := P) hx1).trans t2)
      all_goals (refine Gn ?_)
      skip))
      all_goals (first | (fail_if_success refine goB 2 ?_) | (
      refine goB 2 ?_
      all_goals (refine WC.skip ?_)
      skip))
      all_goals (refine Gn ?_)
      all_goals (refine WC.seq ?_)
      all_goals (refine WC.sr ?_)
      all_goals (refine Go ?_)
      all_goals (refine WL.ld rfl (by first | exact cell_blk hb2 rfl | assumption | exact cell_blk (by assumption) rfl) rfl rfl rfl ?_)
      all_goals (refine WL.call (vs := [_, _]) rfl (fun a w => Tryz.call78 a w) rfl (refused_v k2 t (by omega)) rfl rfl rfl ?_
                 rintro _ h3 ⟨rfl, hx3⟩
                 rw [hr]
                 dsimp only [erV]
                 have k3 := k2.ext0 hx3
                 have hb3 := hx3.obj hb2 nos
                 have hbs3 := k3.se.blk
                 have hms3 := k3.se.stm
                 have T3 := T2.trans (Tn.no (A := A) (P := P) hx3))
      all_goals (refine Go ?_)
      all_goals (refine Gs [(0, _), (3, _), (6, _)] ?_)
      all_goals (refine WC.sr ?_)
      all_goals (refine Go ?_)
      all_goals (first | (refine WL.step (ok_neqIh (by kernel_rfl) rfl rfl) rfl rfl rfl ?_) | (refine WL.step (ok_neqIn (by kernel_rfl) rfl rfl) rfl rfl rfl ?_))
      all_goals (refine Gn ?_)
      all_goals (refine goC 3 4 ?_ ?_ <;> first | exact ⟨⟩ | refine Hb.mk fun hb => ?_ | skip)
      all_goals (first | (fail_if_success refine goB 3 ?_) | (
      refine goB 3 ?_
      all_goals (refine WC.sr ?_)
      all_goals (refine Go ?_)
      all_goals (refine Gs [(4, _), (5, _)] ?_)
      all_goals (refine Gt ?_)
      all_goals (first
                  | exact Dealt.err hpe (.of k3 T3)
                  | exact Dealt.err hpe (.of (k5.ext0 hx6) (T5.trans (Tn.no (A := A) (P := P) hx6)))
                  | (rw [hpe]; exact ⟨_, [bk0 49 0 []], (fun e => absurd rfl e), rfl, .tag hq8 (by have := T7.1.size; omega), rfl, _, _, k7.ext0 hx8, putL_pl _ _ _, rfl, T7.trans (Tn.no (A := A) (P := P) hx8)⟩))
      skip))
      all_goals (first | (fail_if_success refine goB 4 ?_) | (
      refine goB 4 ?_
      all_goals (refine WC.skip ?_)
      skip))
      all_goals (refine Gn ?_)
      all_goals (refine WC.seq ?_)
      all_goals (refine WC.seq ?_)
      all_goals (refine WC.drawH (fun h' => Ext No h3 h') 13 13 rfl fol ?_)
      all_goals (refine WH.tk 0 rfl (fun hq hC => ok_move rfl) rfl rfl rfl ?_)
      all_goals (refine WH.tk 1 rfl (fun hq hC => ok_nilCheck rfl) rfl rfl rfl ?_)
      all_goals (refine WH.tk 2 rfl (fun hq hC => ok_fieldAddr rfl Tryz.underlying54 rfl (fun w => Tryz.sizeOf50 w)) rfl rfl rfl ?_)
      all_goals (refine WH.tk 3 rfl (fun hq hC => ok_load (fun w => Tryz.isAgg50 w) rfl (by first | exact hC.cell (by first | exact cell_blk hbs3 rfl | assumption | exact cell_blk (by assumption) rfl) nos)) rfl rfl rfl ?_)
      all_goals (refine WH.tk 4 rfl (fun hq hC => ok_fieldAddr rfl Tryz.underlying32 rfl (fun w => Tryz.sizeOf9 w)) rfl rfl rfl ?_)
      all_goals (refine WH.tk 5 rfl (fun hq hC => ok_load (fun w => Tryz.isAgg9 w) rfl (by first | exact hC.cell (by first | exact cell_blk hb3 rfl | assumption | exact cell_blk (by assumption) rfl) nos)) rfl rfl rfl ?_)
      all_goals (first | (refine WH.tk 6 rfl (fun hq hC => (ok_lookup keyS Tryz.underlying50 Tryz.underlying9 rfl rfl (hms3.ext hC nos) hlk).1) rfl rfl rfl ?_) | (refine WH.tk 6 rfl (fun hq hC => (ok_lookup_no keyS Tryz.underlying50 Tryz.underlying9 (fun w => Tryz.zeroValue135 w) rfl rfl (hms3.ext hC nos) hlk).1) rfl rfl rfl ?_) | (refine WH.tk 6 rfl (fun hq hC => (ok_lookup_nil keyS Tryz.underlying50 Tryz.underlying9 (fun w => Tryz.zeroValue135 w) rfl rfl).1) rfl rfl rfl ?_))
      all_goals (refine WH.tk 7 rfl (fun hq hC => ok_move rfl) rfl rfl rfl ?_)
      all_goals (refine WH.tk 8 rfl (fun hq hC => ok_extract rfl rfl) rfl rfl rfl ?_)
      all_goals (refine WH.tk 9 rfl (fun hq hC => ok_extract rfl rfl) rfl rfl rfl ?_)
      all_goals (refine WH.one 10 (by kernel_rfl) ?_)
      all_goals (refine Comes1.run rfl (okE_alloc (fun w => Tryz.zeroValue135 w)) rfl rfl rfl ?_ (fun _ => by kernel_rfl)
                 rintro _ h4 ⟨b7, rfl, hg4, hb4, hx4⟩)
      all_goals (refine ⟨fun _ => hx4, ?_⟩)
      all_goals (refine WH.one 11 (by kernel_rfl) ?_)
      all_goals (refine Comes1.run0 rfl (okE_storeW (fun w => Tryz.sizeOf135 w) rfl rfl rfl hb4 rfl (by first | (simp [Value.oneCell']; done) | (simp [Value.oneCell']; exact hone _ hg))) rfl rfl ?_ (fun _ => by kernel_rfl)
                 rintro _ h5 ⟨hb5, hx5⟩)
      all_goals (refine ⟨fun _ => hx4.trans' hx5 (fun q hq e => by omega), ?_⟩)
      all_goals (have X5 : Ext No h3 h5 := hx4.trans' hx5 (fun q hq e => by omega)
                 have k5 := k3.ext0 X5
                 have hbs5 := k5.se.blk
                 have hms5 := k5.se.stm
                 have hb35 := X5.obj hb3 nos
                 have T5 := T3.trans (Tn.no (A := A) (P := P) X5))
      all_goals (refine WH.tk 12 rfl (fun hq hC => ok_assign rfl) rfl rfl rfl ?_)
      all_goals (refine WH.done (by kernel_rfl) ?_)
      all_goals (refine Gn ?_)
      all_goals (refine Gs [(0, _), (3, _), (8, _)] ?_)
      all_goals (refine WC.sr ?_)
      all_goals (refine Go ?_)
      all_goals (refine goC 5 6 ?_ ?_ <;> first | exact ⟨⟩ | refine Hb.mk fun hb => ?_ | skip)
      all_goals (first | (fail_if_success refine goB 5 ?_) | (
      refine goB 5 ?_
      all_goals (refine WC.sr ?_)
      all_goals (refine Go ?_)
      all_goals (refine WL.ld rfl (by first | exact cell_blk hb35 rfl | assumption | exact cell_blk (by assumption) rfl) rfl rfl rfl ?_)
      all_goals (refine WL.call (vs := [_]) rfl (fun a w => Tryz.call80 a w) rfl (exists_any n (by omega)) rfl rfl rfl ?_
                 rintro _ h6 ⟨rfl, hx6⟩)
      all_goals (refine WL.call (vs := [_, _]) rfl (fun a w => Tryz.call79 a w) rfl (stop_v _ _) rfl rfl rfl ?_
                 rintro _ hq ⟨rfl, hz⟩
                 replace hz := hz.symm
                 subst hz)
      all_goals (refine Go ?_)
      all_goals (refine Gs [(4, _), (5, _)] ?_)
      all_goals (refine Gt ?_)
      all_goals (first
                  | exact Dealt.err hpe (.of k3 T3)
                  | exact Dealt.err hpe (.of (k5.ext0 hx6) (T5.trans (Tn.no (A := A) (P := P) hx6)))
                  | (rw [hpe]; exact ⟨_, [bk0 49 0 []], (fun e => absurd rfl e), rfl, .tag hq8 (by have := T7.1.size; omega), rfl, _, _, k7.ext0 hx8, putL_pl _ _ _, rfl, T7.trans (Tn.no (A := A) (P := P) hx8)⟩))
      skip))
      all_goals (first | (fail_if_success refine goB 6 ?_) | (
      refine goB 6 ?_
      all_goals (refine WC.skip ?_)
      skip))
      all_goals (refine Gn ?_)
      all_goals (refine WC.seq ?_)
      all_goals (refine WC.drawH (fun h' => Ext No h5 h') 12 13 rfl fol ?_)
      all_goals (refine WH.tk 0 rfl (fun hq hC => ok_move rfl) rfl rfl rfl ?_)
      all_goals (refine WH.tk 1 rfl (fun hq hC => ok_nilCheck rfl) rfl rfl rfl ?_)
      all_goals (refine WH.tk 2 rfl (fun hq hC => ok_fieldAddr rfl Tryz.underlying54 rfl (fun w => Tryz.sizeOf50 w)) rfl rfl rfl ?_)
      all_goals (refine WH.tk 3 rfl (fun hq hC => ok_load (fun w => Tryz.isAgg50 w) rfl (by first | exact hC.cell (by first | exact cell_blk hbs5 rfl | assumption | exact cell_blk (by assumption) rfl) nos)) rfl rfl rfl ?_)
      all_goals (refine WH.tk 4 rfl (fun hq hC => ok_fieldAddr rfl Tryz.underlying32 rfl (fun w => Tryz.sizeOf9 w)) rfl rfl rfl ?_)
      all_goals (refine WH.tk 5 rfl (fun hq hC => ok_load (fun w => Tryz.isAgg9 w) rfl (by first | exact hC.cell (by first | exact cell_blk hb35 rfl | assumption | exact cell_blk (by assumption) rfl) nos)) rfl rfl rfl ?_)
      all_goals (refine WH.tk 6 rfl (fun hq hC => ok_fieldAddr rfl Tryz.underlying32 rfl (fun w => Tryz.sizeOf9 w)) rfl rfl rfl ?_)
      all_goals (refine WH.tk 7 rfl (fun hq hC => ok_load (fun w => Tryz.isAgg9 w) rfl (by first | exact hC.cell (by first | exact cell_blk hb35 rfl | assumption | exact cell_blk (by assumption) rfl) nos)) rfl rfl rfl ?_)
      all_goals (refine WH.tk 8 rfl (fun hq hC => ok_fieldAddr rfl Tryz.underlying32 rfl (fun w => Tryz.sizeOf29 w)) rfl rfl rfl ?_)
      all_goals (refine WH.tk 9 rfl (fun hq hC => ok_load (fun w => Tryz.isAgg29 w) rfl (by first | exact hC.cell (by first | exact cell_blk hb35 rfl | assumption | exact cell_blk (by assumption) rfl) nos)) rfl rfl rfl ?_)
      all_goals (refine WH.one 10 (by kernel_rfl) ?_)
      all_goals (refine Comes1.call (vs := [_]) rfl rfl (fun a w => Tryz.call81 a w) rfl (clone_ints o (er.ext' T5.1 (fun q h1 h2 => hF q (.inl ⟨h1, h2⟩))) (by unfold reachBytes; omega)) rfl rfl rfl ?_ (fun _ => by kernel_rfl)
                 rintro v6 h6 ⟨ho6, hx6, hf6⟩
                 obtain ⟨A6, c6, rfl, _⟩ := ho6.slice)
      all_goals (refine ⟨fun _ => hx6, ?_⟩)
      all_goals (refine WH.tk 11 rfl (fun hq hC => ok_buildF (vs := [_, _]) (cs := [_, _]) (fun | [a0, a1] => [a0, a1] | _ => []) rfl rfl (by kernel_rfl)) rfl rfl rfl ?_)
      all_goals (refine WH.one 12 (by kernel_rfl) ?_)
      all_goals (refine Comes1.run0 rfl (ok_mapUpdate keyS Tryz.underlying50 Tryz.underlying9 rfl rfl rfl (hms5.ext hx6 nos)) rfl rfl ?_ (fun _ => by kernel_rfl)
                 rintro _ h7 ⟨hm7, hx7⟩)
      all_goals (refine ⟨fun e => (by cases e), ?_⟩)
      all_goals (rw [show (Value.agg ⟨[St t, .slice A6 o.length c6]⟩) = stE ⟨t, .slice A6 o.length c6, o⟩ from rfl, aput_encK] at hm7
                 have k6 := k5.ext0 hx6
                 obtain ⟨k7, t7⟩ := k6.turnL hx7 hm7 (fun q hq => (mem_putK hq).elim (fun e => .inr (by subst e; exact ⟨ho6.rd, fl4, fun z _ hz => k6.notOwn ho6 (by decide) (by decide) (by decide) z hz⟩)) (fun e => .inl e.1))
                 have T7 := (T5.trans (Tn.no (A := A) (P := P) hx6)).trans t7)
      all_goals (refine WH.done (by kernel_rfl) ?_)
      all_goals (refine Gn ?_)
      all_goals (refine Gs [] ?_)
      all_goals (refine WC.sr ?_)
      all_goals (refine WL.call (vs := [_]) rfl (fun a w => Tryz.call82 a w) rfl (plain_v 49) rfl rfl rfl ?_
                 rintro _ h8 ⟨q, rfl, hq8, hgq, hx8⟩)
      all_goals (refine Go ?_)
      all_goals (refine Gt ?_)
      all_goals (first
                  | exact Dealt.err hpe (.of k3 T3)
                  | exact Dealt.err hpe (.of (k5.ext0 hx6) (T5.trans (Tn.no (A := A) (P := P) hx6)))
                  | (rw [hpe]; exact ⟨_, [bk0 49 0 []], (fun e => absurd rfl e), rfl, .tag hq8 (by have := T7.1.size; omega), rfl, _, _, k7.ext0 hx8, putL_pl _ _ _, rfl, T7.trans (Tn.no (A := A) (P := P) hx8)⟩))
  · rcases r with _ | ⟨ra, rb⟩
    · rcases g with _ | gq
      all_goals
        have hone : ∀ q, getK L1 n = some q → q.vo.oneCell' = true := fun q hq => by
          obtain ⟨_, _, e, _⟩ := (k.sok _ (getK_mem (hL ▸ hq))).1
          rw [e]; rfl
        dsimp only [Option.map_none, Option.map_some, stE] at hlk hpe
        refine calls [(0, _), (1, _)] Tryz.func46 rfl Tryz.ntmps46 rfl ⟨rfl, rfl, trivial⟩ ?_
        all_goals (refine WC.sr ?_)
        all_goals (refine WL.stepR (okE_box rfl) rfl rfl rfl ?_
                   rintro _ h1 ⟨b3, rfl, hg1, hb2, hx1⟩)
        all_goals (have k2 : Ss h1 A st sk ov cnt L1 P := hL ▸ k.ext0 hx1
                   have T2 := Tn.no (A := A) (P := P) hx1)
        all_goals (refine Go ?_)
        all_goals (refine WC.seq ?_)
        all_goals (refine WC.sr ?_)
        all_goals (refine Go ?_)
        all_goals (refine WL.ld rfl (by first | exact cell_blk hb2 rfl | assumption | exact cell_blk (by assumption) rfl) rfl rfl rfl ?_)
        all_goals (refine Go ?_)
        all_goals (refine Gs [(0, _), (3, _), (11, _)] ?_)
        all_goals (refine goC 1 2 ?_ ?_ <;> first | exact ⟨⟩ | refine Hb.mk fun hb => ?_ | skip)
        all_goals (first | (fail_if_success refine goB 1 ?_) | (
        refine goB 1 ?_
        all_goals (refine WC.region ?_)
        all_goals (refine Go ?_)
        all_goals (refine WL.step (ok_nilCheck rfl) rfl rfl rfl ?_)
        all_goals (refine Go ?_)
        all_goals (refine Ld ?_)
        all_goals (refine WL.stepR0 (ok_delete rfl keyS Tryz.underlying50 Tryz.underlying9 rfl rfl (by assumption)) rfl rfl ?_
                   rintro _ h1 ⟨hm1, hx1⟩)
        all_goals (refine Gn ?_)
        skip))
        all_goals (first | (fail_if_success refine goB 2 ?_) | (
        refine goB 2 ?_
        all_goals (refine WC.skip ?_)
        skip))
        all_goals (refine Gn ?_)
        all_goals (refine WC.seq ?_)
        all_goals (refine WC.sr ?_)
        all_goals (refine Go ?_)
        all_goals (refine WL.ld rfl (by first | exact cell_blk hb2 rfl | assumption | exact cell_blk (by assumption) rfl) rfl rfl rfl ?_)
        all_goals (refine WL.call (vs := [_, _]) rfl (fun a w => Tryz.call78 a w) rfl (refused_v k2 t (by omega)) rfl rfl rfl ?_
                   rintro _ h3 ⟨rfl, hx3⟩
                   rw [hr]
                   dsimp only [erV]
                   have k3 := k2.ext0 hx3
                   have hb3 := hx3.obj hb2 nos
                   have hbs3 := k3.se.blk
                   have hms3 := k3.se.stm
                   have T3 := T2.trans (Tn.no (A := A) (P := P) hx3))
        all_goals (refine Go ?_)
        all_goals (refine Gs [(0, _), (3, _), (6, _)] ?_)
        all_goals (refine WC.sr ?_)
        all_goals (refine Go ?_)
        all_goals (first | (refine WL.step (ok_neqIh (by kernel_rfl) rfl rfl) rfl rfl rfl ?_) | (refine WL.step (ok_neqIn (by kernel_rfl) rfl rfl) rfl rfl rfl ?_))
        all_goals (refine Gn ?_)
        all_goals (refine goC 3 4 ?_ ?_ <;> first | exact ⟨⟩ | refine Hb.mk fun hb => ?_ | skip)
        all_goals (first | (fail_if_success refine goB 3 ?_) | (
        refine goB 3 ?_
        all_goals (refine WC.sr ?_)
        all_goals (refine Go ?_)
        all_goals (refine Gs [(4, _), (5, _)] ?_)
        all_goals (refine Gt ?_)
        all_goals (first
                    | exact Dealt.err hpe (.of k3 T3)
                    | exact Dealt.err hpe (.of (k5.ext0 hx6) (T5.trans (Tn.no (A := A) (P := P) hx6)))
                    | (rw [hpe]; exact ⟨_, [bk0 49 0 []], (fun e => absurd rfl e), rfl, .tag hq8 (by have := T7.1.size; omega), rfl, _, _, k7.ext0 hx8, putL_pl _ _ _, rfl, T7.trans (Tn.no (A := A) (P := P) hx8)⟩))
        skip))
        all_goals (first | (fail_if_success refine goB 4 ?_) | (
        refine goB 4 ?_
        all_goals (refine WC.skip ?_)
        skip))
        all_goals (refine Gn ?_)
        all_goals (refine WC.seq ?_)
        all_goals (refine WC.seq ?_)
        all_goals (refine WC.drawH (fun h' => Ext No h3 h') 13 13 rfl fol ?_)
        all_goals (refine WH.tk 0 rfl (fun hq hC => ok_move rfl) rfl rfl rfl ?_)
        all_goals (refine WH.tk 1 rfl (fun hq hC => ok_nilCheck rfl) rfl rfl rfl ?_)
        all_goals (refine WH.tk 2 rfl (fun hq hC => ok_fieldAddr rfl Tryz.underlying54 rfl (fun w => Tryz.sizeOf50 w)) rfl rfl rfl ?_)
        all_goals (refine WH.tk 3 rfl (fun hq hC => ok_load (fun w => Tryz.isAgg50 w) rfl (by first | exact hC.cell (by first | exact cell_blk hbs3 rfl | assumption | exact cell_blk (by assumption) rfl) nos)) rfl rfl rfl ?_)
        all_goals (refine WH.tk 4 rfl (fun hq hC => ok_fieldAddr rfl Tryz.underlying32 rfl (fun w => Tryz.sizeOf9 w)) rfl rfl rfl ?_)
        all_goals (refine WH.tk 5 rfl (fun hq hC => ok_load (fun w => Tryz.isAgg9 w) rfl (by first | exact hC.cell (by first | exact cell_blk hb3 rfl | assumption | exact cell_blk (by assumption) rfl) nos)) rfl rfl rfl ?_)
        all_goals (first | (refine WH.tk 6 rfl (fun hq hC => (ok_lookup keyS Tryz.underlying50 Tryz.underlying9 rfl rfl (hms3.ext hC nos) hlk).1) rfl rfl rfl ?_) | (refine WH.tk 6 rfl (fun hq hC => (ok_lookup_no keyS Tryz.underlying50 Tryz.underlying9 (fun w => Tryz.zeroValue135 w) rfl rfl (hms3.ext hC nos) hlk).1) rfl rfl rfl ?_) | (refine WH.tk 6 rfl (fun hq hC => (ok_lookup_nil keyS Tryz.underlying50 Tryz.underlying9 (fun w => Tryz.zeroValue135 w) rfl rfl).1) rfl rfl rfl ?_))
        all_goals (refine WH.tk 7 rfl (fun hq hC => ok_move rfl) rfl rfl rfl ?_)
        all_goals (refine WH.tk 8 rfl (fun hq hC => ok_extract rfl rfl) rfl rfl rfl ?_)
        all_goals (refine WH.tk 9 rfl (fun hq hC => ok_extract rfl rfl) rfl rfl rfl ?_)
        all_goals (refine WH.one 10 (by kernel_rfl) ?_)
        all_goals (refine Comes1.run rfl (okE_alloc (fun w => Tryz.zeroValue135 w)) rfl rfl rfl ?_ (fun _ => by kernel_rfl)
                   rintro _ h4 ⟨b7, rfl, hg4, hb4, hx4⟩)
        all_goals (refine ⟨fun _ => hx4, ?_⟩)
        all_goals (refine WH.one 11 (by kernel_rfl) ?_)
        all_goals (refine Comes1.run0 rfl (okE_storeW (fun w => Tryz.sizeOf135 w) rfl rfl rfl hb4 rfl (by first | (simp [Value.oneCell']; done) | (simp [Value.oneCell']; exact hone _ hg))) rfl rfl ?_ (fun _ => by kernel_rfl)
                   rintro _ h5 ⟨hb5, hx5⟩)
        all_goals (refine ⟨fun _ => hx4.trans' hx5 (fun q hq e => by omega), ?_⟩)
        all_goals (have X5 : Ext No h3 h5 := hx4.trans' hx5 (fun q hq e => by omega)
                   have k5 := k3.ext0 X5
                   have hbs5 := k5.se.blk
                   have hms5 := k5.se.stm
                   have hb35 := X5.obj hb3 nos
                   have T5 := T3.trans (Tn.no (A := A) (P := P) X5))
        all_goals (refine WH.tk 12 rfl (fun hq hC => ok_assign rfl) rfl rfl rfl ?_)
        all_goals (refine WH.done (by kernel_rfl) ?_)
        all_goals (refine Gn ?_)
        all_goals (refine Gs [(0, _), (3, _), (8, _)] ?_)
        all_goals (refine WC.sr ?_)
        all_goals (refine Go ?_)
        all_goals (refine goC 5 6 ?_ ?_ <;> first | exact ⟨⟩ | refine Hb.mk fun hb => ?_ | skip)
        all_goals (first | (fail_if_success refine goB 5 ?_) | (
        refine goB 5 ?_
        all_goals (refine WC.sr ?_)
        all_goals (refine Go ?_)
        all_goals (refine WL.ld rfl (by first | exact cell_blk hb35 rfl | assumption | exact cell_blk (by assumption) rfl) rfl rfl rfl ?_)
        all_goals (refine WL.call (vs := [_]) rfl (fun a w => Tryz.call80 a w) rfl (exists_any n (by omega)) rfl rfl rfl ?_
                   rintro _ h6 ⟨rfl, hx6⟩)
        all_goals (refine WL.call (vs := [_, _]) rfl (fun a w => Tryz.call79 a w) rfl (stop_v _ _) rfl rfl rfl ?_
                   rintro _ hq ⟨rfl, hz⟩
                   replace hz := hz.symm
                   subst hz)
        all_goals (refine Go ?_)
        all_goals (refine Gs [(4, _), (5, _)] ?_)
        all_goals (refine Gt ?_)
        all_goals (first
                    | exact Dealt.err hpe (.of k3 T3)
                    | exact Dealt.err hpe (.of (k5.ext0 hx6) (T5.trans (Tn.no (A := A) (P := P) hx6)))
                    | (rw [hpe]; exact ⟨_, [bk0 49 0 []], (fun e => absurd rfl e), rfl, .tag hq8 (by have := T7.1.size; omega), rfl, _, _, k7.ext0 hx8, putL_pl _ _ _, rfl, T7.trans (Tn.no (A := A) (P := P) hx8)⟩))
        skip))
        all_goals (first | (fail_if_success refine goB 6 ?_) | (
        refine goB 6 ?_
        all_goals (refine WC.skip ?_)
        skip))
        all_goals (refine Gn ?_)
        all_goals (refine WC.seq ?_)
        all_goals (refine WC.drawH (fun h' => Ext No h5 h') 12 13 rfl fol ?_)
        all_goals (refine WH.tk 0 rfl (fun hq hC => ok_move rfl) rfl rfl rfl ?_)
        all_goals (refine WH.tk 1 rfl (fun hq hC => ok_nilCheck rfl) rfl rfl rfl ?_)
        all_goals (refine WH.tk 2 rfl (fun hq hC => ok_fieldAddr rfl Tryz.underlying54 rfl (fun w => Tryz.sizeOf50 w)) rfl rfl rfl ?_)
        all_goals (refine WH.tk 3 rfl (fun hq hC => ok_load (fun w => Tryz.isAgg50 w) rfl (by first | exact hC.cell (by first | exact cell_blk hbs5 rfl | assumption | exact cell_blk (by assumption) rfl) nos)) rfl rfl rfl ?_)
        all_goals (refine WH.tk 4 rfl (fun hq hC => ok_fieldAddr rfl Tryz.underlying32 rfl (fun w => Tryz.sizeOf9 w)) rfl rfl rfl ?_)
        all_goals (refine WH.tk 5 rfl (fun hq hC => ok_load (fun w => Tryz.isAgg9 w) rfl (by first | exact hC.cell (by first | exact cell_blk hb35 rfl | assumption | exact cell_blk (by assumption) rfl) nos)) rfl rfl rfl ?_)
        all_goals (refine WH.tk 6 rfl (fun hq hC => ok_fieldAddr rfl Tryz.underlying32 rfl (fun w => Tryz.sizeOf9 w)) rfl rfl rfl ?_)
        all_goals (refine WH.tk 7 rfl (fun hq hC => ok_load (fun w => Tryz.isAgg9 w) rfl (by first | exact hC.cell (by first | exact cell_blk hb35 rfl | assumption | exact cell_blk (by assumption) rfl) nos)) rfl rfl rfl ?_)
        all_goals (refine WH.tk 8 rfl (fun hq hC => ok_fieldAddr rfl Tryz.underlying32 rfl (fun w => Tryz.sizeOf29 w)) rfl rfl rfl ?_)
        all_goals (refine WH.tk 9 rfl (fun hq hC => ok_load (fun w => Tryz.isAgg29 w) rfl (by first | exact hC.cell (by first | exact cell_blk hb35 rfl | assumption | exact cell_blk (by assumption) rfl) nos)) rfl rfl rfl ?_)
        all_goals (refine WH.one 10 (by kernel_rfl) ?_)
        all_goals (refine Comes1.call (vs := [_]) rfl rfl (fun a w => Tryz.call81 a w) rfl (clone_ints o (er.ext' T5.1 (fun q h1 h2 => hF q (.inl ⟨h1, h2⟩))) (by unfold reachBytes; omega)) rfl rfl rfl ?_ (fun _ => by kernel_rfl)
                   rintro v6 h6 ⟨ho6, hx6, hf6⟩
                   obtain ⟨A6, c6, rfl, _⟩ := ho6.slice)
        all_goals (refine ⟨fun _ => hx6, ?_⟩)
        all_goals (refine WH.tk 11 rfl (fun hq hC => ok_buildF (vs := [_, _]) (cs := [_, _]) (fun | [a0, a1] => [a0, a1] | _ => []) rfl rfl (by kernel_rfl)) rfl rfl rfl ?_)
        all_goals (refine WH.one 12 (by kernel_rfl) ?_)
        all_goals (refine Comes1.run0 rfl (ok_mapUpdate keyS Tryz.underlying50 Tryz.underlying9 rfl rfl rfl (hms5.ext hx6 nos)) rfl rfl ?_ (fun _ => by kernel_rfl)
                   rintro _ h7 ⟨hm7, hx7⟩)
        all_goals (refine ⟨fun e => (by cases e), ?_⟩)
        all_goals (rw [show (Value.agg ⟨[St t, .slice A6 o.length c6]⟩) = stE ⟨t, .slice A6 o.length c6, o⟩ from rfl, aput_encK] at hm7
                   have k6 := k5.ext0 hx6
                   obtain ⟨k7, t7⟩ := k6.turnL hx7 hm7 (fun q hq => (mem_putK hq).elim (fun e => .inr (by subst e; exact ⟨ho6.rd, fl4, fun z _ hz => k6.notOwn ho6 (by decide) (by decide) (by decide) z hz⟩)) (fun e => .inl e.1))
                   have T7 := (T5.trans (Tn.no (A := A) (P := P) hx6)).trans t7)
        all_goals (refine WH.done (by kernel_rfl) ?_)
        all_goals (refine Gn ?_)
        all_goals (refine Gs [] ?_)
        all_goals (refine WC.sr ?_)
        all_goals (refine WL.call (vs := [_]) rfl (fun a w => Tryz.call82 a w) rfl (plain_v 49) rfl rfl rfl ?_
                   rintro _ h8 ⟨q, rfl, hq8, hgq, hx8⟩)
        all_goals (refine Go ?_)
        all_goals (refine Gt ?_)
        all_goals (first
                    | exact Dealt.err hpe (.of k3 T3)
                    | exact Dealt.err hpe (.of (k5.ext0 hx6) (T5.trans (Tn.no (A := A) (P := P) hx6)))
                    | (rw [hpe]; exact ⟨_, [bk0 49 0 []], (fun e => absurd rfl e), rfl, .tag hq8 (by have := T7.1.size; omega), rfl, _, _, k7.ext0 hx8, putL_pl _ _ _, rfl, T7.trans (Tn.no (A := A) (P := P) hx8)⟩))
    · dsimp only at hpe
      refine calls [(0, _), (1, _)] Tryz.func46 rfl Tryz.ntmps46 rfl ⟨rfl, rfl, trivial⟩ ?_
      all_goals (refine WC.sr ?_)
      all_goals (refine WL.stepR (okE_box rfl) rfl rfl rfl ?_
                 rintro _ h1 ⟨b3, rfl, hg1, hb2, hx1⟩)
      all_goals (have k2 : Ss h1 A st sk ov cnt L1 P := hL ▸ k.ext0 hx1
                 have T2 := Tn.no (A := A) (P := P) hx1)
      all_goals (refine Go ?_)
      all_goals (refine WC.seq ?_)
      all_goals (refine WC.sr ?_)
      all_goals (refine Go ?_)
      all_goals (refine WL.ld rfl (by first | exact cell_blk hb2 rfl | assumption | exact cell_blk (by assumption) rfl) rfl rfl rfl ?_)
      all_goals (refine Go ?_)
      all_goals (refine Gs [(0, _), (3, _), (11, _)] ?_)
      all_goals (refine goC 1 2 ?_ ?_ <;> first | exact ⟨⟩ | refine Hb.mk fun hb => ?_ | skip)
      all_goals (first | (fail_if_success refine goB 1 ?_) | (
      refine goB 1 ?_
      all_goals (refine WC.region ?_)
      all_goals (refine Go ?_)
      all_goals (refine WL.step (ok_nilCheck rfl) rfl rfl rfl ?_)
      all_goals (refine Go ?_)
      all_goals (refine Ld ?_)
      all_goals (refine WL.stepR0 (ok_delete rfl keyS Tryz.underlying50 Tryz.underlying9 rfl rfl (by assumption)) rfl rfl ?_
                 rintro _ h1 ⟨hm1, hx1⟩)
      all_goals (refine Gn ?_)
      skip))
      all_goals (first | (fail_if_success refine goB 2 ?_) | (
      refine goB 2 ?_
      all_goals (refine WC.skip ?_)
      skip))
      all_goals (refine Gn ?_)
      all_goals (refine WC.seq ?_)
      all_goals (refine WC.sr ?_)
      all_goals (refine Go ?_)
      all_goals (refine WL.ld rfl (by first | exact cell_blk hb2 rfl | assumption | exact cell_blk (by assumption) rfl) rfl rfl rfl ?_)
      all_goals (refine WL.call (vs := [_, _]) rfl (fun a w => Tryz.call78 a w) rfl (refused_v k2 t (by omega)) rfl rfl rfl ?_
                 rintro _ h3 ⟨rfl, hx3⟩
                 rw [hr]
                 dsimp only [erV]
                 have k3 := k2.ext0 hx3
                 have hb3 := hx3.obj hb2 nos
                 have hbs3 := k3.se.blk
                 have hms3 := k3.se.stm
                 have T3 := T2.trans (Tn.no (A := A) (P := P) hx3))
      all_goals (refine Go ?_)
      all_goals (refine Gs [(0, _), (3, _), (6, _)] ?_)
      all_goals (refine WC.sr ?_)
      all_goals (refine Go ?_)
      all_goals (first | (refine WL.step (ok_neqIh (by kernel_rfl) rfl rfl) rfl rfl rfl ?_) | (refine WL.step (ok_neqIn (by kernel_rfl) rfl rfl) rfl rfl rfl ?_))
      all_goals (refine Gn ?_)
      all_goals (refine goC 3 4 ?_ ?_ <;> first | exact ⟨⟩ | refine Hb.mk fun hb => ?_ | skip)
      all_goals (first | (fail_if_success refine goB 3 ?_) | (
      refine goB 3 ?_
      all_goals (refine WC.sr ?_)
      all_goals (refine Go ?_)
      all_goals (refine Gs [(4, _), (5, _)] ?_)
      all_goals (refine Gt ?_)
      all_goals (first
                  | exact Dealt.err hpe (.of k3 T3)
                  | exact Dealt.err hpe (.of (k5.ext0 hx6) (T5.trans (Tn.no (A := A) (P := P) hx6)))
                  | (rw [hpe]; exact ⟨_, [bk0 49 0 []], (fun e => absurd rfl e), rfl, .tag hq8 (by have := T7.1.size; omega), rfl, _, _, k7.ext0 hx8, putL_pl _ _ _, rfl, T7.trans (Tn.no (A := A) (P := P) hx8)⟩))
      skip))
      all_goals (first | (fail_if_success refine goB 4 ?_) | (
      refine goB 4 ?_
      all_goals (refine WC.skip ?_)
      skip))
      all_goals (refine Gn ?_)
      all_goals (refine WC.seq ?_)
      all_goals (refine WC.seq ?_)
      all_goals (refine WC.drawH (fun h' => Ext No h3 h') 13 13 rfl fol ?_)
      all_goals (refine WH.tk 0 rfl (fun hq hC => ok_move rfl) rfl rfl rfl ?_)
      all_goals (refine WH.tk 1 rfl (fun hq hC => ok_nilCheck rfl) rfl rfl rfl ?_)
      all_goals (refine WH.tk 2 rfl (fun hq hC => ok_fieldAddr rfl Tryz.underlying54 rfl (fun w => Tryz.sizeOf50 w)) rfl rfl rfl ?_)
      all_goals (refine WH.tk 3 rfl (fun hq hC => ok_load (fun w => Tryz.isAgg50 w) rfl (by first | exact hC.cell (by first | exact cell_blk hbs3 rfl | assumption | exact cell_blk (by assumption) rfl) nos)) rfl rfl rfl ?_)
      all_goals (refine WH.tk 4 rfl (fun hq hC => ok_fieldAddr rfl Tryz.underlying32 rfl (fun w => Tryz.sizeOf9 w)) rfl rfl rfl ?_)
      all_goals (refine WH.tk 5 rfl (fun hq hC => ok_load (fun w => Tryz.isAgg9 w) rfl (by first | exact hC.cell (by first | exact cell_blk hb3 rfl | assumption | exact cell_blk (by assumption) rfl) nos)) rfl rfl rfl ?_)
      all_goals (first | (refine WH.tk 6 rfl (fun hq hC => (ok_lookup keyS Tryz.underlying50 Tryz.underlying9 rfl rfl (hms3.ext hC nos) hlk).1) rfl rfl rfl ?_) | (refine WH.tk 6 rfl (fun hq hC => (ok_lookup_no keyS Tryz.underlying50 Tryz.underlying9 (fun w => Tryz.zeroValue135 w) rfl rfl (hms3.ext hC nos) hlk).1) rfl rfl rfl ?_) | (refine WH.tk 6 rfl (fun hq hC => (ok_lookup_nil keyS Tryz.underlying50 Tryz.underlying9 (fun w => Tryz.zeroValue135 w) rfl rfl).1) rfl rfl rfl ?_))
      all_goals (refine WH.tk 7 rfl (fun hq hC => ok_move rfl) rfl rfl rfl ?_)
      all_goals (refine WH.tk 8 rfl (fun hq hC => ok_extract rfl rfl) rfl rfl rfl ?_)
      all_goals (refine WH.tk 9 rfl (fun hq hC => ok_extract rfl rfl) rfl rfl rfl ?_)
      all_goals (refine WH.one 10 (by kernel_rfl) ?_)
      all_goals (refine Comes1.run rfl (okE_alloc (fun w => Tryz.zeroValue135 w)) rfl rfl rfl ?_ (fun _ => by kernel_rfl)
                 rintro _ h4 ⟨b7, rfl, hg4, hb4, hx4⟩)
      all_goals (refine ⟨fun _ => hx4, ?_⟩)
      all_goals (refine WH.one 11 (by kernel_rfl) ?_)
      all_goals (refine Comes1.run0 rfl (okE_storeW (fun w => Tryz.sizeOf135 w) rfl rfl rfl hb4 rfl (by first | (simp [Value.oneCell']; done) | (simp [Value.oneCell']; exact hone _ hg))) rfl rfl ?_ (fun _ => by kernel_rfl)
                 rintro _ h5 ⟨hb5, hx5⟩)
      all_goals (refine ⟨fun _ => hx4.trans' hx5 (fun q hq e => by omega), ?_⟩)
      all_goals (have X5 : Ext No h3 h5 := hx4.trans' hx5 (fun q hq e => by omega)
                 have k5 := k3.ext0 X5
                 have hbs5 := k5.se.blk
                 have hms5 := k5.se.stm
                 have hb35 := X5.obj hb3 nos
                 have T5 := T3.trans (Tn.no (A := A) (P := P) X5))
      all_goals (refine WH.tk 12 rfl (fun hq hC => ok_assign rfl) rfl rfl rfl ?_)
      all_goals (refine WH.done (by kernel_rfl) ?_)
      all_goals (refine Gn ?_)
      all_goals (refine Gs [(0, _), (3, _), (8, _)] ?_)
      all_goals (refine WC.sr ?_)
      all_goals (refine Go ?_)
      all_goals (refine goC 5 6 ?_ ?_ <;> first | exact ⟨⟩ | refine Hb.mk fun hb => ?_ | skip)
      all_goals (first | (fail_if_success refine goB 5 ?_) | (
      refine goB 5 ?_
      all_goals (refine WC.sr ?_)
      all_goals (refine Go ?_)
      all_goals (refine WL.ld rfl (by first | exact cell_blk hb35 rfl | assumption | exact cell_blk (by assumption) rfl) rfl rfl rfl ?_)
      all_goals (refine WL.call (vs := [_]) rfl (fun a w => Tryz.call80 a w) rfl (exists_any n (by omega)) rfl rfl rfl ?_
                 rintro _ h6 ⟨rfl, hx6⟩)
      all_goals (refine WL.call (vs := [_, _]) rfl (fun a w => Tryz.call79 a w) rfl (stop_v _ _) rfl rfl rfl ?_
                 rintro _ hq ⟨rfl, hz⟩
                 replace hz := hz.symm
                 subst hz)
      all_goals (refine Go ?_)
      all_goals (refine Gs [(4, _), (5, _)] ?_)
      all_goals (refine Gt ?_)
      all_goals (first
                  | exact Dealt.err hpe (.of k3 T3)
                  | exact Dealt.err hpe (.of (k5.ext0 hx6) (T5.trans (Tn.no (A := A) (P := P) hx6)))
                  | (rw [hpe]; exact ⟨_, [bk0 49 0 []], (fun e => absurd rfl e), rfl, .tag hq8 (by have := T7.1.size; omega), rfl, _, _, k7.ext0 hx8, putL_pl _ _ _, rfl, T7.trans (Tn.no (A := A) (P := P) hx8)⟩))
      skip))
      all_goals (first | (fail_if_success refine goB 6 ?_) | (
      refine goB 6 ?_
      all_goals (refine WC.skip ?_)
      skip))
      all_goals (refine Gn ?_)
      all_goals (refine WC.seq ?_)
      all_goals (refine WC.drawH (fun h' => Ext No h5 h') 12 13 rfl fol ?_)
      all_goals (refine WH.tk 0 rfl (fun hq hC => ok_move rfl) rfl rfl rfl ?_)
      all_goals (refine WH.tk 1 rfl (fun hq hC => ok_nilCheck rfl) rfl rfl rfl ?_)
      all_goals (refine WH.tk 2 rfl (fun hq hC => ok_fieldAddr rfl Tryz.underlying54 rfl (fun w => Tryz.sizeOf50 w)) rfl rfl rfl ?_)
      all_goals (refine WH.tk 3 rfl (fun hq hC => ok_load (fun w => Tryz.isAgg50 w) rfl (by first | exact hC.cell (by first | exact cell_blk hbs5 rfl | assumption | exact cell_blk (by assumption) rfl) nos)) rfl rfl rfl ?_)
      all_goals (refine WH.tk 4 rfl (fun hq hC => ok_fieldAddr rfl Tryz.underlying32 rfl (fun w => Tryz.sizeOf9 w)) rfl rfl rfl ?_)
      all_goals (refine WH.tk 5 rfl (fun hq hC => ok_load (fun w => Tryz.isAgg9 w) rfl (by first | exact hC.cell (by first | exact cell_blk hb35 rfl | assumption | exact cell_blk (by assumption) rfl) nos)) rfl rfl rfl ?_)
      all_goals (refine WH.tk 6 rfl (fun hq hC => ok_fieldAddr rfl Tryz.underlying32 rfl (fun w => Tryz.sizeOf9 w)) rfl rfl rfl ?_)
      all_goals (refine WH.tk 7 rfl (fun hq hC => ok_load (fun w => Tryz.isAgg9 w) rfl (by first | exact hC.cell (by first | exact cell_blk hb35 rfl | assumption | exact cell_blk (by assumption) rfl) nos)) rfl rfl rfl ?_)
      all_goals (refine WH.tk 8 rfl (fun hq hC => ok_fieldAddr rfl Tryz.underlying32 rfl (fun w => Tryz.sizeOf29 w)) rfl rfl rfl ?_)
      all_goals (refine WH.tk 9 rfl (fun hq hC => ok_load (fun w => Tryz.isAgg29 w) rfl (by first | exact hC.cell (by first | exact cell_blk hb35 rfl | assumption | exact cell_blk (by assumption) rfl) nos)) rfl rfl rfl ?_)
      all_goals (refine WH.one 10 (by kernel_rfl) ?_)
      all_goals (refine Comes1.call (vs := [_]) rfl rfl (fun a w => Tryz.call81 a w) rfl (clone_ints o (er.ext' T5.1 (fun q h1 h2 => hF q (.inl ⟨h1, h2⟩))) (by unfold reachBytes; omega)) rfl rfl rfl ?_ (fun _ => by kernel_rfl)
                 rintro v6 h6 ⟨ho6, hx6, hf6⟩
                 obtain ⟨A6, c6, rfl, _⟩ := ho6.slice)
      all_goals (refine ⟨fun _ => hx6, ?_⟩)
      all_goals (refine WH.tk 11 rfl (fun hq hC => ok_buildF (vs := [_, _]) (cs := [_, _]) (fun | [a0, a1] => [a0, a1] | _ => []) rfl rfl (by kernel_rfl)) rfl rfl rfl ?_)
      all_goals (refine WH.one 12 (by kernel_rfl) ?_)
      all_goals (refine Comes1.run0 rfl (ok_mapUpdate keyS Tryz.underlying50 Tryz.underlying9 rfl rfl rfl (hms5.ext hx6 nos)) rfl rfl ?_ (fun _ => by kernel_rfl)
                 rintro _ h7 ⟨hm7, hx7⟩)
      all_goals (refine ⟨fun e => (by cases e), ?_⟩)
      all_goals (rw [show (Value.agg ⟨[St t, .slice A6 o.length c6]⟩) = stE ⟨t, .slice A6 o.length c6, o⟩ from rfl, aput_encK] at hm7
                 have k6 := k5.ext0 hx6
                 obtain ⟨k7, t7⟩ := k6.turnL hx7 hm7 (fun q hq => (mem_putK hq).elim (fun e => .inr (by subst e; exact ⟨ho6.rd, fl4, fun z _ hz => k6.notOwn ho6 (by decide) (by decide) (by decide) z hz⟩)) (fun e => .inl e.1))
                 have T7 := (T5.trans (Tn.no (A := A) (P := P) hx6)).trans t7)
      all_goals (refine WH.done (by kernel_rfl) ?_)
      all_goals (refine Gn ?_)
      all_goals (refine Gs [] ?_)
      all_goals (refine WC.sr ?_)
      all_goals (refine WL.call (vs := [_]) rfl (fun a w => Tryz.call82 a w) rfl (plain_v 49) rfl rfl rfl ?_
                 rintro _ h8 ⟨q, rfl, hq8, hgq, hx8⟩)
      all_goals (refine Go ?_)
      all_goals (refine Gt ?_)
      all_goals (first
                  | exact Dealt.err hpe (.of k3 T3)
                  | exact Dealt.err hpe (.of (k5.ext0 hx6) (T5.trans (Tn.no (A := A) (P := P) hx6)))
                  | (rw [hpe]; exact ⟨_, [bk0 49 0 []], (fun e => absurd rfl e), rfl, .tag hq8 (by have := T7.1.size; omega), rfl, _, _, k7.ext0 hx8, putL_pl _ _ _, rfl, T7.trans (Tn.no (A := A) (P := P) hx8)⟩))
end
end Go.Proofs.YtbokngiajfdanaaGreatDoor


/-
  SESSIONS (layer 30), by the code: a B.
-/
namespace Go.Proofs.YtbokngiajfdanaaGreatDoor
open Go Go.RK

section
variable {h h' : Heap} {A : Ad} {st : Int} {sk ov : Bool} {cnt : Int} {L : List (List UInt8 × StD)} {P : List (List UInt8 × ItD)}
theorem stmtP_none {n : List UInt8} (e : stmtP (spO st sk ov cnt L P) n = none) : ∃ q, getK L n = some q := by
  have e' : (match getK (plL L) n with | none => some (([50, 54, 48, 48, 48] : List UInt8), missL n) | some t => abortP t.1 st) = none := e
  rw [getL_pl] at e'
  rcases hg : getK L n with _ | q
  · rw [hg] at e'
    cases e'
  · exact ⟨q, rfl⟩
theorem portP_none {n : List UInt8} (e : portP (spO st sk ov cnt L P) n = none) : ∃ q, getK P n = some q := by
  have e' : (match getK (plP P) n with | none => some (([51, 52, 48, 48, 48] : List UInt8), saysL ([112, 111, 114, 116, 97, 108] : List UInt8) n ([100, 111, 101, 115, 32, 110, 111, 116, 32, 101, 120, 105, 115, 116] : List UInt8)) | some t => abortP t.1 st) = none := e
  rw [getP_pl] at e'
  rcases hg : getK P n with _ | q
  · rw [hg] at e'
    cases e'
  · exact ⟨q, rfl⟩
set_option maxHeartbeats 2000000 in
set_option maxRecDepth 100000 in
theorem bind_v (k : Ss h A st sk ov cnt L P) (lm : LimP (spO st sk ov cnt L P)) (f : Fm) (hf : f.ok h) (hF : ∀ q, f.F q → ¬ Mu A P q) (fl : FmLim f) : CallsH Tryz.prog 47 ⟨[.pointer (some ⟨A.bs, 0, none⟩), .agg ⟨f.cells⟩]⟩ h (Dealt h A P (bindP (spO st sk ov cnt L P) f.p)) := by
  have hok := hf.4
  obtain ⟨⟨e1, _⟩, ⟨e2, _⟩, ⟨e3, _⟩, e4, _⟩ := hf
  obtain ⟨fl1, fl2, fl3, fl4, fl5, _⟩ := fl
  obtain ⟨fk, w, n, p, t, vo, o, vf, fs, vs, rs, vp, ps, mx⟩ := f
  dsimp only at e1 e2 e3 e4 fl1 fl2 fl3 fl4 fl5 hok
  obtain ⟨A1, c1, rfl, _⟩ := e1
  obtain ⟨_, _, rfl, _⟩ := e2
  obtain ⟨_, _, rfl, _⟩ := e3
  obtain ⟨A4, c4, rfl, _⟩ := e4
  rcases he : stmtP (spO st sk ov cnt L P) n with _ | ⟨ea, ec⟩
  · obtain ⟨q, hq⟩ := stmtP_none he
    have hqL := k.sok _ (getK_mem hq)
    have hpe : bindP (spO st sk ov cnt L P) ⟨fk, w, n, p, t, o, ps.map Cel.pl, mx⟩ = if (ps.map Cel.pl).length ≠ q.oids.length then (spO st sk ov cnt L P, [], some (([48, 56, 80, 48, 49] : List UInt8), arityL ((ps.map Cel.pl).length : Int) n (q.oids.length : Int)))
      else if p ≠ [] ∧ (getK (plP P) p).isSome = true then (spO st sk ov cnt L P, [], some (([52, 50, 80, 48, 51] : List UInt8), saysL ([99, 117, 114, 115, 111, 114] : List UInt8) p ([97, 108, 114, 101, 97, 100, 121, 32, 101, 120, 105, 115, 116, 115] : List UInt8)))
      else ({ spO st sk ov cnt L P with P := putK (plP P) p (q.text, q.oids, ps.map Cel.pl, [], false, false) }, [{ kind := 50 }], none) := by
      have hgl : getK (spO st sk ov cnt L P).L n = some (q.text, q.oids) := by show getK (plL L) n = _; rw [getL_pl, hq]; rfl
      unfold bindP
      dsimp only
      rw [he, hgl]
      rfl
    rw [List.length_map, getP_pl] at hpe
    by_cases hlen : ps.length = q.oids.length
    · rw [if_neg (fun e => e hlen)] at hpe
      by_cases htw : p ≠ [] ∧ (getK P p).isSome = true
      · rw [if_pos (by simpa using htw)] at hpe
        obtain ⟨i, hi⟩ := Option.isSome_iff_exists.1 htw.2
        have kp := fun (g : Heap) (k : Ss g A st sk ov cnt L P) (d : PD) => put_tw p d k.se.pb k.se.pm (v := pcE i) (by rw [alook_encK, hi]; rfl) htw.1
        unfold PD.cells at kp
        dsimp only [Fm.cells, Fm.p]
        rw [hpe]
        refine calls [(0, _), (1, _)] Tryz.func47 rfl Tryz.ntmps47 rfl ⟨rfl, rfl, trivial⟩ ?_
        all_goals (refine WC.sr ?_)
        all_goals (refine WL.stepR (okE_box rfl) rfl rfl rfl ?_
                   rintro _ h1 ⟨b3, rfl, hg1, hb1, hx1⟩)
        all_goals (refine Go ?_)
        all_goals (refine WC.sr ?_)
        all_goals (refine Go ?_)
        all_goals (refine WL.ld rfl (by first | exact cell_blk hb1 rfl | assumption | exact cell_blk (by assumption) rfl) rfl rfl rfl ?_)
        all_goals (refine WL.call (vs := [_, _]) rfl (fun a w => Tryz.call83 a w) rfl (stmt_v (k.ext0 hx1) lm n fl1) rfl rfl rfl ?_
                   rintro _ h2 ⟨⟨q', rfl, ⟨B, c, hvo⟩, hq'⟩, hx2⟩
                   rw [he] at hq' ⊢
                   dsimp only [erV]
                   obtain ⟨qt, qv, qo⟩ := q'
                   dsimp only at hvo
                   subst hvo
                   unfold stE)
        all_goals (refine Go ?_)
        all_goals (refine WL.stepR (okE_alloc (fun w => Tryz.zeroValue135 w)) rfl rfl rfl ?_
                   rintro _ h3 ⟨b6, rfl, hg3, hb3, hx3⟩)
        all_goals (refine WL.stepR0 (okE_storeW (fun w => Tryz.sizeOf135 w) rfl rfl rfl hb3 rfl (by simp [Value.oneCell'])) rfl rfl ?_
                   rintro _ h4 ⟨hb4, hx4⟩)
        all_goals (have X14 : Ext No h1 h4 := hx2.trans (hx3.trans' hx4 (fun q hq e => by omega))
                   have X4 := hx1.trans X14
                   have hb14 := X14.obj hb1 nos
                   have k4 := k.ext0 X4
                   have hbs := k4.se.blk
                   have hqq := Option.some.inj (hq.symm.trans (hq' rfl))
                   subst hqq
                   dsimp only at hlen)
        all_goals (refine Go ?_)
        all_goals (refine Gs [(0, _), (3, _), (6, _), (7, _)] ?_)
        all_goals (refine WC.seq ?_)
        all_goals (refine WC.sr ?_)
        all_goals (refine Go ?_)
        all_goals (first | (refine WL.step (ok_neqIh (by kernel_rfl) rfl rfl) rfl rfl rfl ?_) | (refine WL.step (ok_neqIn (by kernel_rfl) rfl rfl) rfl rfl rfl ?_))
        all_goals (refine Gn ?_)
        all_goals (refine goC 1 2 ?_ ?_ <;> first | exact ⟨⟩ | refine Hb.mk fun hb => ?_ | skip)
        all_goals (first | (fail_if_success refine goB 1 ?_) | (
        refine goB 1 ?_
        all_goals (refine WC.sr ?_)
        all_goals (refine Go ?_)
        all_goals (refine Gs [(4, _), (5, _)] ?_)
        all_goals (refine Gt ?_)
        all_goals (exact Dealt.err rfl (.of ((k4.ext0 hx5).ext0 hx6) (Tn.no ((X4.trans hx5).trans hx6))))
        skip))
        all_goals (first | (fail_if_success refine goB 2 ?_) | (
        refine goB 2 ?_
        all_goals (refine WC.skip ?_)
        skip))
        all_goals (refine Gn ?_)
        all_goals (refine WC.seq ?_)
        all_goals (refine WC.seq ?_)
        all_goals (refine WC.drawE fol (by kernel_rfl) ?_)
        all_goals (refine WQ.stepE (ok_fieldAddr rfl Tryz.underlying32 rfl (fun w => Tryz.sizeOf30 w)) rfl rfl rfl ?_)
        all_goals (refine WQ.stepE (ok_load (fun w => Tryz.isAgg30 w) rfl (by first | exact cell_blk hb14 rfl | assumption | exact cell_blk (by assumption) rfl)) rfl rfl rfl ?_)
        all_goals (refine WQ.stepE (ok_lenL rfl Tryz.underlying30 rfl) rfl rfl rfl ?_)
        all_goals (refine WQ.stepE (ok_fieldAddr rfl Tryz.underlying135 rfl (fun w => Tryz.sizeOf29 w)) rfl rfl rfl ?_)
        all_goals (refine WQ.stepE (ok_load (fun w => Tryz.isAgg29 w) rfl (by first | exact cell_blk hb4 rfl | assumption | exact cell_blk (by assumption) rfl)) rfl rfl rfl ?_)
        all_goals (refine WQ.stepE (ok_lenL rfl Tryz.underlying29 rfl) rfl rfl rfl ?_)
        all_goals (refine WQ.stepE (ok_assign rfl) rfl rfl rfl ?_)
        all_goals (refine WQ.stepE (ok_assign rfl) rfl rfl rfl ?_)
        all_goals (refine WQ.nil ?_)
        all_goals (refine Gn ?_)
        all_goals (refine Gs [(0, _), (3, _), (6, _), (8, _), (9, _)] ?_)
        all_goals (refine WC.sr ?_)
        all_goals (refine Go ?_)
        all_goals (refine goC 3 4 ?_ ?_ <;> first | exact ⟨⟩ | refine Hb.mk fun hb => ?_ | skip)
        all_goals (first | (fail_if_success refine goB 4 ?_) | (
        refine goB 4 ?_
        all_goals (refine WC.skip ?_)
        skip))
        all_goals (refine Gn ?_)
        all_goals (refine Gs [(0, _), (3, _), (6, _)] ?_)
        all_goals (refine WC.seq ?_)
        all_goals (refine WC.seq ?_)
        all_goals (refine WC.drawT 10 fol (by kernel_rfl) ?_)
        all_goals (show WS _ _ _ [_, _, _, _, _, _, _, _, _, _] _ _ _)
        all_goals (refine WS.step (ok_move rfl) rfl rfl rfl ?_)
        all_goals (refine WS.step (ok_nilCheck rfl) rfl rfl rfl ?_)
        all_goals (refine WS.step (ok_fieldAddr rfl Tryz.underlying54 rfl (fun w => Tryz.sizeOf51 w)) rfl rfl rfl ?_)
        all_goals (refine WS.step (ok_load (fun w => Tryz.isAgg51 w) rfl (by first | exact cell_blk hbs rfl | assumption | exact cell_blk (by assumption) rfl)) rfl rfl rfl ?_)
        all_goals (refine WS.step (ok_fieldAddr rfl Tryz.underlying32 rfl (fun w => Tryz.sizeOf9 w)) rfl rfl rfl ?_)
        all_goals (refine WS.step (ok_load (fun w => Tryz.isAgg9 w) rfl (by first | exact cell_blk hb14 rfl | assumption | exact cell_blk (by assumption) rfl)) rfl rfl rfl ?_)
        all_goals (refine WS.step (ok_loadN (fun w => Tryz.isAgg135 w) (fun w => Tryz.sizeOf135 w) rfl rfl (by exact At.of_block hb4)) rfl rfl rfl ?_)
        all_goals (refine WS.step (ok_fieldAddr rfl Tryz.underlying32 rfl (fun w => Tryz.sizeOf30 w)) rfl rfl rfl ?_)
        all_goals (refine WS.step (ok_load (fun w => Tryz.isAgg30 w) rfl (by first | exact cell_blk hb14 rfl | assumption | exact cell_blk (by assumption) rfl)) rfl rfl rfl ?_)
        all_goals (refine WS.step (ok_buildF (vs := [_, _]) (cs := [_, _, _, _, _, _]) (fun | [.agg ⟨[a0, a1]⟩, a2] => [a0, a1, a2, (.slice none 0 0), (.bool false), (.bool false)] | _ => []) rfl rfl (by kernel_rfl)) rfl rfl rfl ?_)
        all_goals (refine WS.nil ?_)
        all_goals (show WL _ _ _ [_, _] _ _ _)
        all_goals (refine WL.call (vs := [_, _, _]) rfl (fun a w => Tryz.call85 a w) rfl (kp _ k4 ⟨qt, .slice B qo.length c, qo, .slice A4 ps.length c4, ps, .slice none 0 0, [], false, false⟩) rfl rfl rfl ?_
                   rintro _ h5 ⟨rfl, hx5⟩)
        all_goals (first | (refine WL.step (OkP.nbool_t (by omega) (ok_neq rfl rfl)) rfl rfl rfl ?_) | (refine WL.step (OkP.nbool_f (by omega) (ok_neq rfl rfl)) rfl rfl rfl ?_) | (refine WL.step (ok_neq rfl rfl) rfl rfl rfl ?_))
        all_goals (refine WL.nil ?_)
        all_goals (refine Gn ?_)
        all_goals (refine Gs [(3, _), (46, _)] ?_)
        all_goals (refine goC 5 6 ?_ ?_ <;> first | exact ⟨⟩ | refine Hb.mk fun hb => ?_ | skip)
        all_goals (first | (fail_if_success refine goB 5 ?_) | (
        refine goB 5 ?_
        all_goals (refine WC.sr ?_)
        all_goals (refine Go ?_)
        all_goals (refine WL.ld rfl (by first | exact cell_blk (hx5.obj hb14 nos) rfl | assumption | exact cell_blk (by assumption) rfl) rfl rfl rfl ?_)
        all_goals (refine WL.call (vs := [_]) rfl (fun a w => Tryz.call86 a w) rfl (cursor_any p fl2) rfl rfl rfl ?_
                   rintro _ h6 ⟨rfl, hx6⟩)
        all_goals (refine WL.call (vs := [_, _]) rfl (fun a w => Tryz.call79 a w) rfl (stop_v _ _) rfl rfl rfl ?_
                   rintro _ hq ⟨rfl, hz⟩
                   replace hz := hz.symm
                   subst hz)
        all_goals (refine Go ?_)
        all_goals (refine Gs [(4, _), (5, _)] ?_)
        all_goals (refine Gt ?_)
        all_goals (exact Dealt.err rfl (.of ((k4.ext0 hx5).ext0 hx6) (Tn.no ((X4.trans hx5).trans hx6))))
        skip))
        all_goals (first | (fail_if_success refine goB 6 ?_) | (
        refine goB 6 ?_
        all_goals (refine WC.skip ?_)
        skip))
        all_goals (refine Gn ?_)
        all_goals (refine WC.sr ?_)
        all_goals (fail "no contract for call of remuda/sess.plain at 9.0")
        all_goals (refine Go ?_)
        all_goals (refine Gt ?_)
        all_goals (exact Dealt.err rfl (.of ((k4.ext0 hx5).ext0 hx6) (Tn.no ((X4.trans hx5).trans hx6))))
      · rw [if_neg (by simpa using htw)] at hpe
        have hn2 : p = [] ∨ alook (encK pcE P) p = none := by
          by_cases hp0 : p = []
          · exact .inl hp0
          · refine .inr ?_
            rw [alook_encK]
            rcases hg : getK P p with _ | i
            · rfl
            · exact absurd ⟨hp0, by rw [hg]; rfl⟩ htw
        have kp := fun (g : Heap) (k : Ss g A st sk ov cnt L P) (d : PD) (ok : d.ok g) => put_e p d k.se.pb k.se.pm ok hn2
        unfold PD.cells at kp
        dsimp only [Fm.cells, Fm.p]
        rw [hpe]
        refine calls [(0, _), (1, _)] Tryz.func47 rfl Tryz.ntmps47 rfl ⟨rfl, rfl, trivial⟩ ?_
        all_goals (refine WC.sr ?_)
        all_goals (refine WL.stepR (okE_box rfl) rfl rfl rfl ?_
                   rintro _ h1 ⟨b3, rfl, hg1, hb1, hx1⟩)
        all_goals (refine Go ?_)
        all_goals (refine WC.sr ?_)
        all_goals (refine Go ?_)
        all_goals (refine WL.ld rfl (by first | exact cell_blk hb1 rfl | assumption | exact cell_blk (by assumption) rfl) rfl rfl rfl ?_)
        all_goals (refine WL.call (vs := [_, _]) rfl (fun a w => Tryz.call83 a w) rfl (stmt_v (k.ext0 hx1) lm n fl1) rfl rfl rfl ?_
                   rintro _ h2 ⟨⟨q', rfl, ⟨B, c, hvo⟩, hq'⟩, hx2⟩
                   rw [he] at hq' ⊢
                   dsimp only [erV]
                   obtain ⟨qt, qv, qo⟩ := q'
                   dsimp only at hvo
                   subst hvo
                   unfold stE)
        all_goals (refine Go ?_)
        all_goals (refine WL.stepR (okE_alloc (fun w => Tryz.zeroValue135 w)) rfl rfl rfl ?_
                   rintro _ h3 ⟨b6, rfl, hg3, hb3, hx3⟩)
        all_goals (refine WL.stepR0 (okE_storeW (fun w => Tryz.sizeOf135 w) rfl rfl rfl hb3 rfl (by simp [Value.oneCell'])) rfl rfl ?_
                   rintro _ h4 ⟨hb4, hx4⟩)
        all_goals (have X14 : Ext No h1 h4 := hx2.trans (hx3.trans' hx4 (fun q hq e => by omega))
                   have X4 := hx1.trans X14
                   have hb14 := X14.obj hb1 nos
                   have k4 := k.ext0 X4
                   have hbs := k4.se.blk
                   have hqq := Option.some.inj (hq.symm.trans (hq' rfl))
                   subst hqq
                   dsimp only at hlen hqL
                   have okp : PD.ok h4 ⟨qt, .slice B qo.length c, qo, .slice A4 ps.length c4, ps, .slice none 0 0, [], false, false⟩ := ⟨hqL.1.ext0 X4, by show qo.length * 8 ≤ reachBytes; unfold reachBytes; have := hqL.2.1; omega, hok.ext0 X4, Rd.nil _ _, ⟨by simp, _, _, rfl, by simp [maxLen]⟩, by simp⟩)
        all_goals (refine Go ?_)
        all_goals (refine Gs [(0, _), (3, _), (6, _), (7, _)] ?_)
        all_goals (refine WC.seq ?_)
        all_goals (refine WC.sr ?_)
        all_goals (refine Go ?_)
        all_goals (first | (refine WL.step (ok_neqIh (by kernel_rfl) rfl rfl) rfl rfl rfl ?_) | (refine WL.step (ok_neqIn (by kernel_rfl) rfl rfl) rfl rfl rfl ?_))
        all_goals (refine Gn ?_)
        all_goals (refine goC 1 2 ?_ ?_ <;> first | exact ⟨⟩ | refine Hb.mk fun hb => ?_ | skip)
        all_goals (first | (fail_if_success refine goB 1 ?_) | (
        refine goB 1 ?_
        all_goals (refine WC.sr ?_)
        all_goals (refine Go ?_)
        all_goals (refine Gs [(4, _), (5, _)] ?_)
        all_goals (refine Gt ?_)
        all_goals (exact ⟨_, [bk0 50 0 []], (fun e => absurd rfl e), rfl, .tag hq6 (by have := T5.1.size; omega), rfl, _, _, k5.ext0 hx6, rfl, (putP_pl _ _ _).trans (by rw [show (ItD.mk p5 d5).d.pl = d5.pl from rfl, pl5]; rfl), T5.trans (Tn.no (A := A) hx6)⟩)
        skip))
        all_goals (first | (fail_if_success refine goB 2 ?_) | (
        refine goB 2 ?_
        all_goals (refine WC.skip ?_)
        skip))
        all_goals (refine Gn ?_)
        all_goals (refine WC.seq ?_)
        all_goals (refine WC.seq ?_)
        all_goals (refine WC.drawE fol (by kernel_rfl) ?_)
        all_goals (refine WQ.stepE (ok_fieldAddr rfl Tryz.underlying32 rfl (fun w => Tryz.sizeOf30 w)) rfl rfl rfl ?_)
        all_goals (refine WQ.stepE (ok_load (fun w => Tryz.isAgg30 w) rfl (by first | exact cell_blk hb14 rfl | assumption | exact cell_blk (by assumption) rfl)) rfl rfl rfl ?_)
        all_goals (refine WQ.stepE (ok_lenL rfl Tryz.underlying30 rfl) rfl rfl rfl ?_)
        all_goals (refine WQ.stepE (ok_fieldAddr rfl Tryz.underlying135 rfl (fun w => Tryz.sizeOf29 w)) rfl rfl rfl ?_)
        all_goals (refine WQ.stepE (ok_load (fun w => Tryz.isAgg29 w) rfl (by first | exact cell_blk hb4 rfl | assumption | exact cell_blk (by assumption) rfl)) rfl rfl rfl ?_)
        all_goals (refine WQ.stepE (ok_lenL rfl Tryz.underlying29 rfl) rfl rfl rfl ?_)
        all_goals (refine WQ.stepE (ok_assign rfl) rfl rfl rfl ?_)
        all_goals (refine WQ.stepE (ok_assign rfl) rfl rfl rfl ?_)
        all_goals (refine WQ.nil ?_)
        all_goals (refine Gn ?_)
        all_goals (refine Gs [(0, _), (3, _), (6, _), (8, _), (9, _)] ?_)
        all_goals (refine WC.sr ?_)
        all_goals (refine Go ?_)
        all_goals (refine goC 3 4 ?_ ?_ <;> first | exact ⟨⟩ | refine Hb.mk fun hb => ?_ | skip)
        all_goals (first | (fail_if_success refine goB 4 ?_) | (
        refine goB 4 ?_
        all_goals (refine WC.skip ?_)
        skip))
        all_goals (refine Gn ?_)
        all_goals (refine Gs [(0, _), (3, _), (6, _)] ?_)
        all_goals (refine WC.seq ?_)
        all_goals (refine WC.seq ?_)
        all_goals (refine WC.drawT 10 fol (by kernel_rfl) ?_)
        all_goals (show WS _ _ _ [_, _, _, _, _, _, _, _, _, _] _ _ _)
        all_goals (refine WS.step (ok_move rfl) rfl rfl rfl ?_)
        all_goals (refine WS.step (ok_nilCheck rfl) rfl rfl rfl ?_)
        all_goals (refine WS.step (ok_fieldAddr rfl Tryz.underlying54 rfl (fun w => Tryz.sizeOf51 w)) rfl rfl rfl ?_)
        all_goals (refine WS.step (ok_load (fun w => Tryz.isAgg51 w) rfl (by first | exact cell_blk hbs rfl | assumption | exact cell_blk (by assumption) rfl)) rfl rfl rfl ?_)
        all_goals (refine WS.step (ok_fieldAddr rfl Tryz.underlying32 rfl (fun w => Tryz.sizeOf9 w)) rfl rfl rfl ?_)
        all_goals (refine WS.step (ok_load (fun w => Tryz.isAgg9 w) rfl (by first | exact cell_blk hb14 rfl | assumption | exact cell_blk (by assumption) rfl)) rfl rfl rfl ?_)
        all_goals (refine WS.step (ok_loadN (fun w => Tryz.isAgg135 w) (fun w => Tryz.sizeOf135 w) rfl rfl (by exact At.of_block hb4)) rfl rfl rfl ?_)
        all_goals (refine WS.step (ok_fieldAddr rfl Tryz.underlying32 rfl (fun w => Tryz.sizeOf30 w)) rfl rfl rfl ?_)
        all_goals (refine WS.step (ok_load (fun w => Tryz.isAgg30 w) rfl (by first | exact cell_blk hb14 rfl | assumption | exact cell_blk (by assumption) rfl)) rfl rfl rfl ?_)
        all_goals (refine WS.step (ok_buildF (vs := [_, _]) (cs := [_, _, _, _, _, _]) (fun | [.agg ⟨[a0, a1]⟩, a2] => [a0, a1, a2, (.slice none 0 0), (.bool false), (.bool false)] | _ => []) rfl rfl (by kernel_rfl)) rfl rfl rfl ?_)
        all_goals (refine WS.nil ?_)
        all_goals (show WL _ _ _ [_, _] _ _ _)
        all_goals (refine WL.call (vs := [_, _, _]) rfl (fun a w => Tryz.call85 a w) rfl (kp _ k4 _ okp) rfl rfl rfl ?_
                   rintro _ h5 ⟨rfl, p5, d5, hm5, hb5, ok5, pl5, hg5, hf5, hx5⟩
                   rw [show (Value.pointer (some ⟨p5, 0, none⟩)) = pcE ⟨p5, d5⟩ from rfl, aput_encK] at hm5
                   obtain ⟨k5, t5⟩ := k4.putP hx5 hm5 hb5 ok5 hg5 hf5
                   have T5 := (Tn.no (A := A) (P := P) X4).trans t5)
        all_goals (first | (refine WL.step (OkP.nbool_t (by omega) (ok_neq rfl rfl)) rfl rfl rfl ?_) | (refine WL.step (OkP.nbool_f (by omega) (ok_neq rfl rfl)) rfl rfl rfl ?_) | (refine WL.step (ok_neq rfl rfl) rfl rfl rfl ?_))
        all_goals (refine WL.nil ?_)
        all_goals (refine Gn ?_)
        all_goals (refine Gs [(3, _), (46, _)] ?_)
        all_goals (refine goC 5 6 ?_ ?_ <;> first | exact ⟨⟩ | refine Hb.mk fun hb => ?_ | skip)
        all_goals (first | (fail_if_success refine goB 6 ?_) | (
        refine goB 6 ?_
        all_goals (refine WC.skip ?_)
        skip))
        all_goals (refine Gn ?_)
        all_goals (refine WC.sr ?_)
        all_goals (refine WL.call (vs := [_]) rfl (fun a w => Tryz.call82 a w) rfl (plain_v 50) rfl rfl rfl ?_
                   rintro _ h6 ⟨q6, rfl, hq6, hgq, hx6⟩)
        all_goals (refine Go ?_)
        all_goals (refine Gt ?_)
        all_goals (exact ⟨_, [bk0 50 0 []], (fun e => absurd rfl e), rfl, .tag hq6 (by have := T5.1.size; omega), rfl, _, _, k5.ext0 hx6, rfl, (putP_pl _ _ _).trans (by rw [show (ItD.mk p5 d5).d.pl = d5.pl from rfl, pl5]; rfl), T5.trans (Tn.no (A := A) hx6)⟩)
    · rw [if_pos hlen] at hpe
      dsimp only [Fm.cells, Fm.p]
      rw [hpe]
      refine calls [(0, _), (1, _)] Tryz.func47 rfl Tryz.ntmps47 rfl ⟨rfl, rfl, trivial⟩ ?_
      all_goals (refine WC.sr ?_)
      all_goals (refine WL.stepR (okE_box rfl) rfl rfl rfl ?_
                 rintro _ h1 ⟨b3, rfl, hg1, hb1, hx1⟩)
      all_goals (refine Go ?_)
      all_goals (refine WC.sr ?_)
      all_goals (refine Go ?_)
      all_goals (refine WL.ld rfl (by first | exact cell_blk hb1 rfl | assumption | exact cell_blk (by assumption) rfl) rfl rfl rfl ?_)
      all_goals (refine WL.call (vs := [_, _]) rfl (fun a w => Tryz.call83 a w) rfl (stmt_v (k.ext0 hx1) lm n fl1) rfl rfl rfl ?_
                 rintro _ h2 ⟨⟨q', rfl, ⟨B, c, hvo⟩, hq'⟩, hx2⟩
                 rw [he] at hq' ⊢
                 dsimp only [erV]
                 obtain ⟨qt, qv, qo⟩ := q'
                 dsimp only at hvo
                 subst hvo
                 unfold stE)
      all_goals (refine Go ?_)
      all_goals (refine WL.stepR (okE_alloc (fun w => Tryz.zeroValue135 w)) rfl rfl rfl ?_
                 rintro _ h3 ⟨b6, rfl, hg3, hb3, hx3⟩)
      all_goals (refine WL.stepR0 (okE_storeW (fun w => Tryz.sizeOf135 w) rfl rfl rfl hb3 rfl (by simp [Value.oneCell'])) rfl rfl ?_
                 rintro _ h4 ⟨hb4, hx4⟩)
      all_goals (have X14 : Ext No h1 h4 := hx2.trans (hx3.trans' hx4 (fun q hq e => by omega))
                 have X4 := hx1.trans X14
                 have hb14 := X14.obj hb1 nos
                 have k4 := k.ext0 X4
                 have hbs := k4.se.blk
                 have hqq := Option.some.inj (hq.symm.trans (hq' rfl))
                 subst hqq
                 dsimp only at hlen hqL
                 have hql := hqL.2.1)
      all_goals (refine Go ?_)
      all_goals (refine Gs [(0, _), (3, _), (6, _), (7, _)] ?_)
      all_goals (refine WC.seq ?_)
      all_goals (refine WC.sr ?_)
      all_goals (refine Go ?_)
      all_goals (first | (refine WL.step (ok_neqIh (by kernel_rfl) rfl rfl) rfl rfl rfl ?_) | (refine WL.step (ok_neqIn (by kernel_rfl) rfl rfl) rfl rfl rfl ?_))
      all_goals (refine Gn ?_)
      all_goals (refine goC 1 2 ?_ ?_ <;> first | exact ⟨⟩ | refine Hb.mk fun hb => ?_ | skip)
      all_goals (first | (fail_if_success refine goB 1 ?_) | (
      refine goB 1 ?_
      all_goals (refine WC.sr ?_)
      all_goals (refine Go ?_)
      all_goals (refine Gs [(4, _), (5, _)] ?_)
      all_goals (refine Gt ?_)
      all_goals (exact Dealt.err rfl (.of (k4.ext0 hx6) (Tn.no (X4.trans hx6))))
      skip))
      all_goals (first | (fail_if_success refine goB 2 ?_) | (
      refine goB 2 ?_
      all_goals (refine WC.skip ?_)
      skip))
      all_goals (refine Gn ?_)
      all_goals (refine WC.seq ?_)
      all_goals (refine WC.seq ?_)
      all_goals (refine WC.drawE fol (by kernel_rfl) ?_)
      all_goals (refine WQ.stepE (ok_fieldAddr rfl Tryz.underlying32 rfl (fun w => Tryz.sizeOf30 w)) rfl rfl rfl ?_)
      all_goals (refine WQ.stepE (ok_load (fun w => Tryz.isAgg30 w) rfl (by first | exact cell_blk hb14 rfl | assumption | exact cell_blk (by assumption) rfl)) rfl rfl rfl ?_)
      all_goals (refine WQ.stepE (ok_lenL rfl Tryz.underlying30 rfl) rfl rfl rfl ?_)
      all_goals (refine WQ.stepE (ok_fieldAddr rfl Tryz.underlying135 rfl (fun w => Tryz.sizeOf29 w)) rfl rfl rfl ?_)
      all_goals (refine WQ.stepE (ok_load (fun w => Tryz.isAgg29 w) rfl (by first | exact cell_blk hb4 rfl | assumption | exact cell_blk (by assumption) rfl)) rfl rfl rfl ?_)
      all_goals (refine WQ.stepE (ok_lenL rfl Tryz.underlying29 rfl) rfl rfl rfl ?_)
      all_goals (refine WQ.stepE (ok_assign rfl) rfl rfl rfl ?_)
      all_goals (refine WQ.stepE (ok_assign rfl) rfl rfl rfl ?_)
      all_goals (refine WQ.nil ?_)
      all_goals (refine Gn ?_)
      all_goals (refine Gs [(0, _), (3, _), (6, _), (8, _), (9, _)] ?_)
      all_goals (refine WC.sr ?_)
      all_goals (refine Go ?_)
      all_goals (refine goC 3 4 ?_ ?_ <;> first | exact ⟨⟩ | refine Hb.mk fun hb => ?_ | skip)
      all_goals (first | (fail_if_success refine goB 3 ?_) | (
      refine goB 3 ?_
      all_goals (refine WC.sr ?_)
      all_goals (refine Go ?_)
      all_goals (refine WL.ld rfl (by first | exact cell_blk hb14 rfl | assumption | exact cell_blk (by assumption) rfl) rfl rfl rfl ?_)
      all_goals (refine Go ?_)
      all_goals (refine WL.call (vs := [_, _, _]) rfl (fun a w => Tryz.call84 a w) rfl (arity_any (ps.length : Int) n (qo.length : Int) fl1 (by omega) (by omega)) rfl rfl rfl ?_
                 rintro _ h6 ⟨rfl, hx6⟩)
      all_goals (refine WL.call (vs := [_, _]) rfl (fun a w => Tryz.call79 a w) rfl (stop_v _ _) rfl rfl rfl ?_
                 rintro _ hq ⟨rfl, hz⟩
                 replace hz := hz.symm
                 subst hz)
      all_goals (refine Go ?_)
      all_goals (refine Gs [(4, _), (5, _)] ?_)
      all_goals (refine Gt ?_)
      all_goals (exact Dealt.err rfl (.of (k4.ext0 hx6) (Tn.no (X4.trans hx6))))
      skip))
      all_goals (first | (fail_if_success refine goB 4 ?_) | (
      refine goB 4 ?_
      all_goals (refine WC.skip ?_)
      skip))
      all_goals (refine Gn ?_)
      all_goals (refine Gs [(0, _), (3, _), (6, _)] ?_)
      all_goals (refine WC.seq ?_)
      all_goals (refine WC.seq ?_)
      all_goals (refine WC.drawE fol (by kernel_rfl) ?_)
      all_goals (refine WQ.stepE (ok_move rfl) rfl rfl rfl ?_)
      all_goals (refine WQ.stepE (ok_nilCheck rfl) rfl rfl rfl ?_)
      all_goals (refine WQ.stepE (ok_fieldAddr rfl Tryz.underlying54 rfl (fun w => Tryz.sizeOf51 w)) rfl rfl rfl ?_)
      all_goals (refine WQ.stepE (ok_load (fun w => Tryz.isAgg51 w) rfl (by first | assumption | exact cell_blk (by assumption) rfl)) rfl rfl rfl ?_)
      all_goals (refine WQ.stepE (ok_fieldAddr rfl Tryz.underlying32 rfl (fun w => Tryz.sizeOf9 w)) rfl rfl rfl ?_)
      all_goals (refine WQ.stepE (ok_load (fun w => Tryz.isAgg9 w) rfl (by first | assumption | exact cell_blk (by assumption) rfl)) rfl rfl rfl ?_)
      all_goals (refine WQ.stepE (ok_loadN (fun w => Tryz.isAgg135 w) (fun w => Tryz.sizeOf135 w) rfl rfl (by assumption)) rfl rfl rfl ?_)
      all_goals (refine WQ.stepE (ok_fieldAddr rfl Tryz.underlying32 rfl (fun w => Tryz.sizeOf30 w)) rfl rfl rfl ?_)
      all_goals (refine WQ.stepE (ok_load (fun w => Tryz.isAgg30 w) rfl (by first | assumption | exact cell_blk (by assumption) rfl)) rfl rfl rfl ?_)
      all_goals (refine WQ.stepE (ok_buildF (vs := [_, _]) (cs := [_, _, _, _, _, _]) (fun | [.agg ⟨[a0, a1]⟩, a2] => [a0, a1, a2, (.slice none 0 0), (.bool false), (.bool false)] | _ => []) rfl rfl (by kernel_rfl)) rfl rfl rfl ?_)
      all_goals (fail "no contract for call of (*remuda/portal.Set).Put at 7.10")
      all_goals (first | (refine WQ.stepE (OkP.nbool_t (by omega) (ok_neq rfl rfl)) rfl rfl rfl ?_) | (refine WQ.stepE (OkP.nbool_f (by omega) (ok_neq rfl rfl)) rfl rfl rfl ?_) | (refine WQ.stepE (ok_neq rfl rfl) rfl rfl rfl ?_))
      all_goals (refine WQ.nil ?_)
      all_goals (refine Gn ?_)
      all_goals (refine Gs [(3, _), (46, _)] ?_)
      all_goals (refine goC 5 6 ?_ ?_ <;> first | exact ⟨⟩ | refine Hb.mk fun hb => ?_ | skip)
      all_goals (first | (fail_if_success refine goB 6 ?_) | (
      refine goB 6 ?_
      all_goals (refine WC.skip ?_)
      skip))
      all_goals (refine Gn ?_)
      all_goals (refine WC.sr ?_)
      all_goals (fail "no contract for call of remuda/sess.plain at 9.0")
      all_goals (refine Go ?_)
      all_goals (refine Gt ?_)
      all_goals (exact Dealt.err rfl (.of (k4.ext0 hx6) (Tn.no (X4.trans hx6))))
  · have hpe : bindP (spO st sk ov cnt L P) ⟨fk, w, n, p, t, o, ps.map Cel.pl, mx⟩ = (spO st sk ov cnt L P, [], some (ea, ec)) := by
      unfold bindP
      dsimp only
      rw [he]
    dsimp only [Fm.cells, Fm.p]
    rw [hpe]
    refine calls [(0, _), (1, _)] Tryz.func47 rfl Tryz.ntmps47 rfl ⟨rfl, rfl, trivial⟩ ?_
    all_goals (refine WC.sr ?_)
    all_goals (refine WL.stepR (okE_box rfl) rfl rfl rfl ?_
               rintro _ h1 ⟨b3, rfl, hg1, hb1, hx1⟩)
    all_goals (refine Go ?_)
    all_goals (refine WC.sr ?_)
    all_goals (refine Go ?_)
    all_goals (refine WL.ld rfl (by first | exact cell_blk hb1 rfl | assumption | exact cell_blk (by assumption) rfl) rfl rfl rfl ?_)
    all_goals (refine WL.call (vs := [_, _]) rfl (fun a w => Tryz.call83 a w) rfl (stmt_v (k.ext0 hx1) lm n fl1) rfl rfl rfl ?_
               rintro _ h2 ⟨⟨q', rfl, ⟨B, c, hvo⟩, hq'⟩, hx2⟩
               rw [he] at hq' ⊢
               dsimp only [erV]
               obtain ⟨qt, qv, qo⟩ := q'
               dsimp only at hvo
               subst hvo
               unfold stE)
    all_goals (refine Go ?_)
    all_goals (refine WL.stepR (okE_alloc (fun w => Tryz.zeroValue135 w)) rfl rfl rfl ?_
               rintro _ h3 ⟨b6, rfl, hg3, hb3, hx3⟩)
    all_goals (refine WL.stepR0 (okE_storeW (fun w => Tryz.sizeOf135 w) rfl rfl rfl hb3 rfl (by simp [Value.oneCell'])) rfl rfl ?_
               rintro _ h4 ⟨hb4, hx4⟩)
    all_goals (have X14 : Ext No h1 h4 := hx2.trans (hx3.trans' hx4 (fun q hq e => by omega))
               have X4 := hx1.trans X14
               have k4 := k.ext0 X4)
    all_goals (refine Go ?_)
    all_goals (refine Gs [(0, _), (3, _), (6, _), (7, _)] ?_)
    all_goals (refine WC.seq ?_)
    all_goals (refine WC.sr ?_)
    all_goals (refine Go ?_)
    all_goals (first | (refine WL.step (ok_neqIh (by kernel_rfl) rfl rfl) rfl rfl rfl ?_) | (refine WL.step (ok_neqIn (by kernel_rfl) rfl rfl) rfl rfl rfl ?_))
    all_goals (refine Gn ?_)
    all_goals (refine goC 1 2 ?_ ?_ <;> first | exact ⟨⟩ | refine Hb.mk fun hb => ?_ | skip)
    all_goals (first | (fail_if_success refine goB 1 ?_) | (
    refine goB 1 ?_
    all_goals (refine WC.sr ?_)
    all_goals (refine Go ?_)
    all_goals (refine Gs [(4, _), (5, _)] ?_)
    all_goals (refine Gt ?_)
    all_goals (exact Dealt.err rfl (.of k4 (Tn.no X4)))
    skip))
    all_goals (first | (fail_if_success refine goB 2 ?_) | (
    refine goB 2 ?_
    all_goals (refine WC.skip ?_)
    skip))
    all_goals (refine Gn ?_)
    all_goals (refine WC.seq ?_)
    all_goals (refine WC.seq ?_)
    all_goals (refine WC.drawE fol (by kernel_rfl) ?_)
    all_goals (refine WQ.stepE (ok_fieldAddr rfl Tryz.underlying32 rfl (fun w => Tryz.sizeOf30 w)) rfl rfl rfl ?_)
    all_goals (refine WQ.stepE (ok_load (fun w => Tryz.isAgg30 w) rfl (by first | exact cell_blk hb14 rfl | assumption | exact cell_blk (by assumption) rfl)) rfl rfl rfl ?_)
    all_goals (refine WQ.stepE (ok_lenL rfl Tryz.underlying30 rfl) rfl rfl rfl ?_)
    all_goals (refine WQ.stepE (ok_fieldAddr rfl Tryz.underlying135 rfl (fun w => Tryz.sizeOf29 w)) rfl rfl rfl ?_)
    all_goals (refine WQ.stepE (ok_load (fun w => Tryz.isAgg29 w) rfl (by first | exact cell_blk hb4 rfl | assumption | exact cell_blk (by assumption) rfl)) rfl rfl rfl ?_)
    all_goals (refine WQ.stepE (ok_lenL rfl Tryz.underlying29 rfl) rfl rfl rfl ?_)
    all_goals (refine WQ.stepE (ok_assign rfl) rfl rfl rfl ?_)
    all_goals (refine WQ.stepE (ok_assign rfl) rfl rfl rfl ?_)
    all_goals (refine WQ.nil ?_)
    all_goals (refine Gn ?_)
    all_goals (refine Gs [(0, _), (3, _), (6, _), (8, _), (9, _)] ?_)
    all_goals (refine WC.sr ?_)
    all_goals (refine Go ?_)
    all_goals (refine goC 3 4 ?_ ?_ <;> first | exact ⟨⟩ | refine Hb.mk fun hb => ?_ | skip)
    all_goals (first | (fail_if_success refine goB 4 ?_) | (
    refine goB 4 ?_
    all_goals (refine WC.skip ?_)
    skip))
    all_goals (refine Gn ?_)
    all_goals (refine Gs [(0, _), (3, _), (6, _)] ?_)
    all_goals (refine WC.seq ?_)
    all_goals (refine WC.seq ?_)
    all_goals (refine WC.drawE fol (by kernel_rfl) ?_)
    all_goals (refine WQ.stepE (ok_move rfl) rfl rfl rfl ?_)
    all_goals (refine WQ.stepE (ok_nilCheck rfl) rfl rfl rfl ?_)
    all_goals (refine WQ.stepE (ok_fieldAddr rfl Tryz.underlying54 rfl (fun w => Tryz.sizeOf51 w)) rfl rfl rfl ?_)
    all_goals (refine WQ.stepE (ok_load (fun w => Tryz.isAgg51 w) rfl (by first | assumption | exact cell_blk (by assumption) rfl)) rfl rfl rfl ?_)
    all_goals (refine WQ.stepE (ok_fieldAddr rfl Tryz.underlying32 rfl (fun w => Tryz.sizeOf9 w)) rfl rfl rfl ?_)
    all_goals (refine WQ.stepE (ok_load (fun w => Tryz.isAgg9 w) rfl (by first | assumption | exact cell_blk (by assumption) rfl)) rfl rfl rfl ?_)
    all_goals (refine WQ.stepE (ok_loadN (fun w => Tryz.isAgg135 w) (fun w => Tryz.sizeOf135 w) rfl rfl (by assumption)) rfl rfl rfl ?_)
    all_goals (refine WQ.stepE (ok_fieldAddr rfl Tryz.underlying32 rfl (fun w => Tryz.sizeOf30 w)) rfl rfl rfl ?_)
    all_goals (refine WQ.stepE (ok_load (fun w => Tryz.isAgg30 w) rfl (by first | assumption | exact cell_blk (by assumption) rfl)) rfl rfl rfl ?_)
    all_goals (refine WQ.stepE (ok_buildF (vs := [_, _]) (cs := [_, _, _, _, _, _]) (fun | [.agg ⟨[a0, a1]⟩, a2] => [a0, a1, a2, (.slice none 0 0), (.bool false), (.bool false)] | _ => []) rfl rfl (by kernel_rfl)) rfl rfl rfl ?_)
    all_goals (fail "no contract for call of (*remuda/portal.Set).Put at 7.10")
    all_goals (first | (refine WQ.stepE (OkP.nbool_t (by omega) (ok_neq rfl rfl)) rfl rfl rfl ?_) | (refine WQ.stepE (OkP.nbool_f (by omega) (ok_neq rfl rfl)) rfl rfl rfl ?_) | (refine WQ.stepE (ok_neq rfl rfl) rfl rfl rfl ?_))
    all_goals (refine WQ.nil ?_)
    all_goals (refine Gn ?_)
    all_goals (refine Gs [(3, _), (46, _)] ?_)
    all_goals (refine goC 5 6 ?_ ?_ <;> first | exact ⟨⟩ | refine Hb.mk fun hb => ?_ | skip)
    all_goals (first | (fail_if_success refine goB 6 ?_) | (
    refine goB 6 ?_
    all_goals (refine WC.skip ?_)
    skip))
    all_goals (refine Gn ?_)
    all_goals (refine WC.sr ?_)
    all_goals (fail "no contract for call of remuda/sess.plain at 9.0")
    all_goals (refine Go ?_)
    all_goals (refine Gt ?_)
    all_goals (exact Dealt.err rfl (.of k4 (Tn.no X4)))
end
end Go.Proofs.YtbokngiajfdanaaGreatDoor


/-
  SESSIONS (layer 30), by the code: a D.
-/
namespace Go.Proofs.YtbokngiajfdanaaGreatDoor
open Go Go.RK

theorem colV_cells (l : List (List UInt8)) : l.flatMap colV = (l.map colP).flatMap ColD.cells := by
  rw [List.flatMap_map]
  rfl
set_option maxHeartbeats 2000000 in
set_option maxRecDepth 100000 in
/-- What tells of columns. -/
theorem descr_v {h : Heap} (n : Int) : CallsH Tryz.prog 97 ⟨[In n]⟩ h fun u h' => ∃ b : Bk, u = .agg ⟨b.cells⟩ ∧ b.ok h' ∧ b.p = descP n ∧ (∀ q, b.F q → h.size ≤ q) ∧ Ext No h h' := by
  refine calls [(0, _)] Tryz.func97 rfl Tryz.ntmps97 rfl ⟨rfl, trivial⟩ ?_
  all_goals (refine WC.sr ?_)
  all_goals (refine WL.stepR (okE_alloc (fun w => Tryz.zeroValue42 w)) rfl rfl rfl ?_
             rintro _ h1 ⟨b1, rfl, hg1, hb1, hx1⟩)
  all_goals (refine Gn ?_)
  all_goals (refine WC.sr ?_)
  all_goals (refine Go ?_)
  all_goals (refine WL.call (vs := [_]) rfl (fun a w => Tryz.call152 a w) rfl (cols_cols n) rfl rfl rfl ?_
             rintro v2 h2 ⟨ho2, hx2, hf2⟩
             obtain ⟨A2, c2, rfl, _⟩ := ho2.slice)
  all_goals (refine WL.step (ok_buildF (vs := [_, _]) (cs := [_, _, _, _, _, _, _, _, _, _, _]) (fun | [a0, a8] => [a0, (.int .u8 0), (St []), (St []), (St []), (.int .i64 0), (.int .i64 0), (.slice none 0 0), a8, (.slice none 0 0), (.slice none 0 0)] | _ => []) rfl rfl (by kernel_rfl)) rfl rfl rfl ?_)
  all_goals (refine WL.stepR0 (okE_storeW (fun w => Tryz.sizeOf42 w) rfl rfl rfl (hx2.obj hb1 nos) rfl (by simp [Value.oneCell'])) rfl rfl ?_
             rintro _ h3 ⟨hb3, hx3⟩)
  all_goals (refine Gn ?_)
  all_goals (refine Gs [(2, _)] ?_)
  all_goals (refine WC.ret ?_)
  all_goals (repeat' (with_reducible first | refine thenP_r ?_ | refine blockP_r ?_))
  all_goals (refine retP_1 _ ⟨⟨_, rfl, ld_blk (fun w => Tryz.isAgg42 w) (fun w => Tryz.sizeOf42 w) hb3 rfl⟩, trivial⟩ ?_)
  all_goals (have hn := held_le n
             have hl : ((colsL (heldN n)).map colP).length = heldN n := by rw [List.length_map, colsL_len]
             have ho3 := ho2.ext hx3 (fun q hq e => by have := hf2 q hq; have := lt_of_some hb1; omega)
             rw [colV_cells] at ho3
             refine ⟨⟨84, 0, [], [], [], 0, 0, nS, [], .slice A2 (heldN n) c2, (colsL (heldN n)).map colP, nS, [], nS, []⟩, rfl, ⟨⟨Rd.nil _ _, by simp⟩, ⟨by rw [hl]; exact ho3.rd, by rw [hl]; unfold maxLen; omega⟩, cels_zero _ _, ⟨Rd.nil _ _, by simp⟩⟩, rfl, fun q hq => ?_, (hx1.trans hx2).trans' hx3 (fun q hq e => by omega)⟩
             rcases hq with ⟨e, _⟩ | ⟨_, e⟩ | e | ⟨e, _⟩
             · exact absurd e (Nat.lt_irrefl 0)
             · have := hf2 q e; have := hx1.size; omega
             · exact (celsF_nil rfl e).elim
             · exact absurd e (Nat.lt_irrefl 0))
set_option maxHeartbeats 2000000 in
set_option maxRecDepth 100000 in
theorem shape_v {h : Heap} (t : List UInt8) (A : Option Addr) (o : List Int) (c : Nat) (ht : t.length ≤ 100000) : CallsH Tryz.prog 87 ⟨[.agg ⟨[St t, .slice A o.length c]⟩]⟩ h fun u h' => ∃ b : Bk, u = .agg ⟨b.cells⟩ ∧ b.ok h' ∧ b.p = shapeP (t, o) ∧ (∀ q, b.F q → h.size ≤ q) ∧ Ext No h h' := by
  have kp := fun h' => sql_v (h := h') t (by omega)
  have kr := fun h' => rowsD_v (h := h') (verbP t)
  have kc := fun h' => columns_v (h := h') (verbP t) o.length
  unfold shapeP
  dsimp only
  unfold VeD.cells veC at kp kr kc
  cases hr : rowsB (verbP t)
  all_goals
    rw [hr] at kr
    refine calls [(0, _)] Tryz.func87 rfl Tryz.ntmps87 rfl ⟨rfl, trivial⟩ ?_
    all_goals (refine WC.sr ?_)
    all_goals (refine WL.stepR (okE_box rfl) rfl rfl rfl ?_
               rintro _ h1 ⟨b1, rfl, hg1, hb1, hx1⟩)
    all_goals (refine WL.stepR (okE_alloc (fun w => Tryz.zeroValue42 w)) rfl rfl rfl ?_
               rintro _ h2 ⟨b2, rfl, hg2, hb2, hx2⟩)
    all_goals (have hb12 := hx2.obj hb1 nos
               have l2 := lt_of_some hb2)
    all_goals (refine Gn ?_)
    all_goals (refine WC.sr ?_)
    all_goals (refine Go ?_)
    all_goals (refine WL.ld rfl (by first | exact cell_blk hb12 rfl | assumption | exact cell_blk (by assumption) rfl) rfl rfl rfl ?_)
    all_goals (refine WL.call (vs := [_]) rfl (fun a w => Tryz.call89 a w) rfl (kp _) rfl rfl rfl ?_
               rintro _ h3 ⟨rfl, hx3⟩)
    all_goals (refine WL.stepR (okE_alloc (fun w => Tryz.zeroValue152 w)) rfl rfl rfl ?_
               rintro _ h4 ⟨b4, rfl, hg4, hb4, hx4⟩)
    all_goals (refine WL.stepR0 (okE_storeW (fun w => Tryz.sizeOf152 w) rfl rfl rfl hb4 rfl (by simp [Value.oneCell'])) rfl rfl ?_
               rintro _ h5 ⟨hb5, hx5⟩)
    all_goals (have X25 : Ext No h2 h5 := hx3.trans (hx4.trans' hx5 (fun q hq e => by omega)))
    all_goals (refine Gn ?_)
    all_goals (refine Gs [(1, _), (2, _), (3, _)] ?_)
    all_goals (refine WC.seq ?_)
    all_goals (refine WC.sr ?_)
    all_goals (refine WL.step (ok_loadN (fun w => Tryz.isAgg152 w) (fun w => Tryz.sizeOf152 w) rfl rfl (by exact At.of_block hb5)) rfl rfl rfl ?_)
    all_goals (refine WL.call (vs := [_]) rfl (fun a w => Tryz.call90 a w) rfl (kr _) rfl rfl rfl ?_
               rintro _ h6 ⟨rfl, hx6⟩)
    all_goals (have X26 := X25.trans hx6
               have hb56 := hx6.obj hb5 nos)
    all_goals (refine Go ?_)
    all_goals (refine goC 1 2 ?_ ?_ <;> first | exact ⟨⟩ | refine Hb.mk fun hb => ?_ | skip)
    all_goals (first | (fail_if_success refine goB 1 ?_) | (
    refine goB 1 ?_
    all_goals (refine WC.sr ?_)
    all_goals (refine WL.step (ok_buildF (vs := [_]) (cs := [_, _, _, _, _, _, _, _, _, _, _]) (fun | [a0] => [a0, (.int .u8 0), (St []), (St []), (St []), (.int .i64 0), (.int .i64 0), (.slice none 0 0), (.slice none 0 0), (.slice none 0 0), (.slice none 0 0)] | _ => []) rfl rfl (by kernel_rfl)) rfl rfl rfl ?_)
    all_goals (refine WL.stepR0 (okE_storeW (fun w => Tryz.sizeOf42 w) rfl rfl rfl (X26.obj hb2 nos) rfl (by simp [Value.oneCell'])) rfl rfl ?_
               rintro _ h7 ⟨hb7, hx7⟩)
    all_goals (refine Gn ?_)
    all_goals (refine Gs [(2, _)] ?_)
    all_goals (refine WC.ret ?_)
    all_goals (repeat' (with_reducible first | refine thenP_r ?_ | refine blockP_r ?_))
    all_goals (refine retP_1 _ ⟨⟨_, rfl, ld_blk (fun w => Tryz.isAgg42 w) (fun w => Tryz.sizeOf42 w) (by first | exact hb7 | exact hb10) rfl⟩, trivial⟩ ?_)
    all_goals (first
                | exact ⟨bk0 110 0 [], rfl, bk0_ok _ _ _ _, rfl, fun q e => (bk0_F e).elim, ((hx1.trans hx2).trans X26).trans' hx7 (fun q hq e => by have := hx1.size; omega)⟩
                | exact ⟨b9, rfl, ok9.ext hx10 (fun q hq e => by have := f9 q hq; have := X26.size; have := hx8.size; omega), p9, fun q hq => by have := f9 q hq; have := X26.size; have := hx8.size; have := hx1.size; have := hx2.size; omega, ((hx1.trans hx2).trans X29).trans' hx10 (fun q hq e => by have := hx1.size; omega)⟩)
    skip))
    all_goals (first | (fail_if_success refine goB 2 ?_) | (
    refine goB 2 ?_
    all_goals (refine WC.skip ?_)
    skip))
    all_goals (refine Gn ?_)
    all_goals (refine WC.sr ?_)
    all_goals (refine WL.step (ok_loadN (fun w => Tryz.isAgg152 w) (fun w => Tryz.sizeOf152 w) rfl rfl (by exact At.of_block hb56)) rfl rfl rfl ?_)
    all_goals (refine Go ?_)
    all_goals (refine WL.ld rfl (by first | exact cell_blk (X26.obj hb12 nos) rfl | assumption | exact cell_blk (by assumption) rfl) rfl rfl rfl ?_)
    all_goals (refine Go ?_)
    all_goals (refine WL.call (vs := [_, _]) rfl (fun a w => Tryz.call98 a w) rfl (kc _) rfl rfl rfl ?_
               rintro _ h8 ⟨rfl, hx8⟩)
    all_goals (refine WL.call (vs := [_]) rfl (fun a w => Tryz.call97 a w) rfl (descr_v _) rfl rfl rfl ?_
               rintro _ h9 ⟨b9, rfl, ok9, p9, f9, hx9⟩)
    all_goals (have X29 := (X26.trans hx8).trans hx9)
    all_goals (refine WL.stepR0 (okE_storeW (fun w => Tryz.sizeOf42 w) rfl rfl rfl (X29.obj hb2 nos) rfl ok9.one) rfl rfl ?_
               rintro _ h10 ⟨hb10, hx10⟩)
    all_goals (refine Gn ?_)
    all_goals (refine Gs [(2, _)] ?_)
    all_goals (refine WC.ret ?_)
    all_goals (repeat' (with_reducible first | refine thenP_r ?_ | refine blockP_r ?_))
    all_goals (refine retP_1 _ ⟨⟨_, rfl, ld_blk (fun w => Tryz.isAgg42 w) (fun w => Tryz.sizeOf42 w) (by first | exact hb7 | exact hb10) rfl⟩, trivial⟩ ?_)
    all_goals (first
                | exact ⟨bk0 110 0 [], rfl, bk0_ok _ _ _ _, rfl, fun q e => (bk0_F e).elim, ((hx1.trans hx2).trans X26).trans' hx7 (fun q hq e => by have := hx1.size; omega)⟩
                | exact ⟨b9, rfl, ok9.ext hx10 (fun q hq e => by have := f9 q hq; have := X26.size; have := hx8.size; omega), p9, fun q hq => by have := f9 q hq; have := X26.size; have := hx8.size; have := hx1.size; have := hx2.size; omega, ((hx1.trans hx2).trans X29).trans' hx10 (fun q hq e => by have := hx1.size; omega)⟩)
section
variable {h h' : Heap} {A : Ad} {st : Int} {sk ov : Bool} {cnt : Int} {L : List (List UInt8 × StD)} {P : List (List UInt8 × ItD)}
/-- A reply in a box, as the only one. -/
theorem Outs.of {h0 h : Heap} {q : Nat} {b : Bk} (ok : b.ok h) (hF : ∀ q, b.F q → h0.size ≤ q) {h1 : Heap} (x : Ext No h h1) (hq : h1[q]? = some (.cells ⟨b.cells⟩ 42 (0, 0))) (hg : h.size ≤ q) (hs : h0.size ≤ h.size) : Outs h0 h1 (.slice (some ⟨q, 0, none⟩) 1 1) [b] := .one hq (ok.ext x fun _ _ => nos) (by omega) fun z hz => ⟨hF z hz, by have := ok.lt hz; omega⟩
theorem Outs.two {h0 h : Heap} {q : Nat} {b c : Bk} (hq : h[q]? = some (.cells ⟨b.cells ++ c.cells⟩ 42 (0, 0))) (okb : b.ok h) (okc : c.ok h) (hg : h0.size ≤ q) (fb : ∀ z, b.F z → h0.size ≤ z ∧ z < q) (fc : ∀ z, c.F z → h0.size ≤ z ∧ z < q) : Outs h0 h (.slice (some ⟨q, 0, none⟩) 2 2) [b, c] :=
  ⟨by simpa using own_blk hq (len := 2) rfl (by simp [maxLen]), by simpa using ⟨okb, okc⟩, fun z hz => by simp [Value.ownBlock] at hz; omega, fun x hx z hz => by rcases List.mem_cons.1 hx with rfl | hx; exact (fb z hz).1; obtain rfl := List.mem_singleton.1 hx; exact (fc z hz).1, fun x hx z hz e => by
    simp only [Value.ownBlock, Option.some.injEq] at e
    rcases List.mem_cons.1 hx with rfl | hx
    · have := (fb z hz).2; omega
    · obtain rfl := List.mem_singleton.1 hx
      have := (fc z hz).2; omega⟩
def bkT (v : Value) (o : List Int) : Bk := ⟨116, 0, [], [], [], 0, 0, v, o, nS, [], nS, [], nS, []⟩
theorem bkT_ok {h : Heap} {v : Value} {o : List Int} (hr : Rd h v 1 o.length (ints o)) (hl : o.length ≤ 20000) : (bkT v o).ok h := ⟨⟨hr, by show o.length ≤ maxLen; unfold maxLen; omega⟩, ⟨Rd.nil _ _, by simp [bkT]⟩, cels_zero _ _, ⟨Rd.nil _ _, by simp [bkT]⟩⟩
theorem bkT_F {v : Value} {o : List Int} {q : Nat} (hq : (bkT v o).F q) : v.ownBlock = some q := by
  rcases hq with ⟨_, e⟩ | ⟨e, _⟩ | e | ⟨e, _⟩
  · exact e
  · exact absurd e (Nat.lt_irrefl 0)
  · exact (celsF_nil rfl e).elim
  · exact absurd e (Nat.lt_irrefl 0)
set_option maxHeartbeats 2000000 in
set_option maxRecDepth 100000 in
theorem describe_v (k : Ss h A st sk ov cnt L P) (lm : LimP (spO st sk ov cnt L P)) (f : Fm) (hf : f.ok h) (fl : FmLim f) : CallsH Tryz.prog 48 ⟨[.pointer (some ⟨A.bs, 0, none⟩), .agg ⟨f.cells⟩]⟩ h (Dealt h A P (describeP (spO st sk ov cnt L P) f.p)) := by
  have hd1 := fun (e : f.what = 83) => show describeP (spO st sk ov cnt L P) f.p = _ from if_pos e
  have hd2 := fun (e : ¬ f.what = 83) => show describeP (spO st sk ov cnt L P) f.p = _ from if_neg e
  obtain ⟨⟨e1, _⟩, ⟨e2, _⟩, ⟨e3, _⟩, e4, _⟩ := hf
  obtain ⟨fl1, fl2, fl3, fl4, fl5, _⟩ := fl
  obtain ⟨fk, w, n, p, t, vo, o, vf, fs, vs, rs, vp, ps, mx⟩ := f
  dsimp only at e1 e2 e3 e4 fl1 fl2 fl3 fl4 fl5
  obtain ⟨A1, c1, rfl, _⟩ := e1
  obtain ⟨_, _, rfl, _⟩ := e2
  obtain ⟨_, _, rfl, _⟩ := e3
  obtain ⟨A4, c4, rfl, _⟩ := e4
  by_cases hw : w = 83
  · rw [hd1 hw]
    dsimp only [Fm.cells, Fm.p]
    rcases he : stmtP (spO st sk ov cnt L P) n with _ | ⟨ea, ec⟩
    · obtain ⟨q, hq⟩ := stmtP_none he
      have hqL := k.sok _ (getK_mem hq)
      have htl := lm.tl _ (getK_mem hq)
      have hgl : getK (spO st sk ov cnt L P).L n = some (q.text, q.oids) := by show getK (plL L) n = _; rw [getL_pl, hq]; rfl
      rw [hgl]
      dsimp only at htl hqL ⊢
      have hql := hqL.2.1
      refine calls [(0, _), (1, _)] Tryz.func48 rfl Tryz.ntmps48 rfl ⟨rfl, rfl, trivial⟩ ?_
      all_goals (refine WC.sr ?_)
      all_goals (refine WL.stepR (okE_box rfl) rfl rfl rfl ?_
                 rintro _ h1 ⟨b3, rfl, hg1, hb1, hx1⟩)
      all_goals (refine Go ?_)
      all_goals (refine WC.seq ?_)
      all_goals (refine WC.sr ?_)
      all_goals (refine Go ?_)
      all_goals (refine WL.ld rfl (by first | exact cell_blk hb1 rfl | assumption | exact cell_blk (by assumption) rfl) rfl rfl rfl ?_)
      all_goals (refine Go ?_)
      all_goals (refine Gs [(0, _), (3, _), (12, _)] ?_)
      all_goals (refine goC 1 2 ?_ ?_ <;> first | exact ⟨⟩ | refine Hb.mk fun hb => ?_ | skip)
      all_goals (first | (fail_if_success refine goB 1 ?_) | (
      refine goB 1 ?_
      all_goals (refine WC.sr ?_)
      all_goals (refine Go ?_)
      all_goals (refine WL.ld rfl (by first | exact cell_blk hb1 rfl | assumption | exact cell_blk (by assumption) rfl) rfl rfl rfl ?_)
      all_goals (refine WL.call (vs := [_, _]) rfl (fun a w => Tryz.call83 a w) rfl (stmt_v (k.ext0 hx1) lm n fl1) rfl rfl rfl ?_
                 rintro _ h2 ⟨⟨q', rfl, ⟨B, c, hvo⟩, hq'⟩, hx2⟩
                 rw [he] at hq' ⊢
                 have hqq := Option.some.inj (hq.symm.trans (hq' rfl))
                 subst hqq
                 obtain ⟨qt, qv, qo⟩ := q
                 dsimp only [erV] at hvo hqL htl hql ⊢
                 subst hvo
                 unfold stE)
      all_goals (refine Go ?_)
      all_goals (refine WL.stepR (okE_alloc (fun w => Tryz.zeroValue135 w)) rfl rfl rfl ?_
                 rintro _ h3 ⟨b6, rfl, hg3, hb3, hx3⟩)
      all_goals (refine WL.stepR0 (okE_storeW (fun w => Tryz.sizeOf135 w) rfl rfl rfl hb3 rfl (by simp [Value.oneCell'])) rfl rfl ?_
                 rintro _ h4 ⟨hb4, hx4⟩)
      all_goals (have X14 : Ext No h1 h4 := hx2.trans (hx3.trans' hx4 (fun q hq e => by omega))
                 have X4 := hx1.trans X14
                 have k4 := k.ext0 X4
                 have hr4 := hqL.1.ext0 X4)
      all_goals (refine Go ?_)
      all_goals (refine Gs [(6, _), (7, _)] ?_)
      all_goals (refine WC.seq ?_)
      all_goals (refine WC.sr ?_)
      all_goals (refine Go ?_)
      all_goals (first | (refine WL.step (ok_neqIh (by kernel_rfl) rfl rfl) rfl rfl rfl ?_) | (refine WL.step (ok_neqIn (by kernel_rfl) rfl rfl) rfl rfl rfl ?_))
      all_goals (refine Gn ?_)
      all_goals (refine goC 3 4 ?_ ?_ <;> first | exact ⟨⟩ | refine Hb.mk fun hb => ?_ | skip)
      all_goals (first | (fail_if_success refine goB 3 ?_) | (
      refine goB 3 ?_
      all_goals (refine WC.sr ?_)
      all_goals (refine Go ?_)
      all_goals (refine Gs [(4, _), (5, _)] ?_)
      all_goals (refine Gt ?_)
      all_goals (have s4 := X4.size
                 have s5 := hx5.size
                 have s6 := hx6.size
                 have ho7 := (ho5.ext hx6 (fun _ _ => nos)).ext hx7 (fun _ _ => nos)
                 exact ⟨_, [bkT (.slice A5 qo.length c5) qo, b6'], (fun e => absurd rfl e), rfl, .two hb7 (bkT_ok ho7.rd hql) (ok6.ext hx7 (fun _ _ => nos)) (by omega) (fun z hz => by have := hf5 z (bkT_F hz); have := ho5.lt (bkT_F hz); omega) (fun z hz => by have := f6 z hz; have := ok6.lt hz; omega), by rw [List.map_cons, List.map_singleton, p6]; rfl, .of (((k4.ext0 hx5).ext0 hx6).ext0 hx7) (Tn.no (((X4.trans hx5).trans hx6).trans hx7))⟩)
      skip))
      all_goals (first | (fail_if_success refine goB 4 ?_) | (
      refine goB 4 ?_
      all_goals (refine WC.skip ?_)
      skip))
      all_goals (refine Gn ?_)
      all_goals (refine WC.seq ?_)
      all_goals (refine WC.drawH (fun h' => Ext No h4 h') 9 9 rfl fol ?_)
      all_goals (refine WH.tk 0 rfl (fun hq hC => ok_fieldAddr rfl Tryz.underlying135 rfl (fun w => Tryz.sizeOf29 w)) rfl rfl rfl ?_)
      all_goals (refine WH.tk 1 rfl (fun hq hC => ok_load (fun w => Tryz.isAgg29 w) rfl (by first | exact hC.cell (by first | exact cell_blk hb4 rfl | assumption | exact cell_blk (by assumption) rfl) nos)) rfl rfl rfl ?_)
      all_goals (refine WH.tk 4 rfl (fun hq hC => ok_loadN (fun w => Tryz.isAgg135 w) (fun w => Tryz.sizeOf135 w) rfl rfl (by exact (At.of_block hb4).ext hC nos)) rfl rfl rfl ?_)
      all_goals (refine WH.one 2 (by kernel_rfl) ?_)
      all_goals (refine Comes1.call (vs := [_]) rfl rfl (fun a w => Tryz.call81 a w) rfl (clone_ints qo (hr4) (by unfold reachBytes; omega)) rfl rfl rfl ?_ (fun _ => by kernel_rfl)
                 rintro v5 h5 ⟨ho5, hx5, hf5⟩
                 obtain ⟨A5, c5, rfl, _⟩ := ho5.slice)
      all_goals (refine ⟨fun _ => hx5, ?_⟩)
      all_goals (refine WH.tk 3 rfl (fun hq hC => ok_buildF (vs := [_, _]) (cs := [_, _, _, _, _, _, _, _, _, _, _]) (fun | [a0, a7] => [a0, (.int .u8 0), (St []), (St []), (St []), (.int .i64 0), (.int .i64 0), a7, (.slice none 0 0), (.slice none 0 0), (.slice none 0 0)] | _ => []) rfl rfl (by kernel_rfl)) rfl rfl rfl ?_)
      all_goals (refine WH.one 5 (by kernel_rfl) ?_)
      all_goals (refine Comes1.call (vs := [_]) rfl rfl (fun a w => Tryz.call87 a w) rfl (shape_v qt B qo c htl) rfl rfl rfl ?_ (fun _ => by kernel_rfl)
                 rintro _ h6 ⟨b6', rfl, ok6, p6, f6, hx6⟩)
      all_goals (refine ⟨fun _ => hx5.trans hx6, ?_⟩)
      all_goals (refine WH.one 6 (by kernel_rfl) ?_)
      all_goals (refine Comes1.run rfl (okE_buildSlice (vs := [_, _]) (cs := [_, _, _, _, _, _, _, _, _, _, _, _, _, _, _, _, _, _, _, _, _, _]) (fun | [.agg ⟨[a0, a1, a2, a3, a4, a5, a6, a7, a8, a9, a10]⟩, .agg ⟨[a11, a12, a13, a14, a15, a16, a17, a18, a19, a20, a21]⟩] => [a0, a1, a2, a3, a4, a5, a6, a7, a8, a9, a10, a11, a12, a13, a14, a15, a16, a17, a18, a19, a20, a21] | _ => []) Tryz.underlying33 rfl rfl (by kernel_rfl)) rfl rfl rfl ?_ (fun _ => by kernel_rfl)
                 rintro _ h7 ⟨b7, rfl, hg7, hb7, hx7⟩)
      all_goals (refine ⟨fun _ => (hx5.trans hx6).trans hx7, ?_⟩)
      all_goals (have hC7 : Ext No h4 h7 := (hx5.trans hx6).trans hx7)
      all_goals (refine WH.tk 7 rfl (fun hq hC => ok_assign rfl) rfl rfl rfl ?_)
      all_goals (refine WH.tk 8 rfl (fun hq hC => ok_assign rfl) rfl rfl rfl ?_)
      all_goals (refine WH.done (by kernel_rfl) ?_)
      all_goals (refine Gn ?_)
      all_goals (refine Gs [(4, _), (5, _)] ?_)
      all_goals (refine Gt ?_)
      all_goals (have s4 := X4.size
                 have s5 := hx5.size
                 have s6 := hx6.size
                 have ho7 := (ho5.ext hx6 (fun _ _ => nos)).ext hx7 (fun _ _ => nos)
                 exact ⟨_, [bkT (.slice A5 qo.length c5) qo, b6'], (fun e => absurd rfl e), rfl, .two hb7 (bkT_ok ho7.rd hql) (ok6.ext hx7 (fun _ _ => nos)) (by omega) (fun z hz => by have := hf5 z (bkT_F hz); have := ho5.lt (bkT_F hz); omega) (fun z hz => by have := f6 z hz; have := ok6.lt hz; omega), by rw [List.map_cons, List.map_singleton, p6]; rfl, .of (((k4.ext0 hx5).ext0 hx6).ext0 hx7) (Tn.no (((X4.trans hx5).trans hx6).trans hx7))⟩)
      skip))
      all_goals (first | (fail_if_success refine goB 2 ?_) | (
      refine goB 2 ?_
      all_goals (refine WC.skip ?_)
      skip))
      all_goals (refine Gn ?_)
      all_goals (refine WC.sr ?_)
      all_goals (refine Go ?_)
      all_goals (refine Ld ?_)
      all_goals (fail "no contract for call of (*remuda/sess.Session).portal at 6.3")
      all_goals (refine Go ?_)
      all_goals (refine WL.stepR (okE_alloc (fun w => Tryz.zeroValue147 w)) rfl rfl rfl ?_
                 rintro _ h1 ⟨b1, rfl, hg1, hb1, hx1⟩)
      all_goals (refine WL.stepR0 (okE_storeW (fun w => Tryz.sizeOf147 w) rfl rfl rfl (by assumption) rfl (by simp [Value.oneCell'])) rfl rfl ?_
                 rintro _ h1 ⟨hb1, hx1⟩)
      all_goals (refine Go ?_)
      all_goals (refine Gs [(8, _), (9, _)] ?_)
      all_goals (refine WC.seq ?_)
      all_goals (refine WC.sr ?_)
      all_goals (refine Go ?_)
      all_goals (first | (refine WL.step (ok_neqIh (by kernel_rfl) rfl rfl) rfl rfl rfl ?_) | (refine WL.step (ok_neqIn (by kernel_rfl) rfl rfl) rfl rfl rfl ?_))
      all_goals (refine Gn ?_)
      all_goals (refine goC 5 6 ?_ ?_ <;> first | exact ⟨⟩ | refine Hb.mk fun hb => ?_ | skip)
      all_goals (first | (fail_if_success refine goB 5 ?_) | (
      refine goB 5 ?_
      all_goals (refine WC.sr ?_)
      all_goals (refine Go ?_)
      all_goals (refine Gs [(4, _), (5, _)] ?_)
      all_goals (refine Gt ?_)
      all_goals (have s4 := X4.size
                 have s5 := hx5.size
                 have s6 := hx6.size
                 have ho7 := (ho5.ext hx6 (fun _ _ => nos)).ext hx7 (fun _ _ => nos)
                 exact ⟨_, [bkT (.slice A5 qo.length c5) qo, b6'], (fun e => absurd rfl e), rfl, .two hb7 (bkT_ok ho7.rd hql) (ok6.ext hx7 (fun _ _ => nos)) (by omega) (fun z hz => by have := hf5 z (bkT_F hz); have := ho5.lt (bkT_F hz); omega) (fun z hz => by have := f6 z hz; have := ok6.lt hz; omega), by rw [List.map_cons, List.map_singleton, p6]; rfl, .of (((k4.ext0 hx5).ext0 hx6).ext0 hx7) (Tn.no (((X4.trans hx5).trans hx6).trans hx7))⟩)
      skip))
      all_goals (first | (fail_if_success refine goB 6 ?_) | (
      refine goB 6 ?_
      all_goals (refine WC.skip ?_)
      skip))
      all_goals (refine Gn ?_)
      all_goals (refine WC.sr ?_)
      all_goals (refine Go ?_)
      all_goals (refine WL.step (ok_loadN (fun w => Tryz.isAgg135 w) (fun w => Tryz.sizeOf135 w) rfl rfl (by assumption)) rfl rfl rfl ?_)
      all_goals (fail "no contract for call of remuda/sess.shape at 9.2")
      all_goals (refine WL.stepR (okE_buildSlice (vs := [_]) (cs := [_, _, _, _, _, _, _, _, _, _, _]) (fun | [.agg ⟨[a0, a1, a2, a3, a4, a5, a6, a7, a8, a9, a10]⟩] => [a0, a1, a2, a3, a4, a5, a6, a7, a8, a9, a10] | _ => []) Tryz.underlying33 rfl rfl (by kernel_rfl)) rfl rfl rfl ?_
                 rintro _ h1 ⟨b1, rfl, hg1, hb1, hx1⟩)
      all_goals (refine Go ?_)
      all_goals (refine Gs [(4, _), (5, _)] ?_)
      all_goals (refine Gt ?_)
      all_goals (have s4 := X4.size
                 have s5 := hx5.size
                 have s6 := hx6.size
                 have ho7 := (ho5.ext hx6 (fun _ _ => nos)).ext hx7 (fun _ _ => nos)
                 exact ⟨_, [bkT (.slice A5 qo.length c5) qo, b6'], (fun e => absurd rfl e), rfl, .two hb7 (bkT_ok ho7.rd hql) (ok6.ext hx7 (fun _ _ => nos)) (by omega) (fun z hz => by have := hf5 z (bkT_F hz); have := ho5.lt (bkT_F hz); omega) (fun z hz => by have := f6 z hz; have := ok6.lt hz; omega), by rw [List.map_cons, List.map_singleton, p6]; rfl, .of (((k4.ext0 hx5).ext0 hx6).ext0 hx7) (Tn.no (((X4.trans hx5).trans hx6).trans hx7))⟩)
    · dsimp only
      refine calls [(0, _), (1, _)] Tryz.func48 rfl Tryz.ntmps48 rfl ⟨rfl, rfl, trivial⟩ ?_
      all_goals (refine WC.sr ?_)
      all_goals (refine WL.stepR (okE_box rfl) rfl rfl rfl ?_
                 rintro _ h1 ⟨b3, rfl, hg1, hb1, hx1⟩)
      all_goals (refine Go ?_)
      all_goals (refine WC.seq ?_)
      all_goals (refine WC.sr ?_)
      all_goals (refine Go ?_)
      all_goals (refine WL.ld rfl (by first | exact cell_blk hb1 rfl | assumption | exact cell_blk (by assumption) rfl) rfl rfl rfl ?_)
      all_goals (refine Go ?_)
      all_goals (refine Gs [(0, _), (3, _), (12, _)] ?_)
      all_goals (refine goC 1 2 ?_ ?_ <;> first | exact ⟨⟩ | refine Hb.mk fun hb => ?_ | skip)
      all_goals (first | (fail_if_success refine goB 1 ?_) | (
      refine goB 1 ?_
      all_goals (refine WC.sr ?_)
      all_goals (refine Go ?_)
      all_goals (refine WL.ld rfl (by first | exact cell_blk hb1 rfl | assumption | exact cell_blk (by assumption) rfl) rfl rfl rfl ?_)
      all_goals (refine WL.call (vs := [_, _]) rfl (fun a w => Tryz.call83 a w) rfl (stmt_v (k.ext0 hx1) lm n fl1) rfl rfl rfl ?_
                 rintro _ h2 ⟨⟨q', rfl, ⟨B, c, hvo⟩, hq'⟩, hx2⟩
                 rw [he]
                 obtain ⟨qt, qv, qo⟩ := q'
                 dsimp only [erV] at hvo ⊢
                 subst hvo
                 unfold stE)
      all_goals (refine Go ?_)
      all_goals (refine WL.stepR (okE_alloc (fun w => Tryz.zeroValue135 w)) rfl rfl rfl ?_
                 rintro _ h3 ⟨b6, rfl, hg3, hb3, hx3⟩)
      all_goals (refine WL.stepR0 (okE_storeW (fun w => Tryz.sizeOf135 w) rfl rfl rfl hb3 rfl (by simp [Value.oneCell'])) rfl rfl ?_
                 rintro _ h4 ⟨hb4, hx4⟩)
      all_goals (have X4 : Ext No h h4 := (hx1.trans hx2).trans (hx3.trans' hx4 (fun q hq e => by omega)))
      all_goals (refine Go ?_)
      all_goals (refine Gs [(6, _), (7, _)] ?_)
      all_goals (refine WC.seq ?_)
      all_goals (refine WC.sr ?_)
      all_goals (refine Go ?_)
      all_goals (first | (refine WL.step (ok_neqIh (by kernel_rfl) rfl rfl) rfl rfl rfl ?_) | (refine WL.step (ok_neqIn (by kernel_rfl) rfl rfl) rfl rfl rfl ?_))
      all_goals (refine Gn ?_)
      all_goals (refine goC 3 4 ?_ ?_ <;> first | exact ⟨⟩ | refine Hb.mk fun hb => ?_ | skip)
      all_goals (first | (fail_if_success refine goB 3 ?_) | (
      refine goB 3 ?_
      all_goals (refine WC.sr ?_)
      all_goals (refine Go ?_)
      all_goals (refine Gs [(4, _), (5, _)] ?_)
      all_goals (refine Gt ?_)
      all_goals (exact Dealt.err rfl (.of (k.ext0 X4) (Tn.no X4)))
      skip))
      all_goals (first | (fail_if_success refine goB 4 ?_) | (
      refine goB 4 ?_
      all_goals (refine WC.skip ?_)
      skip))
      all_goals (refine Gn ?_)
      all_goals (refine WC.seq ?_)
      all_goals (refine WC.drawE fol (by kernel_rfl) ?_)
      all_goals (refine WQ.stepE (ok_fieldAddr rfl Tryz.underlying135 rfl (fun w => Tryz.sizeOf29 w)) rfl rfl rfl ?_)
      all_goals (refine WQ.stepE (ok_load (fun w => Tryz.isAgg29 w) rfl (by first | assumption | exact cell_blk (by assumption) rfl)) rfl rfl rfl ?_)
      all_goals (fail "no contract for call of slices.Clone[[]int,int] at 5.2")
      all_goals (refine WQ.stepE (ok_buildF (vs := [_, _]) (cs := [_, _, _, _, _, _, _, _, _, _, _]) (fun | [a0, a7] => [a0, (.int .u8 0), (St []), (St []), (St []), (.int .i64 0), (.int .i64 0), a7, (.slice none 0 0), (.slice none 0 0), (.slice none 0 0)] | _ => []) rfl rfl (by kernel_rfl)) rfl rfl rfl ?_)
      all_goals (refine WQ.stepE (ok_loadN (fun w => Tryz.isAgg135 w) (fun w => Tryz.sizeOf135 w) rfl rfl (by assumption)) rfl rfl rfl ?_)
      all_goals (fail "no contract for call of remuda/sess.shape at 5.5")
      all_goals (refine WL.stepR (okE_buildSlice (vs := [_, _]) (cs := [_, _, _, _, _, _, _, _, _, _, _, _, _, _, _, _, _, _, _, _, _, _]) (fun | [.agg ⟨[a0, a1, a2, a3, a4, a5, a6, a7, a8, a9, a10]⟩, .agg ⟨[a11, a12, a13, a14, a15, a16, a17, a18, a19, a20, a21]⟩] => [a0, a1, a2, a3, a4, a5, a6, a7, a8, a9, a10, a11, a12, a13, a14, a15, a16, a17, a18, a19, a20, a21] | _ => []) Tryz.underlying33 rfl rfl (by kernel_rfl)) rfl rfl rfl ?_
                 rintro _ h1 ⟨b1, rfl, hg1, hb1, hx1⟩)
      all_goals (refine WQ.stepE (ok_assign rfl) rfl rfl rfl ?_)
      all_goals (refine WQ.stepE (ok_assign rfl) rfl rfl rfl ?_)
      all_goals (refine WQ.nil ?_)
      all_goals (refine Gn ?_)
      all_goals (refine Gs [(4, _), (5, _)] ?_)
      all_goals (refine Gt ?_)
      all_goals (exact Dealt.err rfl (.of (k.ext0 X4) (Tn.no X4)))
      skip))
      all_goals (first | (fail_if_success refine goB 2 ?_) | (
      refine goB 2 ?_
      all_goals (refine WC.skip ?_)
      skip))
      all_goals (refine Gn ?_)
      all_goals (refine WC.sr ?_)
      all_goals (refine Go ?_)
      all_goals (refine Ld ?_)
      all_goals (fail "no contract for call of (*remuda/sess.Session).portal at 6.3")
      all_goals (refine Go ?_)
      all_goals (refine WL.stepR (okE_alloc (fun w => Tryz.zeroValue147 w)) rfl rfl rfl ?_
                 rintro _ h1 ⟨b1, rfl, hg1, hb1, hx1⟩)
      all_goals (refine WL.stepR0 (okE_storeW (fun w => Tryz.sizeOf147 w) rfl rfl rfl (by assumption) rfl (by simp [Value.oneCell'])) rfl rfl ?_
                 rintro _ h1 ⟨hb1, hx1⟩)
      all_goals (refine Go ?_)
      all_goals (refine Gs [(8, _), (9, _)] ?_)
      all_goals (refine WC.seq ?_)
      all_goals (refine WC.sr ?_)
      all_goals (refine Go ?_)
      all_goals (first | (refine WL.step (ok_neqIh (by kernel_rfl) rfl rfl) rfl rfl rfl ?_) | (refine WL.step (ok_neqIn (by kernel_rfl) rfl rfl) rfl rfl rfl ?_))
      all_goals (refine Gn ?_)
      all_goals (refine goC 5 6 ?_ ?_ <;> first | exact ⟨⟩ | refine Hb.mk fun hb => ?_ | skip)
      all_goals (first | (fail_if_success refine goB 5 ?_) | (
      refine goB 5 ?_
      all_goals (refine WC.sr ?_)
      all_goals (refine Go ?_)
      all_goals (refine Gs [(4, _), (5, _)] ?_)
      all_goals (refine Gt ?_)
      all_goals (exact Dealt.err rfl (.of (k.ext0 X4) (Tn.no X4)))
      skip))
      all_goals (first | (fail_if_success refine goB 6 ?_) | (
      refine goB 6 ?_
      all_goals (refine WC.skip ?_)
      skip))
      all_goals (refine Gn ?_)
      all_goals (refine WC.sr ?_)
      all_goals (refine Go ?_)
      all_goals (refine WL.step (ok_loadN (fun w => Tryz.isAgg135 w) (fun w => Tryz.sizeOf135 w) rfl rfl (by assumption)) rfl rfl rfl ?_)
      all_goals (fail "no contract for call of remuda/sess.shape at 9.2")
      all_goals (refine WL.stepR (okE_buildSlice (vs := [_]) (cs := [_, _, _, _, _, _, _, _, _, _, _]) (fun | [.agg ⟨[a0, a1, a2, a3, a4, a5, a6, a7, a8, a9, a10]⟩] => [a0, a1, a2, a3, a4, a5, a6, a7, a8, a9, a10] | _ => []) Tryz.underlying33 rfl rfl (by kernel_rfl)) rfl rfl rfl ?_
                 rintro _ h1 ⟨b1, rfl, hg1, hb1, hx1⟩)
      all_goals (refine Go ?_)
      all_goals (refine Gs [(4, _), (5, _)] ?_)
      all_goals (refine Gt ?_)
      all_goals (exact Dealt.err rfl (.of (k.ext0 X4) (Tn.no X4)))
  · rw [hd2 hw]
    dsimp only [Fm.cells, Fm.p]
    rcases he : portP (spO st sk ov cnt L P) p with _ | ⟨ea, ec⟩
    · obtain ⟨i, hi⟩ := portP_none he
      have htl := lm.tp _ (getK_mem hi)
      have hgl : getK (spO st sk ov cnt L P).P p = some i.d.pl := by show getK (plP P) p = _; rw [getP_pl, hi]; rfl
      rw [hgl]
      dsimp only at htl ⊢
      refine calls [(0, _), (1, _)] Tryz.func48 rfl Tryz.ntmps48 rfl ⟨rfl, rfl, trivial⟩ ?_
      all_goals (refine WC.sr ?_)
      all_goals (refine WL.stepR (okE_box rfl) rfl rfl rfl ?_
                 rintro _ h1 ⟨b3, rfl, hg1, hb1, hx1⟩)
      all_goals (refine Go ?_)
      all_goals (refine WC.seq ?_)
      all_goals (refine WC.sr ?_)
      all_goals (refine Go ?_)
      all_goals (refine WL.ld rfl (by first | exact cell_blk hb1 rfl | assumption | exact cell_blk (by assumption) rfl) rfl rfl rfl ?_)
      all_goals (refine Go ?_)
      all_goals (refine Gs [(0, _), (3, _), (12, _)] ?_)
      all_goals (refine goC 1 2 ?_ ?_ <;> first | exact ⟨⟩ | refine Hb.mk fun hb => ?_ | skip)
      all_goals (first | (fail_if_success refine goB 2 ?_) | (
      refine goB 2 ?_
      all_goals (refine WC.skip ?_)
      skip))
      all_goals (refine Gn ?_)
      all_goals (refine WC.sr ?_)
      all_goals (refine Go ?_)
      all_goals (refine WL.ld rfl (by first | exact cell_blk hb1 rfl | assumption | exact cell_blk (by assumption) rfl) rfl rfl rfl ?_)
      all_goals (refine WL.call (vs := [_, _]) rfl (fun a w => Tryz.call88 a w) rfl (portal_v (k.ext0 hx1) lm p fl2) rfl rfl rfl ?_
                 rintro _ h2 ⟨⟨d2, rfl, ok2, f2, hq'⟩, hx2⟩
                 rw [he] at hq' ⊢
                 obtain ⟨i', hi', pl2⟩ := hq' rfl
                 have hii := Option.some.inj (hi.symm.trans hi')
                 subst hii
                 have hti : d2.text = i.d.text := congrArg (·.1) pl2
                 have hto : d2.oids = i.d.oids := congrArg (·.2.1) pl2
                 obtain ⟨text, vo, oids, vp, ps', vr, rs', ran, over⟩ := d2
                 dsimp only [erV] at hti hto ⊢
                 subst hti
                 subst hto)
      all_goals (refine Go ?_)
      all_goals (refine WL.stepR (okE_alloc (fun w => Tryz.zeroValue147 w)) rfl rfl rfl ?_
                 rintro _ h3 ⟨b6, rfl, hg3, hb3, hx3⟩)
      all_goals (refine WL.stepR0 (okE_storeW (fun w => Tryz.sizeOf147 w) rfl rfl rfl hb3 rfl (pd_one ok2)) rfl rfl ?_
                 rintro _ h4 ⟨hb4, hx4⟩)
      all_goals (have X14 : Ext No h1 h4 := hx2.trans (hx3.trans' hx4 (fun q hq e => by omega))
                 have X4 := hx1.trans X14
                 have k4 := k.ext0 X4
                 dsimp only [PD.cells] at hb4
                 obtain ⟨A6, c6, hvo, _⟩ := id ok2.oids
                 dsimp only at hvo
                 subst hvo)
      all_goals (refine Go ?_)
      all_goals (refine Gs [(8, _), (9, _)] ?_)
      all_goals (refine WC.seq ?_)
      all_goals (refine WC.sr ?_)
      all_goals (refine Go ?_)
      all_goals (first | (refine WL.step (ok_neqIh (by kernel_rfl) rfl rfl) rfl rfl rfl ?_) | (refine WL.step (ok_neqIn (by kernel_rfl) rfl rfl) rfl rfl rfl ?_))
      all_goals (refine Gn ?_)
      all_goals (refine goC 5 6 ?_ ?_ <;> first | exact ⟨⟩ | refine Hb.mk fun hb => ?_ | skip)
      all_goals (first | (fail_if_success refine goB 5 ?_) | (
      refine goB 5 ?_
      all_goals (refine WC.sr ?_)
      all_goals (refine Go ?_)
      all_goals (refine Gs [(4, _), (5, _)] ?_)
      all_goals (refine Gt ?_)
      all_goals (have s4 := X4.size
                 have s6 := hx6.size
                 exact ⟨_, [b6'], (fun e => absurd rfl e), rfl, .of ok6 (fun q hq => by have := f6 q hq; omega) hx7 hb7 (by omega) (by omega), by rw [List.map_singleton, p6]; rfl, .of ((k4.ext0 hx6).ext0 hx7) (Tn.no ((X4.trans hx6).trans hx7))⟩)
      skip))
      all_goals (first | (fail_if_success refine goB 6 ?_) | (
      refine goB 6 ?_
      all_goals (refine WC.skip ?_)
      skip))
      all_goals (refine Gn ?_)
      all_goals (refine WC.sr ?_)
      all_goals (refine Go ?_)
      all_goals (refine WL.step (ok_loadN (fun w => Tryz.isAgg135 w) (fun w => Tryz.sizeOf135 w) rfl rfl (by exact At.pre (xs := [_, _]) (ys := [_, _, _, _]) (At.of_block hb4))) rfl rfl rfl ?_)
      all_goals (refine WL.call (vs := [_]) rfl (fun a w => Tryz.call87 a w) rfl (shape_v i.d.text A6 i.d.oids c6 htl.1) rfl rfl rfl ?_
                 rintro _ h6 ⟨b6', rfl, ok6, p6, f6, hx6⟩)
      all_goals (refine WL.stepR (okE_buildSlice (vs := [_]) (cs := [_, _, _, _, _, _, _, _, _, _, _]) (fun | [.agg ⟨[a0, a1, a2, a3, a4, a5, a6, a7, a8, a9, a10]⟩] => [a0, a1, a2, a3, a4, a5, a6, a7, a8, a9, a10] | _ => []) Tryz.underlying33 rfl rfl (by kernel_rfl)) rfl rfl rfl ?_
                 rintro _ h7 ⟨b7, rfl, hg7, hb7, hx7⟩)
      all_goals (refine Go ?_)
      all_goals (refine Gs [(4, _), (5, _)] ?_)
      all_goals (refine Gt ?_)
      all_goals (have s4 := X4.size
                 have s6 := hx6.size
                 exact ⟨_, [b6'], (fun e => absurd rfl e), rfl, .of ok6 (fun q hq => by have := f6 q hq; omega) hx7 hb7 (by omega) (by omega), by rw [List.map_singleton, p6]; rfl, .of ((k4.ext0 hx6).ext0 hx7) (Tn.no ((X4.trans hx6).trans hx7))⟩)
    · dsimp only
      refine calls [(0, _), (1, _)] Tryz.func48 rfl Tryz.ntmps48 rfl ⟨rfl, rfl, trivial⟩ ?_
      all_goals (refine WC.sr ?_)
      all_goals (refine WL.stepR (okE_box rfl) rfl rfl rfl ?_
                 rintro _ h1 ⟨b3, rfl, hg1, hb1, hx1⟩)
      all_goals (refine Go ?_)
      all_goals (refine WC.seq ?_)
      all_goals (refine WC.sr ?_)
      all_goals (refine Go ?_)
      all_goals (refine WL.ld rfl (by first | exact cell_blk hb1 rfl | assumption | exact cell_blk (by assumption) rfl) rfl rfl rfl ?_)
      all_goals (refine Go ?_)
      all_goals (refine Gs [(0, _), (3, _), (12, _)] ?_)
      all_goals (refine goC 1 2 ?_ ?_ <;> first | exact ⟨⟩ | refine Hb.mk fun hb => ?_ | skip)
      all_goals (first | (fail_if_success refine goB 2 ?_) | (
      refine goB 2 ?_
      all_goals (refine WC.skip ?_)
      skip))
      all_goals (refine Gn ?_)
      all_goals (refine WC.sr ?_)
      all_goals (refine Go ?_)
      all_goals (refine WL.ld rfl (by first | exact cell_blk hb1 rfl | assumption | exact cell_blk (by assumption) rfl) rfl rfl rfl ?_)
      all_goals (refine WL.call (vs := [_, _]) rfl (fun a w => Tryz.call88 a w) rfl (portal_v (k.ext0 hx1) lm p fl2) rfl rfl rfl ?_
                 rintro _ h2 ⟨⟨d2, rfl, ok2, f2, hq'⟩, hx2⟩
                 rw [he]
                 dsimp only [erV])
      all_goals (refine Go ?_)
      all_goals (refine WL.stepR (okE_alloc (fun w => Tryz.zeroValue147 w)) rfl rfl rfl ?_
                 rintro _ h3 ⟨b6, rfl, hg3, hb3, hx3⟩)
      all_goals (refine WL.stepR0 (okE_storeW (fun w => Tryz.sizeOf147 w) rfl rfl rfl hb3 rfl (pd_one ok2)) rfl rfl ?_
                 rintro _ h4 ⟨hb4, hx4⟩)
      all_goals (have X4 : Ext No h h4 := (hx1.trans hx2).trans (hx3.trans' hx4 (fun q hq e => by omega)))
      all_goals (refine Go ?_)
      all_goals (refine Gs [(8, _), (9, _)] ?_)
      all_goals (refine WC.seq ?_)
      all_goals (refine WC.sr ?_)
      all_goals (refine Go ?_)
      all_goals (first | (refine WL.step (ok_neqIh (by kernel_rfl) rfl rfl) rfl rfl rfl ?_) | (refine WL.step (ok_neqIn (by kernel_rfl) rfl rfl) rfl rfl rfl ?_))
      all_goals (refine Gn ?_)
      all_goals (refine goC 5 6 ?_ ?_ <;> first | exact ⟨⟩ | refine Hb.mk fun hb => ?_ | skip)
      all_goals (first | (fail_if_success refine goB 5 ?_) | (
      refine goB 5 ?_
      all_goals (refine WC.sr ?_)
      all_goals (refine Go ?_)
      all_goals (refine Gs [(4, _), (5, _)] ?_)
      all_goals (refine Gt ?_)
      all_goals (exact Dealt.err rfl (.of (k.ext0 X4) (Tn.no X4)))
      skip))
      all_goals (first | (fail_if_success refine goB 6 ?_) | (
      refine goB 6 ?_
      all_goals (refine WC.skip ?_)
      skip))
      all_goals (refine Gn ?_)
      all_goals (refine WC.sr ?_)
      all_goals (refine Go ?_)
      all_goals (refine WL.step (ok_loadN (fun w => Tryz.isAgg135 w) (fun w => Tryz.sizeOf135 w) rfl rfl (by assumption)) rfl rfl rfl ?_)
      all_goals (fail "no contract for call of remuda/sess.shape at 9.2")
      all_goals (refine WL.stepR (okE_buildSlice (vs := [_]) (cs := [_, _, _, _, _, _, _, _, _, _, _]) (fun | [.agg ⟨[a0, a1, a2, a3, a4, a5, a6, a7, a8, a9, a10]⟩] => [a0, a1, a2, a3, a4, a5, a6, a7, a8, a9, a10] | _ => []) Tryz.underlying33 rfl rfl (by kernel_rfl)) rfl rfl rfl ?_
                 rintro _ h1 ⟨b1, rfl, hg1, hb1, hx1⟩)
      all_goals (refine Go ?_)
      all_goals (refine Gs [(4, _), (5, _)] ?_)
      all_goals (refine Gt ?_)
      all_goals (exact Dealt.err rfl (.of (k.ext0 X4) (Tn.no X4)))
end
end Go.Proofs.YtbokngiajfdanaaGreatDoor


/-
  COLS (layer 10): a row that is told.
-/
namespace Go.Proofs.YtbokngiajfdanaaGreatDoor
open Go Go.RK

/-- A row that is told. -/
def rowB (v : Value) (l : List Cel) : Bk := ⟨68, 0, [], [], [], 0, 0, .slice none 0 0, [], .slice none 0 0, [], v, l, .slice none 0 0, []⟩
theorem rowB_ok {h : Heap} {v : Value} {l : List Cel} (c : Cels h v l) : (rowB v l).ok h := ⟨⟨Rd.nil _ _, by simp [rowB]⟩, ⟨Rd.nil _ _, by simp [rowB]⟩, c, ⟨Rd.nil _ _, by simp [rowB]⟩⟩
theorem row_step {h2 h3 h4 h5 h6 h7 : Heap} {b2 b4 k : Nat} {n1 : Bool} {v1 v6 : Value} {s1 : List UInt8} {l out : List Cel} {rest : List Value} {T0 : TypeId} (hlo : out.length = k) (hrl : rest.length = (l.length - k) * 2) (hk : k ≤ l.length)
    (hp : out.map Cel.pl = (l.take k).map Cel.pl) (hc1 : l[k]? = some ⟨n1, v1, s1⟩) (hb7 : h7[b2]? = some (.cells ⟨(out.flatMap Cel.cells ++ rest).take (0 + k * 2) ++ [.bool n1, v6] ++ (out.flatMap Cel.cells ++ rest).drop (0 + k * 2 + 2)⟩ T0 (0, 0)))
    (hq : ∀ q ∈ out, q.ok h3 ∧ ∀ b, q.v.ownBlock = some b → b2 < b) (hx3 : Ext (fun b => b = b2) h2 h3) (hx4 : Ext No h3 h4) (hx5 : Ext (fun b => b = b4) h4 h5) (hg4 : h3.size ≤ b4) (hx6 : Ext No h5 h6) (hx7 : Ext (fun b => b = b2) h6 h7)
    (ho6 : Own h6 v6 5 1 s1.length (bys s1)) (hl6 : v6.ownBlock = (Value.slice none 0 0).ownBlock ∨ v6.ownBlock = some h5.size) (hlt : b2 < h3.size) (hs : s1.length ≤ reachBytes) :
    k + 1 ≤ l.length ∧ (out ++ [(⟨n1, v6, s1⟩ : Cel)]).map Cel.pl = (l.take (k + 1)).map Cel.pl ∧ (∃ rest', h7[b2]? = some (.cells ⟨(out ++ [(⟨n1, v6, s1⟩ : Cel)]).flatMap Cel.cells ++ rest'⟩ T0 (0, 0)) ∧ rest'.length = (l.length - (k + 1)) * 2) ∧ (∀ q ∈ out ++ [(⟨n1, v6, s1⟩ : Cel)], q.ok h7 ∧ ∀ b, q.v.ownBlock = some b → b2 < b) ∧ Ext (fun b => b = b2) h2 h7 := by
  have hkl : k < l.length := (List.getElem?_eq_some_iff.1 hc1).1
  have hfl : (out.flatMap Cel.cells).length = k * 2 := by rw [length_flat Cel.len, hlo]
  have s4 := hx4.size
  have s5 := hx5.size
  have e1 : (out.flatMap Cel.cells ++ rest).take (0 + k * 2) = out.flatMap Cel.cells := by rw [Nat.zero_add, ← hfl, List.take_left']; rfl
  have e2 : (out.flatMap Cel.cells ++ rest).drop (0 + k * 2 + 2) = rest.drop 2 := by rw [Nat.zero_add, ← hfl, List.drop_append]; simp
  have fr : ∀ b, v6.ownBlock = some b → b2 < b := fun b e => by
    rcases hl6 with e6 | e6 <;> rw [e6] at e
    · cases e
    · simp at e; omega
  refine ⟨hkl, ?_, ⟨rest.drop 2, ?_, ?_⟩, fun q hm => ?_, ?_⟩
  · rw [List.map_append, hp, List.take_add_one, hc1, List.map_append]
    rfl
  · rw [e1, e2] at hb7
    rw [List.flatMap_append, List.flatMap_singleton]
    exact hb7
  · rw [List.length_drop, hrl]; omega
  · rcases List.mem_append.1 hm with hm | hm
    · obtain ⟨q1, q2⟩ := hq q hm
      refine ⟨⟨?_, q1.2⟩, q2⟩
      exact (((q1.1.ext0 hx4).ext' hx5 fun b h1 e eb => by have := q1.1.lt h1 e; omega).ext0 hx6).ext' hx7 fun b _ e eb => by have := q2 b e; omega
    · simp only [List.mem_singleton] at hm
      subst hm
      exact ⟨⟨ho6.rd.ext' hx7 fun b _ e eb => by have := fr b e; omega, hs⟩, fr⟩
  · exact (((hx3.trans' hx4 fun _ _ e => e.elim).trans' hx5 fun b hb e => by have := hx3.size; omega).trans' hx6 fun _ _ e => e.elim).trans hx7
theorem row_end {h3 h8 : Heap} {b1 b2 k : Nat} {l out : List Cel} {rest : List Value} {T0 : TypeId} (hlo : out.length = k) (hrl : rest.length = (l.length - k) * 2) (hk : k = l.length) (hb3 : h3[b2]? = some (.cells ⟨out.flatMap Cel.cells ++ rest⟩ T0 (0, 0))) (hx8 : Ext (fun b => b = b1) h3 h8)
    (hq : ∀ q ∈ out, q.ok h3 ∧ ∀ b, q.v.ownBlock = some b → b2 < b) (h12 : b1 < b2) (hl : l.length ≤ 1000000) : Cels h8 (.slice (some ⟨b2, 0, none⟩) l.length l.length) out := by
  have h0 : rest = [] := List.eq_nil_of_length_eq_zero (by rw [hrl, hk]; simp)
  rw [h0, List.append_nil] at hb3
  have hll : out.length = l.length := by omega
  rw [← hll]
  refine ⟨rd_blk (hx8.obj hb3 (fun e => by omega)) (length_flat Cel.len out), ⟨by unfold reachBytes; omega, _, _, rfl, by unfold maxLen; omega⟩, fun q hm => ?_⟩
  obtain ⟨q1, q2⟩ := hq q hm
  exact ⟨q1.1.ext' hx8 fun b _ e eb => by have := q2 b e; omega, q1.2⟩
set_option maxHeartbeats 2000000 in
set_option maxRecDepth 100000 in
theorem row_told {h : Heap} {v : Value} (l : List Cel) (hc : Cels h v l) (hl : l.length ≤ 1000000) : CallsH Tryz.prog 148 ⟨[v]⟩ h fun u h' => ∃ v' l', u = .agg ⟨(rowB v' l').cells⟩ ∧ Cels h' v' l' ∧ l'.map Cel.pl = l.map Cel.pl ∧ Ext No h h' ∧ ∀ b, CelsF v' l' b → h.size ≤ b := by
  obtain ⟨hr, ⟨_, A, c, rfl, _⟩, hok⟩ := hc
  refine calls [(0, _)] Tryz.func148 rfl Tryz.ntmps148 rfl ⟨rfl, trivial⟩ ?_
  all_goals (refine WC.sr ?_)
  all_goals (refine WL.stepR (okE_alloc (fun w => Tryz.zeroValue42 w)) rfl rfl rfl ?_
             rintro _ h1 ⟨b1, rfl, hg1, hb1, hx1⟩)
  all_goals (refine Gn ?_)
  all_goals (refine WC.sr ?_)
  all_goals (refine Go ?_)
  all_goals (refine WL.stepR (okE_makeSlice 32 2 Tryz.underlying30 (show Tryz.prog.info? 87 = some Tryz.t87 by kernel_rfl) rfl rfl rfl rfl rfl (by omega) (by unfold maxLen; omega)) rfl rfl rfl ?_
             rintro _ h2 ⟨b2, zs, rfl, hg2, hb2, hzl, _, hx2⟩)
  all_goals (have hlt1 := lt_of_some hb1
             have hx12 := hx1.trans hx2)
  all_goals (refine Go ?_)
  all_goals (refine WC.seq ?_)
  all_goals (refine WC.sr ?_)
  all_goals (refine Go ?_)
  all_goals (refine Gs [(2, _), (3, _), (9, _), (10, _), (11, _)] ?_)
  all_goals (refine WC.block ?_)
  -- loop 0: slots that turn [11], that stay [2, 3, 9, 10]
  all_goals (refine WC.loopG (X := Nat × List Cel) (fun x => ([(11, In (x.1 : Int))] : Fr)) [(2, _), (3, _), (9, _), (10, _)] (fun x h' => x.1 ≤ l.length ∧ x.2.map Cel.pl = (l.take x.1).map Cel.pl ∧ (∃ rest, h'[b2]? = some (.cells ⟨x.2.flatMap Cel.cells ++ rest⟩ 87 (0, 0)) ∧ rest.length = (l.length - x.1) * 2) ∧ (∀ q ∈ x.2, q.ok h' ∧ ∀ b, q.v.ownBlock = some b → b2 < b) ∧ Ext (fun b => b = b2) h2 h') (fun x => l.length - x.1) ((0, [])) ⟨rfl, rfl, rfl, rfl, rfl, trivial⟩ (by exact ⟨Nat.zero_le _, rfl, ⟨zs, hb2, hzl⟩, by simp, .refl _ _⟩) ?_)
  all_goals (rintro ⟨k, out⟩ h3 ⟨hk, hp, ⟨rest, hb3, hrl⟩, hq, hx3⟩
             simp only at hk hp hb3 hrl hq
             have hlo : out.length = k := by simpa [Nat.min_eq_left hk] using congrArg List.length hp
             have E3 : Ext No h h3 := hx12.trans' hx3 (fun b hb e => by have := hx1.size; omega))
  all_goals (refine WC.sub [(11, _), (2, _), (3, _), (9, _), (10, _)] ⟨rfl, rfl, rfl, rfl, rfl, trivial⟩ ?_)
  all_goals (dsimp only)
  all_goals (refine WC.sr ?_)
  all_goals (refine Go ?_)
  all_goals (refine WC.seq ?_)
  all_goals (refine goC 1 2 ?_ ?_ <;> first | exact ⟨⟩ | refine Hb.mk fun hb => ?_ | skip)
  all_goals (first | (fail_if_success refine goB 1 ?_) | (
  refine goB 1 ?_
  all_goals (refine WC.skip ?_)
  skip))
  all_goals (first | (fail_if_success refine goB 2 ?_) | (
  refine goB 2 ?_
  all_goals (refine WC.exit ?_)
  all_goals (repeat' (with_reducible first | refine thenP_x ?_ | refine blockP_miss rfl ?_ | refine blockP_hit ?_ | refine blockP_n ?_ | refine thenP_n ?_))
  all_goals (refine Br.out (i := 1000) ?_)
  skip))
  all_goals (refine Gn ?_)
  all_goals (first | (refine Br.keep ?_) | (refine WC.seq ?_))
  all_goals (first | (refine Br.keep ?_) | (refine WC.block ?_))
  all_goals (first | (refine Br.keep ?_) | (refine WC.seq ?_))
  all_goals (first
               | (refine Br.keep ?_)
               | (obtain ⟨bL, oL, hA, hbL, hat⟩ := Rd.at_ (hr.ext0 E3) (by omega)
                  obtain ⟨⟨n1, v1, s1⟩, hc1⟩ : ∃ y, l[k]? = some y := ⟨_, List.getElem?_eq_getElem (by omega)⟩
                  obtain ⟨ok1, hsl⟩ := hok _ (List.mem_of_getElem? hc1)
                  have at1 : At h3 bL (oL + k * 2) [.bool n1, v1] := At.elem Cel.len hat hc1
                  simp only at ok1 hsl
                  unfold reachBytes at hsl
                  obtain ⟨A1, k1, rfl, _⟩ := id ok1))
  all_goals (first | (refine Br.keep ?_) | (refine WC.region ?_))
  all_goals (refine Go ?_)
  all_goals (first | (refine Br.keep ?_) | (refine WL.step (ok_idxAddrA Tryz.underlying30 (fun w => Tryz.sizeOf87 w) rfl rfl rfl (by omega) (by first | rfl | assumption)) rfl rfl rfl ?_))
  all_goals (first | (refine Br.keep ?_) | (refine WL.step (ok_loadN (fun w => Tryz.isAgg87 w) (fun w => Tryz.sizeOf87 w) rfl rfl (by assumption)) rfl rfl rfl ?_))
  all_goals (first
               | (refine Br.keep ?_)
               | (refine WL.stepR (okE_alloc (fun w => Tryz.zeroValue87 w)) rfl rfl rfl ?_
                  rintro _ h4 ⟨b4, rfl, hg4, hb4, hx4⟩))
  all_goals (refine Go ?_)
  all_goals (first
               | (refine Br.keep ?_)
               | (refine WL.stepR0 (okE_storeW (fun w => Tryz.sizeOf87 w) rfl rfl rfl (by assumption) rfl (by simp [Value.oneCell'])) rfl rfl ?_
                  rintro _ h5 ⟨hb5, hx5⟩))
  all_goals (first
               | (refine Br.keep ?_)
               | (have E5 : Ext No h h5 := (E3.trans hx4).trans' hx5 (fun b hb e => by have := E3.size; omega)
                  have hlt3 := lt_of_some hb3
                  have hb3' := (hx4.obj hb3 nos)
                  have hb3'' := hx5.obj hb3' (fun e => by omega)))
  all_goals (refine Gn ?_)
  all_goals (first | (refine Br.keep ?_) | (refine Gs [(2, _), (3, _), (4, _), (5, _), (9, _), (10, _), (11, _)] ?_))
  all_goals (first | (refine Br.keep ?_) | (refine WC.drawH (fun h' => h'[b4]? = some (.cells ⟨[.bool n1, .slice A1 s1.length k1]⟩ 87 (0, 0))) 9 10 rfl fol ?_))
  all_goals (first | (refine Br.keep ?_) | (refine WH.tk 0 rfl (fun hq hC => ok_move rfl) rfl rfl rfl ?_))
  all_goals (first | (refine Br.keep ?_) | (refine WH.tk 1 rfl (fun hq hC => ok_move rfl) rfl rfl rfl ?_))
  all_goals (first | (refine Br.keep ?_) | (refine WH.tk 2 rfl (fun hq hC => ok_fieldAddr rfl Tryz.underlying87 rfl (fun w => Tryz.sizeOf4 w)) rfl rfl rfl ?_))
  all_goals (first | (refine Br.keep ?_) | (refine WH.tk 3 rfl (fun hq hC => ok_load (fun w => Tryz.isAgg4 w) rfl (cell_blk hC rfl)) rfl rfl rfl ?_))
  all_goals (first | (refine Br.keep ?_) | (refine WH.tk 4 rfl (fun hq hC => ok_fieldAddr rfl Tryz.underlying87 rfl (fun w => Tryz.sizeOf85 w)) rfl rfl rfl ?_))
  all_goals (first | (refine Br.keep ?_) | (refine WH.tk 5 rfl (fun hq hC => ok_load (fun w => Tryz.isAgg85 w) rfl (cell_blk hC rfl)) rfl rfl rfl ?_))
  all_goals (first | (refine Br.keep ?_) | (refine WH.one 6 (by kernel_rfl) ?_))
  all_goals (first
               | (refine Br.keep ?_)
               | (refine Comes1.run rfl (ok_append (sz := 1) (bytes := 1) rfl Tryz.underlying85 (show Tryz.prog.info? 5 = some Tryz.t5 by kernel_rfl) rfl rfl rfl rfl (by decide) rfl rfl (Own.nil _ _ _) (ok1.ext0 E5) (one_bys s1) (by simp only [maxLen]; omega) (by omega)) rfl rfl rfl ?_ (fun _ => by kernel_rfl)
                  rintro v6 h6 ⟨ho6, hx6, hl6⟩))
  all_goals (first | (refine Br.keep ?_) | (refine ⟨fun _ => hx6.obj hb5 (fun e => by cases e), ?_⟩))
  all_goals (first
               | (refine Br.keep ?_)
               | (have hb6 := hx6.obj hb5 (fun e => by cases e)
                  have hx6' : Ext No h5 h6 := hx6.mono (fun b _ e => by cases e)
                  have hbb := hx6.obj hb3'' (fun e => by cases e)
                  rw [Nat.zero_add, List.nil_append] at ho6
                  obtain ⟨A6, c6, rfl, _⟩ := ho6.slice))
  all_goals (first | (refine Br.keep ?_) | (refine WH.tk 7 rfl (fun hq hC => ok_buildF (vs := [_, _]) (cs := [_, _]) (fun | [a0, a1] => [a0, a1] | _ => []) rfl rfl (by kernel_rfl)) rfl rfl rfl ?_))
  all_goals (first | (refine Br.keep ?_) | (refine WH.tk 8 rfl (fun hq hC => ok_idxAddrA Tryz.underlying30 (fun w => Tryz.sizeOf87 w) rfl rfl rfl (by omega) (by first | rfl | assumption)) rfl rfl rfl ?_))
  all_goals (first | (refine Br.keep ?_) | (refine WH.one 9 (by kernel_rfl) ?_))
  all_goals (first
               | (refine Br.keep ?_)
               | (refine Comes1.run0 rfl (okE_storeN (k := 2) (fun w => Tryz.sizeOf87 w) rfl rfl rfl hbb (by simp [length_flat Cel.len, hlo, hrl]; omega) (by simp [Value.oneCell'])) rfl rfl ?_ (fun _ => by kernel_rfl)
                  rintro _ h7 ⟨hb7, hx7⟩))
  all_goals (first | (refine Br.keep ?_) | (refine ⟨fun e => (by cases e), ?_⟩))
  all_goals (first | (refine Br.keep ?_) | (refine WH.done (by kernel_rfl) ?_))
  all_goals (refine Gn ?_)
  all_goals (first | (refine Br.keep ?_) | (refine Gs [(2, _), (3, _), (9, _), (10, _), (11, _)] ?_))
  all_goals (first | (refine Br.keep ?_) | (refine WC.region ?_))
  all_goals (refine Go ?_)
  all_goals (first | (refine Br.keep ?_) | (exact ⟨(k + 1, out ++ [_]), ⟨rfl, rfl, rfl, rfl, rfl, trivial⟩, (by exact row_step hlo hrl hk hp hc1 hb7 hq hx3 hx4 hx5 hg4 hx6' hx7 ho6 hl6 hlt3 (by unfold reachBytes; omega)), (by simp; omega)⟩))
  all_goals (try (refine Br.mk (i := 1000) ?_))
  all_goals (refine Gn ?_)
  all_goals (refine Gs [(2, _), (3, _)] ?_)
  all_goals (refine WC.sr ?_)
  all_goals (refine Go ?_)
  all_goals (refine WL.step (ok_buildF (vs := [_, _]) (cs := [_, _, _, _, _, _, _, _, _, _, _]) (fun | [a0, a9] => [a0, (.int .u8 0), (St []), (St []), (St []), (.int .i64 0), (.int .i64 0), (.slice none 0 0), (.slice none 0 0), a9, (.slice none 0 0)] | _ => []) rfl rfl (by kernel_rfl)) rfl rfl rfl ?_)
  all_goals (refine WL.stepR0 (okE_storeW (fun w => Tryz.sizeOf42 w) rfl rfl rfl (hx3.obj (hx2.obj hb1 nos) (fun e => by omega)) rfl (by simp [Value.oneCell'])) rfl rfl ?_
             rintro _ h8 ⟨hb8, hx8⟩)
  all_goals (refine Gn ?_)
  all_goals (refine WC.ret ?_)
  all_goals (repeat' (with_reducible first | refine thenP_r ?_ | refine blockP_r ?_))
  all_goals (refine retP_1 _ ⟨⟨_, rfl, ld_blk (fun w => Tryz.isAgg42 w) (fun w => Tryz.sizeOf42 w) (by assumption) rfl⟩, trivial⟩ ?_)
  all_goals (exact ⟨_, out, rfl, row_end hlo hrl (by omega) hb3 hx8 hq (by omega) (by omega), by rw [hp, List.take_of_length_le (by omega)], E3.trans' hx8 (fun b hb e => by omega), fun b hb => by
              have := hx1.size
              rcases hb with ⟨_, e⟩ | ⟨q, hq', _, e⟩
              · simp [Value.ownBlock] at e; omega
              · have := (hq q hq').2 b e; omega⟩)
end Go.Proofs.YtbokngiajfdanaaGreatDoor


/-
  SESSIONS (layer 30), by the code: rows that are told, and how that ends.
-/
namespace Go.Proofs.YtbokngiajfdanaaGreatDoor
open Go Go.RK

theorem rowB_F {v : Value} {l : List Cel} {q : Nat} (hq : (rowB v l).F q) : CelsF v l q := by
  rcases hq with ⟨e, _⟩ | ⟨e, _⟩ | e | ⟨e, _⟩
  · exact absurd e (Nat.lt_irrefl 0)
  · exact absurd e (Nat.lt_irrefl 0)
  · exact e
  · exact absurd e (Nat.lt_irrefl 0)
abbrev rowRep (r : List CelP) : BkP := { kind := 68, row := r }
set_option maxHeartbeats 2000000 in
set_option maxRecDepth 100000 in
theorem rowsS_v {h : Heap} {v : Value} (L : List Rw) (hL : Rws h v L) (more : Bool) (hm : L.length ≤ 100000) (hr : ∀ r ∈ L, r.l.length ≤ 1000000) : CallsH Tryz.prog 93 ⟨[v, .bool more]⟩ h fun u h' => ∃ B, Outs h h' u B ∧ B.map Bk.p = rowsRep (L.map Rw.pl) more ∧ Ext No h h' := by
  obtain ⟨hrd, ⟨_, A, c, rfl, _⟩, hok⟩ := hL
  cases more
  all_goals
    refine calls [(0, _), (1, _)] Tryz.func93 rfl Tryz.ntmps93 rfl ⟨rfl, rfl, trivial⟩ ?_
    all_goals (refine WC.sr ?_)
    all_goals (refine Go ?_)
    all_goals (refine WC.sr ?_)
    all_goals (refine Go ?_)
    all_goals (refine WC.seq ?_)
    all_goals (refine WC.sr ?_)
    all_goals (refine Go ?_)
    all_goals (refine WC.block ?_)
    -- loop 0: slots that turn [5, 10], that stay [0, 1, 8, 9]
    all_goals (refine WC.loopG (X := Nat × Value × List Bk) (fun x => ([(10, In (x.1 : Int)), (5, x.2.1)] : Fr)) [(0, _), (1, _), (8, _), (9, _)] (fun x h' => x.1 ≤ L.length ∧ Outs h h' x.2.1 x.2.2 ∧ x.2.2.map Bk.p = (L.take x.1).map (fun r => rowRep r.pl) ∧ Ext No h h') (fun x => L.length - x.1) ((0, .slice none 0 0, [])) ⟨rfl, rfl, rfl, rfl, rfl, rfl, trivial⟩ (by exact ⟨Nat.zero_le _, Outs.nil _ _, rfl, .refl _ _⟩) ?_)
    all_goals (rintro ⟨k, v1, B⟩ h1 ⟨hk, ho, hp, hx⟩
               dsimp only at hk ho hp
               have hBl : B.length = k := by have := congrArg List.length hp; simpa [Nat.min_eq_left hk] using this
               have hoo := ho.own
               obtain ⟨A1, c1, rfl, _⟩ := hoo.slice)
    all_goals (refine WC.sub [(5, _), (10, _), (0, _), (1, _), (8, _), (9, _)] ⟨rfl, rfl, rfl, rfl, rfl, rfl, trivial⟩ ?_)
    all_goals (dsimp only)
    all_goals (refine WC.sr ?_)
    all_goals (refine Go ?_)
    all_goals (refine WC.seq ?_)
    all_goals (refine goC 1 2 ?_ ?_ <;> first | exact ⟨⟩ | refine Hb.mk fun hb => ?_ | skip)
    all_goals (first | (fail_if_success refine goB 1 ?_) | (
    refine goB 1 ?_
    all_goals (refine WC.skip ?_)
    skip))
    all_goals (first | (fail_if_success refine goB 2 ?_) | (
    refine goB 2 ?_
    all_goals (refine WC.exit ?_)
    all_goals (repeat' (with_reducible first | refine thenP_x ?_ | refine blockP_miss rfl ?_ | refine blockP_hit ?_ | refine blockP_n ?_ | refine thenP_n ?_))
    all_goals (refine Br.out (i := 1000) ?_)
    skip))
    all_goals (refine Gn ?_)
    all_goals (first | (refine Br.keep ?_) | (refine WC.seq ?_))
    all_goals (first | (refine Br.keep ?_) | (refine WC.block ?_))
    all_goals (first | (refine Br.keep ?_) | (refine WC.sr ?_))
    all_goals (first
                 | (refine Br.keep ?_)
                 | (obtain ⟨bL, oL, hA, hbL, hat⟩ := Rd.at_ (hrd.ext0 hx) (by omega)
                    obtain ⟨⟨w1, l1⟩, hc1⟩ : ∃ y, L[k]? = some y := ⟨_, List.getElem?_eq_getElem (by omega)⟩
                    have at1 := hat.get (p := oL + k * 1) (v := w1) k (by rw [List.getElem?_map, hc1]; exact rfl) (by omega)
                    have hcl := hok _ (List.mem_of_getElem? hc1)
                    have hll := hr _ (List.mem_of_getElem? hc1)
                    dsimp only at hcl hll))
    all_goals (first | (refine Br.keep ?_) | (refine WL.step (ok_idxAddrA Tryz.underlying145 (fun w => Tryz.sizeOf30 w) rfl rfl rfl (by omega) (by first | rfl | assumption)) rfl rfl rfl ?_))
    all_goals (first | (refine Br.keep ?_) | (refine WL.ld rfl (by first | exact at1 | assumption | exact cell_blk (by assumption) rfl) rfl rfl rfl ?_))
    all_goals (refine Go ?_)
    all_goals (first | (refine Br.keep ?_) | (refine WC.region ?_))
    all_goals (refine Go ?_)
    all_goals (first
                 | (refine Br.keep ?_)
                 | (refine WL.call (vs := [_]) rfl (fun a w => Tryz.call148 a w) rfl (row_told l1 (hcl.ext0 hx) hll) rfl rfl rfl ?_
                    rintro _ h2 ⟨v2, l2, rfl, hc2, hp2, hx2, hf2⟩
                    obtain ⟨_, ⟨_, A2, c2, rfl, _⟩, _⟩ := id hc2))
    all_goals (first
                 | (refine Br.keep ?_)
                 | (refine WL.stepR (okE_buildSlice (vs := [_]) (cs := [_, _, _, _, _, _, _, _, _, _, _]) (fun | [.agg ⟨[a0, a1, a2, a3, a4, a5, a6, a7, a8, a9, a10]⟩] => [a0, a1, a2, a3, a4, a5, a6, a7, a8, a9, a10] | _ => []) Tryz.underlying33 rfl rfl (by kernel_rfl)) rfl rfl rfl ?_
                    rintro _ h3 ⟨b3, rfl, hg3, hb3, hx3⟩))
    all_goals (first
                 | (refine Br.keep ?_)
                 | (have ok3 : (rowB (.slice A2 l2.length c2) l2).ok h3 := rowB_ok (hc2.ext0 hx3)
                    have s1 := hx.size
                    have s2 := hx2.size
                    have ho3 := (ho.ext0 hx2).ext0 hx3))
    all_goals (first
                 | (refine Br.keep ?_)
                 | (refine WL.stepR (ok_append (sz := 11) (bytes := 168) rfl Tryz.underlying33 (show Tryz.prog.info? 42 = some Tryz.t42 by kernel_rfl) rfl rfl rfl rfl (by decide) rfl rfl ho3.own (rd_blk hb3 (len := 1) rfl) ok3.one (by simp only [maxLen]; omega) (by omega)) rfl rfl rfl ?_
                    rintro v4 h4 ⟨ho4, hx4, hl4⟩))
    all_goals (refine Go ?_)
    all_goals (first | (refine Br.keep ?_) | (refine Gs [(0, _), (1, _), (5, _), (8, _), (9, _), (10, _)] ?_))
    all_goals (first | (refine Br.keep ?_) | (refine WC.region ?_))
    all_goals (refine Go ?_)
    all_goals (first | (refine Br.keep ?_) | (exact ⟨(k + 1, _, B ++ [_]), ⟨rfl, rfl, rfl, rfl, rfl, rfl, trivial⟩, (by exact ⟨by omega, ho3.snoc ok3 (fun z hz => by have := hf2 z (rowB_F hz); omega) (fun z hz e => by have := hf2 z (rowB_F hz); have := hoo.lt e; omega) (by have := hx3.size; omega) ho4 hx4 hl4, by rw [List.map_append, hp, List.take_add_one, hc1, List.map_append]; simp [Bk.p, rowB, Rw.pl, hp2], ((hx.trans hx2).trans hx3).trans' hx4 (fun q hq e => by have := ho.vf q e; omega)⟩), (by dsimp only; omega)⟩))
    all_goals (try (refine Br.mk (i := 1000) ?_))
    all_goals (refine Gn ?_)
    all_goals (refine Gs [(0, _), (1, _), (5, _)] ?_)
    all_goals (refine WC.seq ?_)
    all_goals (refine WC.sr ?_)
    all_goals (refine Go ?_)
    all_goals (refine goC 3 4 ?_ ?_ <;> first | exact ⟨⟩ | refine Hb.mk fun hb => ?_ | skip)
    all_goals (first | (fail_if_success refine goB 3 ?_) | (
    refine goB 3 ?_
    all_goals (refine WC.sr ?_)
    all_goals (refine Go ?_)
    all_goals (refine WL.step (ok_buildF (vs := [_]) (cs := [_, _, _, _, _, _, _, _, _, _, _]) (fun | [a0] => [a0, (.int .u8 0), (St []), (St []), (St []), (.int .i64 0), (.int .i64 0), (.slice none 0 0), (.slice none 0 0), (.slice none 0 0), (.slice none 0 0)] | _ => []) rfl rfl (by kernel_rfl)) rfl rfl rfl ?_)
    all_goals (refine WL.stepR (okE_buildSlice (vs := [_]) (cs := [_, _, _, _, _, _, _, _, _, _, _]) (fun | [.agg ⟨[a0, a1, a2, a3, a4, a5, a6, a7, a8, a9, a10]⟩] => [a0, a1, a2, a3, a4, a5, a6, a7, a8, a9, a10] | _ => []) Tryz.underlying33 rfl rfl (by kernel_rfl)) rfl rfl rfl ?_
               rintro _ h3 ⟨b3, rfl, hg3, hb3, hx3⟩)
    all_goals (have ho3 := ho.ext0 hx3)
    all_goals (refine WL.stepR (ok_append (sz := 11) (bytes := 168) rfl Tryz.underlying33 (show Tryz.prog.info? 42 = some Tryz.t42 by kernel_rfl) rfl rfl rfl rfl (by decide) rfl rfl ho3.own (rd_blk hb3 (len := 1) rfl) (bk0_ok h3 115 0 []).one (by simp only [maxLen]; omega) (by omega)) rfl rfl rfl ?_
               rintro v4 h4 ⟨ho4, hx4, hl4⟩)
    all_goals (have O4 := ho3.snoc (b := bk0 115 0 []) (bk0_ok _ _ _ _) (fun z hz => (bk0_F hz).elim) (fun z hz => (bk0_F hz).elim) (by have := hx.size; have := hx3.size; omega) ho4 hx4 hl4)
    all_goals (refine Go ?_)
    all_goals (refine Gs [(4, _)] ?_)
    all_goals (refine Gt ?_)
    all_goals (obtain rfl : k = L.length := by omega
               rw [List.take_length] at hp
               refine ⟨_, O4, by rw [List.map_append, hp]; simp [rowsRep, Bk.p, bk0, Function.comp_def], ?_⟩
               first
                | exact (hx.trans hx3).trans' hx4 (fun q hq e => by have := ho.vf q e; omega)
                | exact ((hx.trans hx2).trans hx3).trans' hx4 (fun q hq e => by have := ho.vf q e; omega))
    skip))
    all_goals (first | (fail_if_success refine goB 4 ?_) | (
    refine goB 4 ?_
    all_goals (refine WC.skip ?_)
    skip))
    all_goals (refine Gn ?_)
    all_goals (refine WC.sr ?_)
    all_goals (refine Go ?_)
    all_goals (refine WL.call (vs := [_]) rfl (fun a w => Tryz.call149 a w) rfl (tag_cols (L.length : Int) (by omega) (by omega)) rfl rfl rfl ?_
               rintro _ h2 ⟨rfl, hx2⟩)
    all_goals (refine WL.step (ok_buildF (vs := [_, _]) (cs := [_, _, _, _, _, _, _, _, _, _, _]) (fun | [a0, a2] => [a0, (.int .u8 0), a2, (St []), (St []), (.int .i64 0), (.int .i64 0), (.slice none 0 0), (.slice none 0 0), (.slice none 0 0), (.slice none 0 0)] | _ => []) rfl rfl (by kernel_rfl)) rfl rfl rfl ?_)
    all_goals (refine WL.stepR (okE_buildSlice (vs := [_]) (cs := [_, _, _, _, _, _, _, _, _, _, _]) (fun | [.agg ⟨[a0, a1, a2, a3, a4, a5, a6, a7, a8, a9, a10]⟩] => [a0, a1, a2, a3, a4, a5, a6, a7, a8, a9, a10] | _ => []) Tryz.underlying33 rfl rfl (by kernel_rfl)) rfl rfl rfl ?_
               rintro _ h3 ⟨b3, rfl, hg3, hb3, hx3⟩)
    all_goals (have ho3 := (ho.ext0 hx2).ext0 hx3)
    all_goals (refine WL.stepR (ok_append (sz := 11) (bytes := 168) rfl Tryz.underlying33 (show Tryz.prog.info? 42 = some Tryz.t42 by kernel_rfl) rfl rfl rfl rfl (by decide) rfl rfl ho3.own (rd_blk hb3 (len := 1) rfl) (bk0_ok h3 67 0 (tagP L.length)).one (by simp only [maxLen]; omega) (by omega)) rfl rfl rfl ?_
               rintro v4 h4 ⟨ho4, hx4, hl4⟩)
    all_goals (have O4 := ho3.snoc (b := bk0 67 0 (tagP L.length)) (bk0_ok _ _ _ _) (fun z hz => (bk0_F hz).elim) (fun z hz => (bk0_F hz).elim) (by have := hx.size; have := hx2.size; have := hx3.size; omega) ho4 hx4 hl4)
    all_goals (refine Go ?_)
    all_goals (refine Gs [(4, _)] ?_)
    all_goals (refine Gt ?_)
    all_goals (obtain rfl : k = L.length := by omega
               rw [List.take_length] at hp
               refine ⟨_, O4, by rw [List.map_append, hp]; simp [rowsRep, Bk.p, bk0, Function.comp_def], ?_⟩
               first
                | exact (hx.trans hx3).trans' hx4 (fun q hq e => by have := ho.vf q e; omega)
                | exact ((hx.trans hx2).trans hx3).trans' hx4 (fun q hq e => by have := ho.vf q e; omega))
end Go.Proofs.YtbokngiajfdanaaGreatDoor


/-
  SESSIONS (layer 30), by the code: a verb that runs, a C, a Z, a fault.
-/
namespace Go.Proofs.YtbokngiajfdanaaGreatDoor
open Go Go.RK

section
variable {h h' : Heap} {A : Ad} {st : Int} {sk ov : Bool} {cnt : Int} {L : List (List UInt8 × StD)} {P : List (List UInt8 × ItD)}
theorem clear_v (k : Ss h A st sk ov cnt L P) : CallsH Tryz.prog 45 ⟨[.pointer (some ⟨A.bp, 0, none⟩)]⟩ h fun u h' => u = .tuple ⟨[]⟩ ∧ Ss h' A st sk ov cnt L [] ∧ Tn A P h h' [] ∧ Ext (fun q => q = A.mp) h h' :=
  (clear_e k.se.pb k.se.pm).mono fun u h' ⟨e, hm, hx⟩ => ⟨e, (k.turnP (P' := []) hx hm (fun q hq => nomatch hq)).1, (k.turnP (P' := []) hx hm (fun q hq => nomatch hq)).2, hx⟩
theorem turn_end {g : Heap} {q : Nat} {tag : List UInt8} {P' : List (List UInt8 × ItD)} {st' : Int} {s : SP} {h1 : Heap} (k1 : Ss h1 A st' sk ov cnt L P') (T1 : Tn A P h h1 P') (hx : Ext No h1 g) (hq : g[q]? = some (.cells ⟨bkC 67 0 tag⟩ 42 (0, 0))) (hg : h1.size ≤ q) (hs : s = spO st' sk ov cnt L P') (hP : ∀ q ∈ P', q ∈ P) :
    DealtS h A L P (s, [{ kind := 67, tag := tag }], none) (.tuple ⟨[.slice (some ⟨q, 0, none⟩) 1 1, erV none]⟩) g := by
  subst hs
  exact ⟨_, [bk0 67 0 tag], (fun e => absurd rfl e), rfl, .tag hq (by have := T1.1.size; omega), rfl, _, _, fun _ h => h, hP, k1.ext0 hx, rfl, rfl, T1.trans (Tn.no hx)⟩
set_option maxHeartbeats 2000000 in
set_option maxRecDepth 100000 in
theorem turn_v (k : Ss h A st sk ov cnt L P) (v : VeD) : CallsH Tryz.prog 95 ⟨[.pointer (some ⟨A.bs, 0, none⟩), .agg ⟨v.cells⟩]⟩ h (DealtS h A L P (turnP (spO st sk ov cnt L P) v)) := by
  have kn := fun h' => txnext_v (h := h') k.sto v
  have ke := fun h' => exitD_v (h := h') v
  have lb := lt_of_some k.se.blk
  unfold VeD.cells veC at *
  rcases (show v.k = 1 ∧ turnP (spO st sk ov cnt L P) v = (spO st sk ov cnt L P, [{ kind := 73 }], none) ∨ v.k ≠ 1 ∧ v.k = 8 ∧ turnP (spO st sk ov cnt L P) v = (spO st sk ov cnt L P, [], some (v.c, ([102, 97, 105, 108, 101, 100, 32, 111, 110, 32, 112, 117, 114, 112, 111, 115, 101] : List UInt8)))
      ∨ v.k ≠ 1 ∧ v.k ≠ 8 ∧ turnP (spO st sk ov cnt L P) v = (spO (nextP st v).1 sk ov cnt L (if exitB v = true then [] else P), [{ kind := 67, tag := (nextP st v).2 }], none) by
    unfold turnP
    by_cases e1 : v.k = 1
    · exact .inl ⟨e1, if_pos e1⟩
    · by_cases e2 : v.k = 8
      · exact .inr (.inl ⟨e1, e2, by rw [if_neg e1, if_pos e2]⟩)
      · refine .inr (.inr ⟨e1, e2, ?_⟩)
        rw [if_neg e1, if_neg e2]
        simp only [spO]
        cases exitB v <;> rfl) with ⟨e1, e⟩ | ⟨e1, e2, e⟩ | ⟨e1, e2, e⟩
  · rw [e]
    refine calls [(0, _), (1, _)] Tryz.func95 rfl Tryz.ntmps95 rfl ⟨rfl, rfl, trivial⟩ ?_
    all_goals (refine WC.sr ?_)
    all_goals (refine WL.stepR (okE_box rfl) rfl rfl rfl ?_
               rintro _ h1 ⟨b3, rfl, hg1, hb1, hx1⟩)
    all_goals (refine Go ?_)
    all_goals (refine WC.seq ?_)
    all_goals (refine WC.sr ?_)
    all_goals (refine Go ?_)
    all_goals (refine WL.ld rfl (by first | exact cell_blk hb1 rfl | assumption | exact cell_blk (by assumption) rfl) rfl rfl rfl ?_)
    all_goals (refine Gn ?_)
    all_goals (refine Gs [(0, _), (3, _), (8, _)] ?_)
    all_goals (refine WC.block ?_)
    all_goals (refine WC.sr ?_)
    all_goals (refine Go ?_)
    all_goals (refine goC 1 2 ?_ ?_ <;> first | exact ⟨⟩ | refine Hb.mk fun hb => ?_ | skip)
    all_goals (first | (fail_if_success refine goB 1 ?_) | (
    refine goB 1 ?_
    all_goals (refine WC.sr ?_)
    all_goals (refine WL.call (vs := [_]) rfl (fun a w => Tryz.call82 a w) rfl (plain_v 73) rfl rfl rfl ?_
               rintro _ h6 ⟨q, rfl, hq6, hgq, hx6⟩)
    all_goals (refine Go ?_)
    all_goals (refine Gs [(4, _), (5, _)] ?_)
    all_goals (refine Gt ?_)
    all_goals (exact ⟨_, [bk0 73 0 []], (fun e => absurd rfl e), rfl, .tag hq6 (by have := hx1.size; omega), rfl, _, _, fun _ h => h, fun _ h => h, (k.ext0 hx1).ext0 hx6, rfl, rfl, Tn.no (hx1.trans hx6)⟩)
    skip))
    all_goals (first | (fail_if_success refine goB 2 ?_) | (
    refine goB 2 ?_
    all_goals (refine WC.sr ?_)
    all_goals (refine Go ?_)
    all_goals (refine Gs [(0, _), (3, _), (12, _)] ?_)
    all_goals (refine goC 3 4 ?_ ?_ <;> first | exact ⟨⟩ | refine Hb.mk fun hb => ?_ | skip)
    all_goals (first | (fail_if_success refine goB 4 ?_) | (
    refine goB 4 ?_
    all_goals (refine WC.skip ?_)
    skip))
    skip))
    all_goals (refine Gn ?_)
    all_goals (refine WC.sr ?_)
    all_goals (refine Go ?_)
    all_goals (refine WC.seq ?_)
    all_goals (refine WC.drawE fol (by kernel_rfl) ?_)
    all_goals (refine WQ.stepE (ok_move rfl) rfl rfl rfl ?_)
    all_goals (refine WQ.stepE (ok_move rfl) rfl rfl rfl ?_)
    all_goals (refine WQ.stepE (ok_nilCheck rfl) rfl rfl rfl ?_)
    all_goals (refine WQ.stepE (ok_fieldAddr rfl Tryz.underlying54 rfl (fun w => Tryz.sizeOf5 w)) rfl rfl rfl ?_)
    all_goals (refine WQ.stepE (ok_load (fun w => Tryz.isAgg5 w) rfl (by first | assumption | exact cell_blk (by assumption) rfl)) rfl rfl rfl ?_)
    all_goals (refine WQ.stepE (ok_loadN (fun w => Tryz.isAgg152 w) (fun w => Tryz.sizeOf152 w) rfl rfl (by assumption)) rfl rfl rfl ?_)
    all_goals (fail "no contract for call of remuda/tx.Next at 7.6")
    all_goals (refine WQ.stepE (ok_move rfl) rfl rfl rfl ?_)
    all_goals (refine WQ.stepE (ok_extract rfl rfl) rfl rfl rfl ?_)
    all_goals (refine WQ.stepE (ok_extract rfl rfl) rfl rfl rfl ?_)
    all_goals (refine WQ.stepE (ok_nilCheck rfl) rfl rfl rfl ?_)
    all_goals (refine WQ.stepE (ok_fieldAddr rfl Tryz.underlying54 rfl (fun w => Tryz.sizeOf5 w)) rfl rfl rfl ?_)
    all_goals (refine WL.stepR0 (okE_store (fun w => Tryz.sizeOf5 w) rfl rfl (by assumption) (Nat.le_of_ble_eq_true rfl) rfl rfl) rfl rfl ?_
               rintro _ h1 ⟨hb1, hx1⟩)
    all_goals (refine WQ.stepE (ok_assign rfl) rfl rfl rfl ?_)
    all_goals (refine WQ.nil ?_)
    all_goals (refine Gn ?_)
    all_goals (refine Gs [(0, _), (3, _), (6, _)] ?_)
    all_goals (refine WC.seq ?_)
    all_goals (refine WC.sr ?_)
    all_goals (refine WL.step (ok_loadN (fun w => Tryz.isAgg152 w) (fun w => Tryz.sizeOf152 w) rfl rfl (by assumption)) rfl rfl rfl ?_)
    all_goals (fail "no contract for call of remuda/sql.Exit at 8.1")
    all_goals (refine Gn ?_)
    all_goals (refine goC 5 6 ?_ ?_ <;> first | exact ⟨⟩ | refine Hb.mk fun hb => ?_ | skip)
    all_goals (first | (fail_if_success refine goB 6 ?_) | (
    refine goB 6 ?_
    all_goals (refine WC.skip ?_)
    skip))
    all_goals (refine Gn ?_)
    all_goals (refine Gs [(6, _)] ?_)
    all_goals (refine WC.sr ?_)
    all_goals (refine Go ?_)
    all_goals (refine WL.step (ok_buildF (vs := [_, _]) (cs := [_, _, _, _, _, _, _, _, _, _, _]) (fun | [a0, a2] => [a0, (.int .u8 0), a2, (St []), (St []), (.int .i64 0), (.int .i64 0), (.slice none 0 0), (.slice none 0 0), (.slice none 0 0), (.slice none 0 0)] | _ => []) rfl rfl (by kernel_rfl)) rfl rfl rfl ?_)
    all_goals (refine WL.stepR (okE_buildSlice (vs := [_]) (cs := [_, _, _, _, _, _, _, _, _, _, _]) (fun | [.agg ⟨[a0, a1, a2, a3, a4, a5, a6, a7, a8, a9, a10]⟩] => [a0, a1, a2, a3, a4, a5, a6, a7, a8, a9, a10] | _ => []) Tryz.underlying33 rfl rfl (by kernel_rfl)) rfl rfl rfl ?_
               rintro _ h1 ⟨b1, rfl, hg1, hb1, hx1⟩)
    all_goals (refine Go ?_)
    all_goals (refine Gs [(4, _), (5, _)] ?_)
    all_goals (refine Gt ?_)
    all_goals (exact ⟨_, [bk0 73 0 []], (fun e => absurd rfl e), rfl, .tag hq6 (by have := hx1.size; omega), rfl, _, _, fun _ h => h, fun _ h => h, (k.ext0 hx1).ext0 hx6, rfl, rfl, Tn.no (hx1.trans hx6)⟩)
  · rw [e]
    refine calls [(0, _), (1, _)] Tryz.func95 rfl Tryz.ntmps95 rfl ⟨rfl, rfl, trivial⟩ ?_
    all_goals (refine WC.sr ?_)
    all_goals (refine WL.stepR (okE_box rfl) rfl rfl rfl ?_
               rintro _ h1 ⟨b3, rfl, hg1, hb1, hx1⟩)
    all_goals (refine Go ?_)
    all_goals (refine WC.seq ?_)
    all_goals (refine WC.sr ?_)
    all_goals (refine Go ?_)
    all_goals (refine WL.ld rfl (by first | exact cell_blk hb1 rfl | assumption | exact cell_blk (by assumption) rfl) rfl rfl rfl ?_)
    all_goals (refine Gn ?_)
    all_goals (refine Gs [(0, _), (3, _), (8, _)] ?_)
    all_goals (refine WC.block ?_)
    all_goals (refine WC.sr ?_)
    all_goals (refine Go ?_)
    all_goals (refine goC 1 2 ?_ ?_ <;> first | exact ⟨⟩ | refine Hb.mk fun hb => ?_ | skip)
    all_goals (first | (fail_if_success refine goB 2 ?_) | (
    refine goB 2 ?_
    all_goals (refine WC.sr ?_)
    all_goals (refine Go ?_)
    all_goals (refine Gs [(0, _), (3, _), (12, _)] ?_)
    all_goals (refine goC 3 4 ?_ ?_ <;> first | exact ⟨⟩ | refine Hb.mk fun hb => ?_ | skip)
    all_goals (first | (fail_if_success refine goB 3 ?_) | (
    refine goB 3 ?_
    all_goals (refine WC.sr ?_)
    all_goals (refine Go ?_)
    all_goals (refine WL.ld rfl (by first | exact cell_blk hb1 rfl | assumption | exact cell_blk (by assumption) rfl) rfl rfl rfl ?_)
    all_goals (refine WL.call (vs := [_, _]) rfl (fun a w => Tryz.call79 a w) rfl (stop_v _ _) rfl rfl rfl ?_
               rintro _ hq ⟨rfl, hz⟩
               replace hz := hz.symm
               subst hz)
    all_goals (refine Go ?_)
    all_goals (refine Gs [(4, _), (5, _)] ?_)
    all_goals (refine Gt ?_)
    all_goals (exact ⟨_, [], fun _ => rfl, rfl, Outs.nil _ _, rfl, _, _, fun _ h => h, fun _ h => h, k.ext0 hx1, rfl, rfl, Tn.no hx1⟩)
    skip))
    all_goals (first | (fail_if_success refine goB 4 ?_) | (
    refine goB 4 ?_
    all_goals (refine WC.skip ?_)
    skip))
    skip))
    all_goals (refine Gn ?_)
    all_goals (refine WC.sr ?_)
    all_goals (refine Go ?_)
    all_goals (refine WC.seq ?_)
    all_goals (refine WC.drawE fol (by kernel_rfl) ?_)
    all_goals (refine WQ.stepE (ok_move rfl) rfl rfl rfl ?_)
    all_goals (refine WQ.stepE (ok_move rfl) rfl rfl rfl ?_)
    all_goals (refine WQ.stepE (ok_nilCheck rfl) rfl rfl rfl ?_)
    all_goals (refine WQ.stepE (ok_fieldAddr rfl Tryz.underlying54 rfl (fun w => Tryz.sizeOf5 w)) rfl rfl rfl ?_)
    all_goals (refine WQ.stepE (ok_load (fun w => Tryz.isAgg5 w) rfl (by first | assumption | exact cell_blk (by assumption) rfl)) rfl rfl rfl ?_)
    all_goals (refine WQ.stepE (ok_loadN (fun w => Tryz.isAgg152 w) (fun w => Tryz.sizeOf152 w) rfl rfl (by assumption)) rfl rfl rfl ?_)
    all_goals (fail "no contract for call of remuda/tx.Next at 7.6")
    all_goals (refine WQ.stepE (ok_move rfl) rfl rfl rfl ?_)
    all_goals (refine WQ.stepE (ok_extract rfl rfl) rfl rfl rfl ?_)
    all_goals (refine WQ.stepE (ok_extract rfl rfl) rfl rfl rfl ?_)
    all_goals (refine WQ.stepE (ok_nilCheck rfl) rfl rfl rfl ?_)
    all_goals (refine WQ.stepE (ok_fieldAddr rfl Tryz.underlying54 rfl (fun w => Tryz.sizeOf5 w)) rfl rfl rfl ?_)
    all_goals (refine WL.stepR0 (okE_store (fun w => Tryz.sizeOf5 w) rfl rfl (by assumption) (Nat.le_of_ble_eq_true rfl) rfl rfl) rfl rfl ?_
               rintro _ h1 ⟨hb1, hx1⟩)
    all_goals (refine WQ.stepE (ok_assign rfl) rfl rfl rfl ?_)
    all_goals (refine WQ.nil ?_)
    all_goals (refine Gn ?_)
    all_goals (refine Gs [(0, _), (3, _), (6, _)] ?_)
    all_goals (refine WC.seq ?_)
    all_goals (refine WC.sr ?_)
    all_goals (refine WL.step (ok_loadN (fun w => Tryz.isAgg152 w) (fun w => Tryz.sizeOf152 w) rfl rfl (by assumption)) rfl rfl rfl ?_)
    all_goals (fail "no contract for call of remuda/sql.Exit at 8.1")
    all_goals (refine Gn ?_)
    all_goals (refine goC 5 6 ?_ ?_ <;> first | exact ⟨⟩ | refine Hb.mk fun hb => ?_ | skip)
    all_goals (first | (fail_if_success refine goB 6 ?_) | (
    refine goB 6 ?_
    all_goals (refine WC.skip ?_)
    skip))
    all_goals (refine Gn ?_)
    all_goals (refine Gs [(6, _)] ?_)
    all_goals (refine WC.sr ?_)
    all_goals (refine Go ?_)
    all_goals (refine WL.step (ok_buildF (vs := [_, _]) (cs := [_, _, _, _, _, _, _, _, _, _, _]) (fun | [a0, a2] => [a0, (.int .u8 0), a2, (St []), (St []), (.int .i64 0), (.int .i64 0), (.slice none 0 0), (.slice none 0 0), (.slice none 0 0), (.slice none 0 0)] | _ => []) rfl rfl (by kernel_rfl)) rfl rfl rfl ?_)
    all_goals (refine WL.stepR (okE_buildSlice (vs := [_]) (cs := [_, _, _, _, _, _, _, _, _, _, _]) (fun | [.agg ⟨[a0, a1, a2, a3, a4, a5, a6, a7, a8, a9, a10]⟩] => [a0, a1, a2, a3, a4, a5, a6, a7, a8, a9, a10] | _ => []) Tryz.underlying33 rfl rfl (by kernel_rfl)) rfl rfl rfl ?_
               rintro _ h1 ⟨b1, rfl, hg1, hb1, hx1⟩)
    all_goals (refine Go ?_)
    all_goals (refine Gs [(4, _), (5, _)] ?_)
    all_goals (refine Gt ?_)
    all_goals (exact ⟨_, [], fun _ => rfl, rfl, Outs.nil _ _, rfl, _, _, fun _ h => h, fun _ h => h, k.ext0 hx1, rfl, rfl, Tn.no hx1⟩)
  · rw [e]
    clear e
    cases hex : exitB v
    all_goals
      rw [hex] at ke
      refine calls [(0, _), (1, _)] Tryz.func95 rfl Tryz.ntmps95 rfl ⟨rfl, rfl, trivial⟩ ?_
      all_goals (refine WC.sr ?_)
      all_goals (refine WL.stepR (okE_box rfl) rfl rfl rfl ?_
                 rintro _ h1 ⟨b3, rfl, hg1, hb1, hx1⟩)
      all_goals (have k1 := k.ext0 hx1
                 have hb := k1.se.blk
                 have n3 : ¬ b3 = A.bs := by omega)
      all_goals (refine Go ?_)
      all_goals (refine WC.seq ?_)
      all_goals (refine WC.sr ?_)
      all_goals (refine Go ?_)
      all_goals (refine WL.ld rfl (by first | exact cell_blk hb1 rfl | assumption | exact cell_blk (by assumption) rfl) rfl rfl rfl ?_)
      all_goals (refine Gn ?_)
      all_goals (refine Gs [(0, _), (3, _), (8, _)] ?_)
      all_goals (refine WC.block ?_)
      all_goals (refine WC.sr ?_)
      all_goals (refine Go ?_)
      all_goals (refine goC 1 2 ?_ ?_ <;> first | exact ⟨⟩ | refine Hb.mk fun hb => ?_ | skip)
      all_goals (first | (fail_if_success refine goB 2 ?_) | (
      refine goB 2 ?_
      all_goals (refine WC.sr ?_)
      all_goals (refine Go ?_)
      all_goals (refine Gs [(0, _), (3, _), (12, _)] ?_)
      all_goals (refine goC 3 4 ?_ ?_ <;> first | exact ⟨⟩ | refine Hb.mk fun hb => ?_ | skip)
      all_goals (first | (fail_if_success refine goB 4 ?_) | (
      refine goB 4 ?_
      all_goals (refine WC.skip ?_)
      skip))
      skip))
      all_goals (refine Gn ?_)
      all_goals (refine WC.sr ?_)
      all_goals (refine Go ?_)
      all_goals (refine WC.seq ?_)
      all_goals (refine WC.drawH (fun h' => Ext (fun q => q = A.bs) h1 h') 14 14 rfl fol ?_)
      all_goals (refine WH.tk 0 rfl (fun hq hC => ok_move rfl) rfl rfl rfl ?_)
      all_goals (refine WH.tk 1 rfl (fun hq hC => ok_move rfl) rfl rfl rfl ?_)
      all_goals (refine WH.tk 2 rfl (fun hq hC => ok_nilCheck rfl) rfl rfl rfl ?_)
      all_goals (refine WH.tk 3 rfl (fun hq hC => ok_fieldAddr rfl Tryz.underlying54 rfl (fun w => Tryz.sizeOf5 w)) rfl rfl rfl ?_)
      all_goals (refine WH.tk 5 rfl (fun hq hC => ok_loadN (fun w => Tryz.isAgg152 w) (fun w => Tryz.sizeOf152 w) rfl rfl (by exact (At.of_block hb1).ext hC n3)) rfl rfl rfl ?_)
      all_goals (refine WH.one 4 (by kernel_rfl) ?_)
      all_goals (refine Comes1.run rfl (OkP.r (ok_load (fun w => Tryz.isAgg5 w) rfl (by first | exact cell_blk hb rfl | assumption | exact cell_blk (by assumption) rfl))) rfl rfl rfl ?_ (fun _ => by kernel_rfl)
                 rintro _ hz ⟨rfl, _⟩
                 subst hz)
      all_goals (refine ⟨fun _ => .refl _ _, ?_⟩)
      all_goals (refine WH.one 6 (by kernel_rfl) ?_)
      all_goals (refine Comes1.call (vs := [_, _]) rfl rfl (fun a w => Tryz.call150 a w) rfl (kn _) rfl rfl rfl ?_ (fun _ => by kernel_rfl)
                 rintro _ h2 ⟨rfl, hx2⟩)
      all_goals (refine ⟨fun _ => hx2.mono fun _ _ e => e.elim, ?_⟩)
      all_goals (have hC2 : Ext (fun q => q = A.bs) h1 h2 := hx2.mono fun _ _ e => e.elim
                 have hbs2 := hx2.obj hb nos)
      all_goals (refine WH.tk 7 rfl (fun hq hC => ok_move rfl) rfl rfl rfl ?_)
      all_goals (refine WH.tk 8 rfl (fun hq hC => ok_extract rfl rfl) rfl rfl rfl ?_)
      all_goals (refine WH.tk 9 rfl (fun hq hC => ok_extract rfl rfl) rfl rfl rfl ?_)
      all_goals (refine WH.tk 10 rfl (fun hq hC => ok_nilCheck rfl) rfl rfl rfl ?_)
      all_goals (refine WH.tk 11 rfl (fun hq hC => ok_fieldAddr rfl Tryz.underlying54 rfl (fun w => Tryz.sizeOf5 w)) rfl rfl rfl ?_)
      all_goals (refine WH.one 12 (by kernel_rfl) ?_)
      all_goals (refine Comes1.run0 rfl (okE_store (fun w => Tryz.sizeOf5 w) rfl rfl hbs2 (Nat.le_of_ble_eq_true rfl) rfl rfl) rfl rfl ?_ (fun _ => by kernel_rfl)
                 rintro _ h3 ⟨hb3, hx3⟩)
      all_goals (refine ⟨fun _ => hC2.trans hx3, ?_⟩)
      all_goals (have hC3 := hC2.trans hx3
                 obtain ⟨k3, t3⟩ := (k1.ext0 hx2).turnS hx3 hb3 (nextP_ok k.sto v)
                 have T3 := (Tn.no (A := A) (P := P) (hx1.trans hx2)).trans t3)
      all_goals (refine WH.tk 13 rfl (fun hq hC => ok_assign rfl) rfl rfl rfl ?_)
      all_goals (refine WH.done (by kernel_rfl) ?_)
      all_goals (refine Gn ?_)
      all_goals (refine Gs [(0, _), (3, _), (6, _)] ?_)
      all_goals (refine WC.seq ?_)
      all_goals (refine WC.sr ?_)
      all_goals (refine WL.step (ok_loadN (fun w => Tryz.isAgg152 w) (fun w => Tryz.sizeOf152 w) rfl rfl (by exact (At.of_block hb1).ext hC3 n3)) rfl rfl rfl ?_)
      all_goals (refine WL.call (vs := [_]) rfl (fun a w => Tryz.call151 a w) rfl (ke _) rfl rfl rfl ?_
                 rintro _ h4 ⟨rfl, hx4⟩
                 have k4 := k3.ext0 hx4
                 have T4 := T3.trans (Tn.no (A := A) (P := P) hx4))
      all_goals (refine Gn ?_)
      all_goals (refine goC 5 6 ?_ ?_ <;> first | exact ⟨⟩ | refine Hb.mk fun hb => ?_ | skip)
      all_goals (first | (fail_if_success refine goB 5 ?_) | (
      refine goB 5 ?_
      all_goals (refine WC.region ?_)
      all_goals (refine Go ?_)
      all_goals (refine WL.step (ok_nilCheck rfl) rfl rfl rfl ?_)
      all_goals (refine Go ?_)
      all_goals (refine WL.ld rfl (by first | exact cell_blk k4.se.blk rfl | assumption | exact cell_blk (by assumption) rfl) rfl rfl rfl ?_)
      all_goals (refine WL.call (vs := [_]) rfl (fun a w => Tryz.call45 a w) rfl (clear_v k4) rfl rfl rfl ?_
                 rintro _ h5 ⟨rfl, k5, t5, hx5⟩
                 have T5 := T4.trans t5)
      all_goals (refine Gn ?_)
      skip))
      all_goals (first | (fail_if_success refine goB 6 ?_) | (
      refine goB 6 ?_
      all_goals (refine WC.skip ?_)
      skip))
      all_goals (refine Gn ?_)
      all_goals (refine Gs [(6, _)] ?_)
      all_goals (refine WC.sr ?_)
      all_goals (refine Go ?_)
      all_goals (refine WL.step (ok_buildF (vs := [_, _]) (cs := [_, _, _, _, _, _, _, _, _, _, _]) (fun | [a0, a2] => [a0, (.int .u8 0), a2, (St []), (St []), (.int .i64 0), (.int .i64 0), (.slice none 0 0), (.slice none 0 0), (.slice none 0 0), (.slice none 0 0)] | _ => []) rfl rfl (by kernel_rfl)) rfl rfl rfl ?_)
      all_goals (refine WL.stepR (okE_buildSlice (vs := [_]) (cs := [_, _, _, _, _, _, _, _, _, _, _]) (fun | [.agg ⟨[a0, a1, a2, a3, a4, a5, a6, a7, a8, a9, a10]⟩] => [a0, a1, a2, a3, a4, a5, a6, a7, a8, a9, a10] | _ => []) Tryz.underlying33 rfl rfl (by kernel_rfl)) rfl rfl rfl ?_
                 rintro _ h6 ⟨b6, rfl, hg6, hb6, hx6⟩)
      all_goals (refine Go ?_)
      all_goals (refine Gs [(4, _), (5, _)] ?_)
      all_goals (refine Gt ?_)
      all_goals (first
                  | exact turn_end k4 T4 hx6 hb6 hg6 rfl (fun _ h => h)
                  | exact turn_end k5 T5 hx6 hb6 hg6 rfl (fun _ h => nomatch h))
set_option maxHeartbeats 2000000 in
set_option maxRecDepth 100000 in
theorem shut_v (k : Ss h A st sk ov cnt L P) (f : Fm) (hf : f.ok h) : CallsH Tryz.prog 50 ⟨[.pointer (some ⟨A.bs, 0, none⟩), .agg ⟨f.cells⟩]⟩ h (Dealt h A P (shutP (spO st sk ov cnt L P) f.p)) := by
  have hd1 := fun (e : f.what = 83) => show shutP (spO st sk ov cnt L P) f.p = _ from if_pos e
  have hd2 := fun (e : ¬ f.what = 83) => show shutP (spO st sk ov cnt L P) f.p = _ from if_neg e
  obtain ⟨⟨e1, _⟩, ⟨e2, _⟩, ⟨e3, _⟩, e4, _⟩ := hf
  obtain ⟨fk, w, n, p, t, vo, o, vf, fs, vs, rs, vp, ps, mx⟩ := f
  dsimp only at e1 e2 e3 e4
  obtain ⟨A1, c1, rfl, _⟩ := e1
  obtain ⟨_, _, rfl, _⟩ := e2
  obtain ⟨_, _, rfl, _⟩ := e3
  obtain ⟨A4, c4, rfl, _⟩ := e4
  by_cases hw : w = 83
  · rw [hd1 hw]
    dsimp only [Fm.cells, Fm.p]
    refine calls [(0, _), (1, _)] Tryz.func50 rfl Tryz.ntmps50 rfl ⟨rfl, rfl, trivial⟩ ?_
    all_goals (refine WC.sr ?_)
    all_goals (refine WL.stepR (okE_box rfl) rfl rfl rfl ?_
               rintro _ h1 ⟨b3, rfl, hg1, hb1, hx1⟩)
    all_goals (have k1 := k.ext0 hx1
               have hb := k1.se.blk
               have hms := k1.se.stm)
    all_goals (refine Go ?_)
    all_goals (refine WC.seq ?_)
    all_goals (refine WC.sr ?_)
    all_goals (refine Go ?_)
    all_goals (refine WL.ld rfl (by first | exact cell_blk hb1 rfl | assumption | exact cell_blk (by assumption) rfl) rfl rfl rfl ?_)
    all_goals (refine Go ?_)
    all_goals (refine Gs [(0, _), (3, _), (8, _)] ?_)
    all_goals (refine goC 1 2 ?_ ?_ <;> first | exact ⟨⟩ | refine Hb.mk fun hb => ?_ | skip)
    all_goals (first | (fail_if_success refine goB 1 ?_) | (
    refine goB 1 ?_
    all_goals (refine WC.drawT 6 fol (by kernel_rfl) ?_)
    all_goals (show WS _ _ _ [_, _, _, _, _, _] _ _ _)
    all_goals (refine WS.step (ok_move rfl) rfl rfl rfl ?_)
    all_goals (refine WS.step (ok_nilCheck rfl) rfl rfl rfl ?_)
    all_goals (refine WS.step (ok_fieldAddr rfl Tryz.underlying54 rfl (fun w => Tryz.sizeOf50 w)) rfl rfl rfl ?_)
    all_goals (refine WS.step (ok_load (fun w => Tryz.isAgg50 w) rfl (by first | exact cell_blk hb rfl | assumption | exact cell_blk (by assumption) rfl)) rfl rfl rfl ?_)
    all_goals (refine WS.step (ok_fieldAddr rfl Tryz.underlying32 rfl (fun w => Tryz.sizeOf9 w)) rfl rfl rfl ?_)
    all_goals (refine WS.step (ok_load (fun w => Tryz.isAgg9 w) rfl (by first | exact cell_blk hb1 rfl | assumption | exact cell_blk (by assumption) rfl)) rfl rfl rfl ?_)
    all_goals (refine WS.nil ?_)
    all_goals (show WL _ _ _ [_] _ _ _)
    all_goals (refine WL.stepR0 (ok_delete rfl keyS Tryz.underlying50 Tryz.underlying9 rfl rfl hms) rfl rfl ?_
               rintro _ h2 ⟨hm2, hx2⟩)
    all_goals (rw [adel_encK] at hm2
               obtain ⟨k2, t2⟩ := k1.turnL hx2 hm2 (fun q hq => .inl (mem_delK hq).1)
               have T2 := (Tn.no (A := A) (P := P) hx1).trans t2)
    all_goals (refine WL.nil ?_)
    skip))
    all_goals (refine Gn ?_)
    all_goals (refine WC.sr ?_)
    all_goals (refine WL.call (vs := [_]) rfl (fun a w => Tryz.call82 a w) rfl (plain_v 51) rfl rfl rfl ?_
               rintro _ h6 ⟨q, rfl, hq6, hgq, hx6⟩)
    all_goals (refine Go ?_)
    all_goals (refine Gs [(4, _), (5, _)] ?_)
    all_goals (refine Gt ?_)
    all_goals (exact ⟨_, [bk0 51 0 []], (fun e => absurd rfl e), rfl, .tag hq6 (by have := T2.1.size; omega), rfl, _, _, k2.ext0 hx6, delL_pl _ _, rfl, T2.trans (Tn.no hx6)⟩)
  · rw [hd2 hw]
    dsimp only [Fm.cells, Fm.p]
    rcases hg : getK P p with _ | i
    · have hlk : alook (encK pcE P) p = none := by rw [alook_encK, hg]; rfl
      have hde : delK P p = P := List.filter_eq_self.2 fun q hq => by simpa using getK_no hg q hq
      have kd := fun (g : Heap) (k : Ss g A st sk ov cnt L P) => del_no p k.se.pb k.se.pm hlk
      refine calls [(0, _), (1, _)] Tryz.func50 rfl Tryz.ntmps50 rfl ⟨rfl, rfl, trivial⟩ ?_
      all_goals (refine WC.sr ?_)
      all_goals (refine WL.stepR (okE_box rfl) rfl rfl rfl ?_
                 rintro _ h1 ⟨b3, rfl, hg1, hb1, hx1⟩)
      all_goals (have k1 := k.ext0 hx1
                 have hb := k1.se.blk)
      all_goals (refine Go ?_)
      all_goals (refine WC.seq ?_)
      all_goals (refine WC.sr ?_)
      all_goals (refine Go ?_)
      all_goals (refine WL.ld rfl (by first | exact cell_blk hb1 rfl | assumption | exact cell_blk (by assumption) rfl) rfl rfl rfl ?_)
      all_goals (refine Go ?_)
      all_goals (refine Gs [(0, _), (3, _), (8, _)] ?_)
      all_goals (refine goC 1 2 ?_ ?_ <;> first | exact ⟨⟩ | refine Hb.mk fun hb => ?_ | skip)
      all_goals (first | (fail_if_success refine goB 1 ?_) | (
      refine goB 1 ?_
      all_goals (refine WC.drawE fol (by kernel_rfl) ?_)
      all_goals (refine WQ.stepE (ok_move rfl) rfl rfl rfl ?_)
      all_goals (refine WQ.stepE (ok_nilCheck rfl) rfl rfl rfl ?_)
      all_goals (refine WQ.stepE (ok_fieldAddr rfl Tryz.underlying54 rfl (fun w => Tryz.sizeOf50 w)) rfl rfl rfl ?_)
      all_goals (refine WQ.stepE (ok_load (fun w => Tryz.isAgg50 w) rfl (by first | assumption | exact cell_blk (by assumption) rfl)) rfl rfl rfl ?_)
      all_goals (refine WQ.stepE (ok_fieldAddr rfl Tryz.underlying32 rfl (fun w => Tryz.sizeOf9 w)) rfl rfl rfl ?_)
      all_goals (refine WQ.stepE (ok_load (fun w => Tryz.isAgg9 w) rfl (by first | assumption | exact cell_blk (by assumption) rfl)) rfl rfl rfl ?_)
      all_goals (refine WL.stepR0 (ok_delete rfl keyS Tryz.underlying50 Tryz.underlying9 rfl rfl (by assumption)) rfl rfl ?_
                 rintro _ h1 ⟨hm1, hx1⟩)
      all_goals (refine WQ.nil ?_)
      skip))
      all_goals (first | (fail_if_success refine goB 2 ?_) | (
      refine goB 2 ?_
      all_goals (refine WC.drawT 6 fol (by kernel_rfl) ?_)
      all_goals (show WS _ _ _ [_, _, _, _, _, _] _ _ _)
      all_goals (refine WS.step (ok_move rfl) rfl rfl rfl ?_)
      all_goals (refine WS.step (ok_nilCheck rfl) rfl rfl rfl ?_)
      all_goals (refine WS.step (ok_fieldAddr rfl Tryz.underlying54 rfl (fun w => Tryz.sizeOf51 w)) rfl rfl rfl ?_)
      all_goals (refine WS.step (ok_load (fun w => Tryz.isAgg51 w) rfl (by first | exact cell_blk hb rfl | assumption | exact cell_blk (by assumption) rfl)) rfl rfl rfl ?_)
      all_goals (refine WS.step (ok_fieldAddr rfl Tryz.underlying32 rfl (fun w => Tryz.sizeOf9 w)) rfl rfl rfl ?_)
      all_goals (refine WS.step (ok_load (fun w => Tryz.isAgg9 w) rfl (by first | exact cell_blk hb1 rfl | assumption | exact cell_blk (by assumption) rfl)) rfl rfl rfl ?_)
      all_goals (refine WS.nil ?_)
      all_goals (show WL _ _ _ [_] _ _ _)
      all_goals (refine WL.call (vs := [_, _]) rfl (fun a w => Tryz.call96 a w) rfl (kd _ k1) rfl rfl rfl ?_
                 rintro _ hq ⟨rfl, hz⟩
                 replace hz := hz.symm
                 subst hz)
      all_goals (refine WL.nil ?_)
      skip))
      all_goals (refine Gn ?_)
      all_goals (refine WC.sr ?_)
      all_goals (refine WL.call (vs := [_]) rfl (fun a w => Tryz.call82 a w) rfl (plain_v 51) rfl rfl rfl ?_
                 rintro _ h6 ⟨q, rfl, hq6, hgq, hx6⟩)
      all_goals (refine Go ?_)
      all_goals (refine Gs [(4, _), (5, _)] ?_)
      all_goals (refine Gt ?_)
      all_goals (exact ⟨_, [bk0 51 0 []], (fun e => absurd rfl e), rfl, .tag hq6 (by have := hx1.size; omega), rfl, _, _, k1.ext0 hx6, rfl, (congrArg plP hde).symm.trans (delP_pl _ _), Tn.no (hx1.trans hx6)⟩)
    · have kd := fun (g : Heap) (k : Ss g A st sk ov cnt L P) => del_e (k.pe hg)
      refine calls [(0, _), (1, _)] Tryz.func50 rfl Tryz.ntmps50 rfl ⟨rfl, rfl, trivial⟩ ?_
      all_goals (refine WC.sr ?_)
      all_goals (refine WL.stepR (okE_box rfl) rfl rfl rfl ?_
                 rintro _ h1 ⟨b3, rfl, hg1, hb1, hx1⟩)
      all_goals (have k1 := k.ext0 hx1
                 have hb := k1.se.blk)
      all_goals (refine Go ?_)
      all_goals (refine WC.seq ?_)
      all_goals (refine WC.sr ?_)
      all_goals (refine Go ?_)
      all_goals (refine WL.ld rfl (by first | exact cell_blk hb1 rfl | assumption | exact cell_blk (by assumption) rfl) rfl rfl rfl ?_)
      all_goals (refine Go ?_)
      all_goals (refine Gs [(0, _), (3, _), (8, _)] ?_)
      all_goals (refine goC 1 2 ?_ ?_ <;> first | exact ⟨⟩ | refine Hb.mk fun hb => ?_ | skip)
      all_goals (first | (fail_if_success refine goB 1 ?_) | (
      refine goB 1 ?_
      all_goals (refine WC.drawE fol (by kernel_rfl) ?_)
      all_goals (refine WQ.stepE (ok_move rfl) rfl rfl rfl ?_)
      all_goals (refine WQ.stepE (ok_nilCheck rfl) rfl rfl rfl ?_)
      all_goals (refine WQ.stepE (ok_fieldAddr rfl Tryz.underlying54 rfl (fun w => Tryz.sizeOf50 w)) rfl rfl rfl ?_)
      all_goals (refine WQ.stepE (ok_load (fun w => Tryz.isAgg50 w) rfl (by first | assumption | exact cell_blk (by assumption) rfl)) rfl rfl rfl ?_)
      all_goals (refine WQ.stepE (ok_fieldAddr rfl Tryz.underlying32 rfl (fun w => Tryz.sizeOf9 w)) rfl rfl rfl ?_)
      all_goals (refine WQ.stepE (ok_load (fun w => Tryz.isAgg9 w) rfl (by first | assumption | exact cell_blk (by assumption) rfl)) rfl rfl rfl ?_)
      all_goals (refine WL.stepR0 (ok_delete rfl keyS Tryz.underlying50 Tryz.underlying9 rfl rfl (by assumption)) rfl rfl ?_
                 rintro _ h1 ⟨hm1, hx1⟩)
      all_goals (refine WQ.nil ?_)
      skip))
      all_goals (first | (fail_if_success refine goB 2 ?_) | (
      refine goB 2 ?_
      all_goals (refine WC.drawT 6 fol (by kernel_rfl) ?_)
      all_goals (show WS _ _ _ [_, _, _, _, _, _] _ _ _)
      all_goals (refine WS.step (ok_move rfl) rfl rfl rfl ?_)
      all_goals (refine WS.step (ok_nilCheck rfl) rfl rfl rfl ?_)
      all_goals (refine WS.step (ok_fieldAddr rfl Tryz.underlying54 rfl (fun w => Tryz.sizeOf51 w)) rfl rfl rfl ?_)
      all_goals (refine WS.step (ok_load (fun w => Tryz.isAgg51 w) rfl (by first | exact cell_blk hb rfl | assumption | exact cell_blk (by assumption) rfl)) rfl rfl rfl ?_)
      all_goals (refine WS.step (ok_fieldAddr rfl Tryz.underlying32 rfl (fun w => Tryz.sizeOf9 w)) rfl rfl rfl ?_)
      all_goals (refine WS.step (ok_load (fun w => Tryz.isAgg9 w) rfl (by first | exact cell_blk hb1 rfl | assumption | exact cell_blk (by assumption) rfl)) rfl rfl rfl ?_)
      all_goals (refine WS.nil ?_)
      all_goals (show WL _ _ _ [_] _ _ _)
      all_goals (refine WL.call (vs := [_, _]) rfl (fun a w => Tryz.call96 a w) rfl (kd _ k1) rfl rfl rfl ?_
                 rintro _ h2 ⟨rfl, hm2, hx2⟩
                 rw [adel_encK] at hm2
                 obtain ⟨k2, t2⟩ := k1.turnP hx2 hm2 (fun q hq => (mem_delK hq).1)
                 have T2 := (Tn.no (A := A) (P := P) hx1).trans t2)
      all_goals (refine WL.nil ?_)
      skip))
      all_goals (refine Gn ?_)
      all_goals (refine WC.sr ?_)
      all_goals (refine WL.call (vs := [_]) rfl (fun a w => Tryz.call82 a w) rfl (plain_v 51) rfl rfl rfl ?_
                 rintro _ h6 ⟨q, rfl, hq6, hgq, hx6⟩)
      all_goals (refine Go ?_)
      all_goals (refine Gs [(4, _), (5, _)] ?_)
      all_goals (refine Gt ?_)
      all_goals (exact ⟨_, [bk0 51 0 []], (fun e => absurd rfl e), rfl, .tag hq6 (by have := T2.1.size; omega), rfl, _, _, k2.ext0 hx6, rfl, delP_pl _ _, T2.trans (Tn.no hx6)⟩)
set_option maxHeartbeats 2000000 in
set_option maxRecDepth 100000 in
/-- A Z: what is told, and the session behind it. -/
theorem syncD_v' (k : Ss h A st sk ov cnt L P) : CallsH Tryz.prog 22 ⟨[.pointer (some ⟨A.bs, 0, none⟩)]⟩ h fun u h' => u = .agg ⟨bkC 90 st []⟩ ∧ Ss h' A st sk ov cnt L (if st = 73 then [] else P) ∧ Tn A P h h' (if st = 73 then [] else P) ∧ Ext (fun q => q = A.mp) h h' := by
  have hb := k.se.blk
  by_cases e : st = 73
  · rw [if_pos e]
    refine calls [(0, _)] Tryz.func22 rfl Tryz.ntmps22 rfl ⟨rfl, trivial⟩ ?_
    all_goals (refine WC.sr ?_)
    all_goals (refine WL.stepR (okE_alloc (fun w => Tryz.zeroValue42 w)) rfl rfl rfl ?_
               rintro _ h1 ⟨b2, rfl, hg1, hb2, hx1⟩)
    all_goals (have k1 := k.ext0 hx1
               have l2 := lt_of_some hb2)
    all_goals (refine Gn ?_)
    all_goals (refine WC.seq ?_)
    all_goals (refine WC.sr ?_)
    all_goals (refine Go ?_)
    all_goals (refine WL.step (ok_nilCheck rfl) rfl rfl rfl ?_)
    all_goals (refine Go ?_)
    all_goals (refine WL.ld rfl (by first | exact cell_blk k1.se.blk rfl | assumption | exact cell_blk (by assumption) rfl) rfl rfl rfl ?_)
    all_goals (refine Go ?_)
    all_goals (refine Gs [(0, _), (2, _), (7, _)] ?_)
    all_goals (refine goC 1 2 ?_ ?_ <;> first | exact ⟨⟩ | refine Hb.mk fun hb => ?_ | skip)
    all_goals (first | (fail_if_success refine goB 1 ?_) | (
    refine goB 1 ?_
    all_goals (refine WC.region ?_)
    all_goals (refine Go ?_)
    all_goals (refine WL.step (ok_nilCheck rfl) rfl rfl rfl ?_)
    all_goals (refine Go ?_)
    all_goals (refine WL.ld rfl (by first | exact cell_blk k1.se.blk rfl | assumption | exact cell_blk (by assumption) rfl) rfl rfl rfl ?_)
    all_goals (refine WL.call (vs := [_]) rfl (fun a w => Tryz.call45 a w) rfl (clear_v k1) rfl rfl rfl ?_
               rintro _ h2 ⟨rfl, k2, t2, hx2⟩
               have hb22 := t2.1.obj hb2 (k1.not hb2 (by decide) (by decide) (by decide)))
    all_goals (refine Gn ?_)
    skip))
    all_goals (first | (fail_if_success refine goB 2 ?_) | (
    refine goB 2 ?_
    all_goals (refine WC.skip ?_)
    skip))
    all_goals (refine Gn ?_)
    all_goals (refine WC.sr ?_)
    all_goals (refine Go ?_)
    all_goals (refine WL.step (ok_nilCheck rfl) rfl rfl rfl ?_)
    all_goals (refine Go ?_)
    all_goals (refine WL.ld rfl (by first | exact cell_blk k2.se.blk rfl | assumption | exact cell_blk (by assumption) rfl) rfl rfl rfl ?_)
    all_goals (refine WL.step (ok_buildF (vs := [_, _]) (cs := [_, _, _, _, _, _, _, _, _, _, _]) (fun | [a0, a1] => [a0, a1, (St []), (St []), (St []), (.int .i64 0), (.int .i64 0), (.slice none 0 0), (.slice none 0 0), (.slice none 0 0), (.slice none 0 0)] | _ => []) rfl rfl (by kernel_rfl)) rfl rfl rfl ?_)
    all_goals (refine WL.stepR0 (okE_storeW (fun w => Tryz.sizeOf42 w) rfl rfl rfl hb22 rfl (by simp [Value.oneCell'])) rfl rfl ?_
               rintro _ h3 ⟨hb3, hx3⟩)
    all_goals (refine Gn ?_)
    all_goals (refine Gs [(2, _)] ?_)
    all_goals (refine WC.ret ?_)
    all_goals (repeat' (with_reducible first | refine thenP_r ?_ | refine blockP_r ?_))
    all_goals (refine retP_1 _ ⟨⟨_, rfl, ld_blk (fun w => Tryz.isAgg42 w) (fun w => Tryz.sizeOf42 w) hb3 rfl⟩, trivial⟩ ?_)
    all_goals (have X3 : Ext (fun q => q = A.mp) h h3 := ((hx1.mono fun _ _ e => e.elim).trans hx2).trans' hx3 (fun q hq e => by omega)
               have kk := k.turnP (P' := []) X3 (k2.se.pm.ext hx3 (fun e => mpNo k2.se.pm hb22 e.symm)) (fun q hq => nomatch hq)
               exact ⟨rfl, kk.1, kk.2, X3⟩)
  · rw [if_neg e]
    refine calls [(0, _)] Tryz.func22 rfl Tryz.ntmps22 rfl ⟨rfl, trivial⟩ ?_
    all_goals (refine WC.sr ?_)
    all_goals (refine WL.stepR (okE_alloc (fun w => Tryz.zeroValue42 w)) rfl rfl rfl ?_
               rintro _ h1 ⟨b2, rfl, hg1, hb2, hx1⟩)
    all_goals (have k1 := k.ext0 hx1)
    all_goals (refine Gn ?_)
    all_goals (refine WC.seq ?_)
    all_goals (refine WC.sr ?_)
    all_goals (refine Go ?_)
    all_goals (refine WL.step (ok_nilCheck rfl) rfl rfl rfl ?_)
    all_goals (refine Go ?_)
    all_goals (refine WL.ld rfl (by first | exact cell_blk k1.se.blk rfl | assumption | exact cell_blk (by assumption) rfl) rfl rfl rfl ?_)
    all_goals (refine Go ?_)
    all_goals (refine Gs [(0, _), (2, _), (7, _)] ?_)
    all_goals (refine goC 1 2 ?_ ?_ <;> first | exact ⟨⟩ | refine Hb.mk fun hb => ?_ | skip)
    all_goals (first | (fail_if_success refine goB 2 ?_) | (
    refine goB 2 ?_
    all_goals (refine WC.skip ?_)
    skip))
    all_goals (refine Gn ?_)
    all_goals (refine WC.sr ?_)
    all_goals (refine Go ?_)
    all_goals (refine WL.step (ok_nilCheck rfl) rfl rfl rfl ?_)
    all_goals (refine Go ?_)
    all_goals (refine WL.ld rfl (by first | exact cell_blk k1.se.blk rfl | assumption | exact cell_blk (by assumption) rfl) rfl rfl rfl ?_)
    all_goals (refine WL.step (ok_buildF (vs := [_, _]) (cs := [_, _, _, _, _, _, _, _, _, _, _]) (fun | [a0, a1] => [a0, a1, (St []), (St []), (St []), (.int .i64 0), (.int .i64 0), (.slice none 0 0), (.slice none 0 0), (.slice none 0 0), (.slice none 0 0)] | _ => []) rfl rfl (by kernel_rfl)) rfl rfl rfl ?_)
    all_goals (refine WL.stepR0 (okE_storeW (fun w => Tryz.sizeOf42 w) rfl rfl rfl hb2 rfl (by simp [Value.oneCell'])) rfl rfl ?_
               rintro _ h3 ⟨hb3, hx3⟩)
    all_goals (refine Gn ?_)
    all_goals (refine Gs [(2, _)] ?_)
    all_goals (refine WC.ret ?_)
    all_goals (repeat' (with_reducible first | refine thenP_r ?_ | refine blockP_r ?_))
    all_goals (refine retP_1 _ ⟨⟨_, rfl, ld_blk (fun w => Tryz.isAgg42 w) (fun w => Tryz.sizeOf42 w) hb3 rfl⟩, trivial⟩ ?_)
    all_goals (have X3 : Ext No h h3 := hx1.trans' hx3 (fun q hq e => by omega)
               exact ⟨rfl, k.ext0 X3, Tn.no X3, X3.mono fun _ _ e => e.elim⟩)
theorem syncD_v (k : Ss h A st sk ov cnt L P) : CallsH Tryz.prog 22 ⟨[.pointer (some ⟨A.bs, 0, none⟩)]⟩ h fun u h' => u = .agg ⟨bkC 90 st []⟩ ∧ Sv h A P h' (syncP (spO st sk ov cnt L P)).1 ∧ Ext (fun q => q = A.mp) h h' :=
  (syncD_v' k).mono fun u h' ⟨e, kk, tt, x⟩ => ⟨e, ⟨L, _, kk, rfl, by by_cases e : st = 73 <;> simp [syncP, spO, e, plP], tt⟩, x⟩
end
end Go.Proofs.YtbokngiajfdanaaGreatDoor


/-
  A NUMBER THAT IS ADDED TO AS ONE (sync/atomic.AddInt64). No program is named here.
-/
namespace Go.RK
open Go
section
variable {P : Program} {f : Fr} {h : Heap} {d : Option Tmp} {ty : TypeId} {pos : String} {af : Array Edge} {g : Option (Nat × Bool)}
theorem okE_extern2 {k : FuncId} {x y : Operand} {a b : Value} {ts : Array TypeId} {R : Value → Heap → Prop} (hc : ∀ w : World, w.heap = h → ∃ u w', Same w w' ∧ R u w'.heap ∧ (callFunc k #[a, b]).run P w = .ok (.value u) w') (hx : f.ev x = some a) (hy : f.ev y = some b) :
    OkR P f ⟨d, .call { callee := .value (.func k), args := #[x, y], argTypes := ts }, ty, pos, af, g⟩ h R :=
  fun ρ w ha hw => by
    have e : ρ (.func k) = .func (.func k) #[] #[] := ha _ _ rfl
    obtain ⟨u, w', hs, hR, hr⟩ := hc w hw
    exact ⟨u, w', hs, hR, .inl (by simp [execOp, resolve, Deferred.ofValue, invoke, e, ha _ _ hx, ha _ _ hy, hr])⟩
theorem run_addI64 {w : World} {b o : Nat} {cs : List Value} {e : TypeId} {n m : Int} (hb : w.heap[b]? = some (.cells ⟨cs⟩ e (0, 0))) (ho : cs[o]? = some (In n)) (h0 : -9223372036854775808 ≤ n + m) (h1 : n + m ≤ 9223372036854775807) :
    ∃ w', (Extern.Atomic.update (Op.intArith .add) .i64 true #[.pointer (some ⟨b, o, Option.none⟩), In m]).run P w = .ok (In (n + m)) w' ∧ Same w w' ∧ w'.heap = w.heap.setIfInBounds b (.cells ⟨cs.set o (In (n + m))⟩ e (0, 0)) := by
  have hlt : o < cs.length := (List.getElem?_eq_some_iff.1 ho).1
  obtain ⟨w', hr, hs, hh⟩ := run_store_block (P := P) (v := In (n + m)) hb (o := o) (by simpa using hlt) rfl
  have hc : w.cell? ⟨b, o, Option.none⟩ = some (In n) := by
    simp only [World.cell?, hb]
    simpa using ho
  have hr2 : (store ⟨b, o, Option.none⟩ (In (n + m)) .atomic).run P w = .ok () w' := by
    rw [run_store P w _ _ _ rfl] at hr ⊢
    simp only [hc] at hr ⊢
    exact hr
  refine ⟨w', ?_, hs, by rw [hh]; simp⟩
  have hl : (load ⟨b, o, Option.none⟩ .atomic).run P w = .ok (In n) w := by
    unfold load
    simp [Sem.run, hc]
  have hw : IntKind.i64.wrap (n + m) = n + m := by
    simp [IntKind.wrap, IntKind.bits, IntKind.signed]
    omega
  have hrd : (Extern.Atomic.read (.int .i64) ⟨b, o, Option.none⟩).run P w = .ok (In n) w := by
    simp only [Extern.Atomic.read, Sem.run_bind, hl, Result.andThen]
    rfl
  have hu : Extern.Atomic.update (Op.intArith .add) .i64 true #[.pointer (some ⟨b, o, Option.none⟩), In m] = (do
    let a ← asAddr (.pointer (some ⟨b, o, Option.none⟩))
    let old ← Extern.Atomic.read (.int .i64) a
    let new ← Op.intArith .add .i64 (← asInt old) (← asInt (In m))
    store a new .atomic
    pure new) := rfl
  rw [hu]
  have hi : ∀ (q : Int) (w : World), (asIntOf (In q)).run P w = .ok (IntKind.i64, q) w := fun _ _ => rfl
  simp [asAddr, asInt, hi, hrd, Op.intArith, hr2, hw, Result.andThen]
end
end Go.RK

/-
  SESSIONS (layer 27): what the engine tells, and how often it was asked.
-/
namespace Go.Proofs.YtbokngiajfdanaaGreatDoor
open Go Go.RK

set_option maxHeartbeats 2000000 in
set_option maxRecDepth 100000 in
theorem own_eng {h : Heap} {v : Value} (l : List Cel) (hc : Cels h v l) :
    CallsH Tryz.prog 146 ⟨[v]⟩ h fun u h' => ∃ l', Cels h' u l' ∧ l'.map Cel.pl = l.map Cel.pl ∧ Ext No h h' ∧ ∀ b, CelsF u l' b → h.size ≤ b := by
  obtain ⟨hr, ⟨hlm, A, c, rfl, hcap⟩, hok⟩ := hc
  have hlm' := hlm
  unfold reachBytes at hlm'
  have h1 := one_cels hok
  by_cases h0 : l = []
  · subst h0
    refine calls [(0, _)] Tryz.func146 rfl Tryz.ntmps146 rfl ⟨rfl, trivial⟩ ?_
    all_goals (refine WC.sr ?_)
    all_goals (refine Go ?_)
    all_goals (refine WC.sr ?_)
    all_goals (refine Go ?_)
    all_goals (refine WL.call (vs := [_]) rfl (fun a w => Tryz.call192 a w) rfl (clone_cells hr h1 hlm) rfl rfl rfl ?_
               rintro v2 h2 ⟨ho2, hx2, hf2⟩)
    all_goals (obtain ⟨A2, c2, rfl, hc2⟩ := ho2.cap')
    all_goals (refine Go ?_)
    all_goals (refine Gs [(3, _)] ?_)
    all_goals (refine WC.seq ?_)
    all_goals (refine WC.sr ?_)
    all_goals (refine Go ?_)
    all_goals (refine WC.block ?_)
    -- loop 0: slots that turn [9], that stay [3, 8]
    all_goals (refine WC.loopG (X := Unit) (fun x => ([(9, In (0 : Int))] : Fr)) [(3, _), (8, _)] (fun _ h' => h' = h2) (fun _ => 0) (()) ⟨rfl, rfl, rfl, trivial⟩ (by exact rfl) ?_)
    all_goals (rintro _ h9 hz
               subst h9)
    all_goals (refine WC.sub [(9, _), (3, _), (8, _)] ⟨rfl, rfl, rfl, trivial⟩ ?_)
    all_goals (refine WC.sr ?_)
    all_goals (refine Go ?_)
    all_goals (refine WC.seq ?_)
    all_goals (refine goC 1 2 ?_ ?_ <;> first | exact ⟨⟩ | refine Hb.mk fun hb => ?_ | skip)
    all_goals (first | (fail_if_success refine goB 1 ?_) | (
    refine goB 1 ?_
    all_goals (refine WC.skip ?_)
    skip))
    all_goals (first | (fail_if_success refine goB 2 ?_) | (
    refine goB 2 ?_
    all_goals (refine WC.exit ?_)
    all_goals (repeat' (with_reducible first | refine thenP_x ?_ | refine blockP_miss rfl ?_ | refine blockP_hit ?_ | refine blockP_n ?_ | refine thenP_n ?_))
    all_goals (refine Br.out (i := 1000) ?_)
    skip))
    all_goals (refine Gn ?_)
    all_goals (first | (refine Br.keep ?_) | (refine WC.seq ?_))
    all_goals (first | (refine Br.keep ?_) | (refine WC.block ?_))
    all_goals (first | (refine Br.keep ?_) | (refine WC.sr ?_))
    all_goals (refine Go ?_)
    all_goals (first | (refine Br.keep ?_) | (refine WC.region ?_))
    all_goals (refine Go ?_)
    all_goals (first | (refine Br.keep ?_) | (refine WL.step (ok_idxAddrA Tryz.underlying30 (fun w => Tryz.sizeOf87 w) rfl rfl rfl (by omega) (by first | rfl | assumption)) rfl rfl rfl ?_))
    all_goals (refine Go ?_)
    all_goals (first | (refine Br.keep ?_) | (refine Ld ?_))
    all_goals (first | (refine Br.keep ?_) | (fail "no contract for call of slices.Clone[[]byte,byte] at 5.7"))
    all_goals (first | (refine Br.keep ?_) | (refine WL.step (ok_idxAddrA Tryz.underlying30 (fun w => Tryz.sizeOf87 w) rfl rfl rfl (by omega) (by first | rfl | assumption)) rfl rfl rfl ?_))
    all_goals (refine Go ?_)
    all_goals (first
                 | (refine Br.keep ?_)
                 | (refine WL.stepR0 (okE_store (fun w => Tryz.sizeOf85 w) rfl rfl (by assumption) (Nat.le_of_ble_eq_true rfl) rfl rfl) rfl rfl ?_
                    rintro _ h1 ⟨hb1, hx1⟩))
    all_goals (refine Gn ?_)
    all_goals (first | (refine Br.keep ?_) | (refine Gs [(3, _), (8, _), (9, _)] ?_))
    all_goals (first | (refine Br.keep ?_) | (refine WC.region ?_))
    all_goals (refine Go ?_)
    all_goals (first | (refine Br.keep ?_) | (exact ⟨(), ⟨rfl, rfl, rfl, trivial⟩, (by exact ⟨⟩), (by simp; omega)⟩))
    all_goals (try (refine Br.mk (i := 1000) ?_))
    all_goals (refine Gn ?_)
    all_goals (refine WC.sr ?_)
    all_goals (refine Go ?_)
    all_goals (refine Gs [(2, _)] ?_)
    all_goals (refine Gt ?_)
    all_goals (exact ⟨[], ⟨ho2.rd, ⟨by simp, _, _, rfl, hc2⟩, by simp⟩, rfl, hx2, by rintro b (⟨e, _⟩ | ⟨_, e, _⟩); (simp at e); (simp at e)⟩)
  · have hpos : 0 < l.length := List.length_pos_iff.2 h0
    refine calls [(0, _)] Tryz.func146 rfl Tryz.ntmps146 rfl ⟨rfl, trivial⟩ ?_
    all_goals (refine WC.sr ?_)
    all_goals (refine Go ?_)
    all_goals (refine WC.sr ?_)
    all_goals (refine Go ?_)
    all_goals (refine WL.call (vs := [_]) rfl (fun a w => Tryz.call192 a w) rfl (clone_cells hr h1 hlm) rfl rfl rfl ?_
               rintro v2 h2 ⟨ho2, hx2, hf2⟩)
    all_goals (obtain ⟨b1, c1, cs, rfl, hb1, hnc, hcm, hcl, hct⟩ := ho2.block hpos
               have hlt1 := lt_of_some hb1
               have hg1 := hf2 b1 rfl
               have hi0 : RowI h2 h2 b1 l 0 [] := ⟨Nat.zero_le _, rfl, rfl, ⟨cs.drop (l.length * 2), by rw [List.nil_append, List.drop_zero, ← hct, List.take_append_drop]; exact hb1⟩, by simp, .refl _ _⟩)
    all_goals (refine Go ?_)
    all_goals (refine Gs [(3, _)] ?_)
    all_goals (refine WC.seq ?_)
    all_goals (refine WC.sr ?_)
    all_goals (refine Go ?_)
    all_goals (refine WC.block ?_)
    -- loop 0: slots that turn [9], that stay [3, 8]
    all_goals (refine WC.loopG (X := Nat × List Cel) (fun x => ([(9, In (x.1 : Int))] : Fr)) [(3, _), (8, _)] (fun x h' => RowI h2 h' b1 l x.1 x.2) (fun x => l.length - x.1) ((0, [])) ⟨rfl, rfl, rfl, trivial⟩ (by exact hi0) ?_)
    all_goals (rintro ⟨k, out⟩ h3 ri
               simp only at ri
               have hk := ri.le)
    all_goals (refine WC.sub [(9, _), (3, _), (8, _)] ⟨rfl, rfl, rfl, trivial⟩ ?_)
    all_goals (dsimp only)
    all_goals (refine WC.sr ?_)
    all_goals (refine Go ?_)
    all_goals (refine WC.seq ?_)
    all_goals (refine goC 1 2 ?_ ?_ <;> first | exact ⟨⟩ | refine Hb.mk fun hb => ?_ | skip)
    all_goals (first | (fail_if_success refine goB 1 ?_) | (
    refine goB 1 ?_
    all_goals (refine WC.skip ?_)
    skip))
    all_goals (first | (fail_if_success refine goB 2 ?_) | (
    refine goB 2 ?_
    all_goals (refine WC.exit ?_)
    all_goals (repeat' (with_reducible first | refine thenP_x ?_ | refine blockP_miss rfl ?_ | refine blockP_hit ?_ | refine blockP_n ?_ | refine thenP_n ?_))
    all_goals (refine Br.out (i := 1000) ?_)
    skip))
    all_goals (refine Gn ?_)
    all_goals (first | (refine Br.keep ?_) | (refine WC.seq ?_))
    all_goals (first | (refine Br.keep ?_) | (refine WC.block ?_))
    all_goals (first | (refine Br.keep ?_) | (refine WC.sr ?_))
    all_goals (refine Go ?_)
    all_goals (first
                 | (refine Br.keep ?_)
                 | (obtain ⟨⟨n1, v1, s1⟩, hc1⟩ : ∃ y, l[k]? = some y := ⟨_, List.getElem?_eq_getElem (by omega)⟩
                    have hx23 := ri.ext
                    obtain ⟨spare, hblk⟩ := ri.blk
                    obtain ⟨ok1, hsl⟩ := hok _ (List.mem_of_getElem? hc1)
                    simp only at ok1 hsl
                    obtain ⟨A1, k1, rfl, _⟩ := id ok1
                    have E3 : Ext No h h3 := hx2.trans' hx23 (fun b hb e => by omega)
                    have atb : At h3 b1 (0 + k * 2) [.bool n1, .slice A1 s1.length k1] := At.elem (xs := out ++ l.drop k) Cel.len ((At.of_block hblk).pre) (get_mid hc1 ri.len)))
    all_goals (first | (refine Br.keep ?_) | (refine WC.region ?_))
    all_goals (refine Go ?_)
    all_goals (first | (refine Br.keep ?_) | (refine WL.step (ok_idxAddrA Tryz.underlying30 (fun w => Tryz.sizeOf87 w) rfl rfl rfl (by omega) (by first | rfl | assumption)) rfl rfl rfl ?_))
    all_goals (refine Go ?_)
    all_goals (first | (refine Br.keep ?_) | (refine WL.ld rfl (by first | exact atb.get 1 rfl rfl | assumption | exact cell_blk (by assumption) rfl) rfl rfl rfl ?_))
    all_goals (first
                 | (refine Br.keep ?_)
                 | (refine WL.call (vs := [_]) rfl (fun a w => Tryz.call193 a w) rfl (clone_bytes s1 (ok1.ext0 E3) hsl) rfl rfl rfl ?_
                    rintro v6 h6 ⟨ho6, hx6, hf6⟩))
    all_goals (first | (refine Br.keep ?_) | (obtain ⟨A6, c6, rfl, _⟩ := ho6.slice))
    all_goals (first | (refine Br.keep ?_) | (refine WL.step (ok_idxAddrA Tryz.underlying30 (fun w => Tryz.sizeOf87 w) rfl rfl rfl (by omega) (by first | rfl | assumption)) rfl rfl rfl ?_))
    all_goals (refine Go ?_)
    all_goals (first
                 | (refine Br.keep ?_)
                 | (refine WL.stepR0 (okE_store (fun w => Tryz.sizeOf85 w) rfl rfl (hx6.obj hblk nos) (by simp [length_flat Cel.len, ri.len]; omega) rfl rfl) rfl rfl ?_
                    rintro _ h7 ⟨hb7, hx7⟩))
    all_goals (refine Gn ?_)
    all_goals (first | (refine Br.keep ?_) | (refine Gs [(3, _), (8, _), (9, _)] ?_))
    all_goals (first | (refine Br.keep ?_) | (refine WC.region ?_))
    all_goals (refine Go ?_)
    all_goals (first | (refine Br.keep ?_) | (exact ⟨(k + 1, out ++ [_]), ⟨rfl, rfl, rfl, trivial⟩, (by exact ri.next hc1 hx6 ho6 hf6 (fun sp e => by rw [hx6.obj hblk nos] at e; simp only [Option.some.injEq, Obj.cells.injEq, Array.mk.injEq] at e; obtain rfl := List.append_cancel_left e.1; rfl) hb7 hx7 hlt1 hsl), (by simp; omega)⟩))
    all_goals (try (refine Br.mk (i := 1000) ?_))
    all_goals (refine Gn ?_)
    all_goals (refine WC.sr ?_)
    all_goals (refine Go ?_)
    all_goals (refine Gs [(2, _)] ?_)
    all_goals (refine Gt ?_)
    all_goals (obtain rfl : k = l.length := by omega
               exact ri.done hx2 hg1 hlt1 hnc hcm hlm)
theorem addI64 {h : Heap} {b o : Nat} {cs : List Value} {e : TypeId} {n m : Int} (hb : h[b]? = some (.cells ⟨cs⟩ e (0, 0))) (ho : cs[o]? = some (In n)) (h0 : -9223372036854775808 ≤ n + m) (h1 : n + m ≤ 9223372036854775807) (w : World) (hw : w.heap = h) :
    ∃ u w', Same w w' ∧ (u = In (n + m) ∧ w'.heap[b]? = some (.cells ⟨cs.set o (In (n + m))⟩ e (0, 0)) ∧ Ext (fun q => q = b) h w'.heap) ∧ (callFunc 213 #[.pointer (some ⟨b, o, none⟩), In m]).run Tryz.prog w = .ok (.value u) w' := by
  subst hw
  obtain ⟨w', hr, hs, hh⟩ := run_addI64 (P := Tryz.prog) hb ho h0 h1
  refine ⟨_, w', hs, ⟨rfl, by rw [hh]; exact set_new hb, by rw [hh]; exact .set _ _ _ rfl⟩, ?_⟩
  rw [run_callFunc_extern (P := Tryz.prog) (fn := Tryz.f213) (e := Extern.Atomic.update (Op.intArith .add) .i64 true) (by kernel_rfl) (by kernel_rfl) rfl (by kernel_rfl) (by kernel_rfl)]
  simp [hr]
set_option maxHeartbeats 2000000 in
set_option maxRecDepth 100000 in
theorem add_v {h : Heap} {b o : Nat} {cs : List Value} {e : TypeId} {n m : Int} (hb : h[b]? = some (.cells ⟨cs⟩ e (0, 0))) (ho : cs[o]? = some (In n)) (h0 : -9223372036854775808 ≤ n + m) (h1 : n + m ≤ 9223372036854775807) :
    CallsH Tryz.prog 194 ⟨[.pointer (some ⟨b, o, none⟩), In m]⟩ h fun u h' => u = In (n + m) ∧ h'[b]? = some (.cells ⟨cs.set o (In (n + m))⟩ e (0, 0)) ∧ Ext (fun q => q = b) h h' := by
  refine calls [(0, _), (1, _)] Tryz.func194 rfl Tryz.ntmps194 rfl ⟨rfl, rfl, trivial⟩ ?_
  all_goals (refine WC.sr ?_)
  all_goals (refine Go ?_)
  all_goals (refine WC.sr ?_)
  all_goals (refine Go ?_)
  all_goals (refine WL.step (ok_nilCheck rfl) rfl rfl rfl ?_)
  all_goals (refine Go ?_)
  all_goals (refine WL.stepR (okE_extern2 (R := fun u h' => u = In (n + m) ∧ h'[b]? = some (.cells ⟨cs.set o (In (n + m))⟩ e (0, 0)) ∧ Ext (fun q => q = b) h h') (addI64 hb ho h0 h1) rfl rfl) rfl rfl rfl ?_
             rintro _ g1 ⟨rfl, hb1, hx1⟩)
  all_goals (refine Go ?_)
  all_goals (refine Gs [(4, _)] ?_)
  all_goals (refine Gt ?_)
  all_goals (exact ⟨rfl, hb1, hx1⟩)
set_option maxHeartbeats 2000000 in
set_option maxRecDepth 100000 in
theorem next_eng {h : Heap} {be me : Nat} {cnt : Int} (hb : h[be]? = some (.cells ⟨[.map (some me), In cnt]⟩ 62 (0, 0))) (hc : 0 ≤ cnt ∧ cnt ≤ 1000000) :
    CallsH Tryz.prog 147 ⟨[.pointer (some ⟨be, 0, none⟩)]⟩ h fun u h' => u = In (cnt + 1) ∧ h'[be]? = some (.cells ⟨[.map (some me), In (cnt + 1)]⟩ 62 (0, 0)) ∧ Ext (fun q => q = be) h h' := by
  refine calls [(0, _)] Tryz.func147 rfl Tryz.ntmps147 rfl ⟨rfl, trivial⟩ ?_
  all_goals (refine WC.sr ?_)
  all_goals (refine Go ?_)
  all_goals (refine WC.seq ?_)
  all_goals (refine WC.sr ?_)
  all_goals (refine Go ?_)
  all_goals (refine WL.call (vs := [_]) rfl (fun a w => Tryz.call144 a w) rfl (eng_ready hb) rfl rfl rfl ?_
             rintro _ hz ⟨rfl, _⟩
             subst hz)
  all_goals (refine Go ?_)
  all_goals (refine goC 1 2 ?_ ?_ <;> first | exact ⟨⟩ | refine Hb.mk fun hb => ?_ | skip)
  all_goals (first | (fail_if_success refine goB 1 ?_) | (
  refine goB 1 ?_
  all_goals (refine WC.sr ?_)
  all_goals (refine Go ?_)
  all_goals (refine Gs [(2, _)] ?_)
  all_goals (refine Gt ?_)
  all_goals (exact ⟨rfl, hb1, hx1⟩)
  skip))
  all_goals (first | (fail_if_success refine goB 2 ?_) | (
  refine goB 2 ?_
  all_goals (refine WC.skip ?_)
  skip))
  all_goals (refine Gn ?_)
  all_goals (refine Gs [(0, _)] ?_)
  all_goals (refine WC.sr ?_)
  all_goals (refine Go ?_)
  all_goals (refine WL.step (ok_nilCheck rfl) rfl rfl rfl ?_)
  all_goals (refine Go ?_)
  all_goals (refine WL.call (vs := [_, _]) rfl (fun a w => Tryz.call194 a w) rfl (add_v hb (o := 1) (n := cnt) (m := 1) rfl (by omega) (by omega)) rfl rfl rfl ?_
             rintro _ h1 ⟨rfl, hb1, hx1⟩)
  all_goals (refine Go ?_)
  all_goals (refine Gs [(2, _)] ?_)
  all_goals (refine Gt ?_)
  all_goals (exact ⟨rfl, hb1, hx1⟩)
set_option maxHeartbeats 2000000 in
set_option maxRecDepth 100000 in
/-- What the engine tells. -/
theorem rows_eng {h : Heap} {be me : Nat} {cnt : Int} (hb : h[be]? = some (.cells ⟨[.map (some me), In cnt]⟩ 62 (0, 0))) (hc : 0 ≤ cnt ∧ cnt ≤ 1000000) (v : VeD) {vp : Value} (ps : List Cel) (hp : Cels h vp ps) :
    CallsH Tryz.prog 92 ⟨[.pointer (some ⟨be, 0, none⟩), .agg ⟨v.cells⟩, vp]⟩ h fun u h' => ∃ LL, Rws h' u LL ∧ LL.map Rw.pl = (engP v (ps.map Cel.pl) cnt).1 ∧ (∀ q, RwsF u LL q → h.size ≤ q) ∧ h'[be]? = some (.cells ⟨[.map (some me), In (engP v (ps.map Cel.pl) cnt).2]⟩ 62 (0, 0)) ∧ Ext (fun q => q = be) h h' := by
  have hlt := lt_of_some hb
  obtain ⟨_, ⟨_, A, c, rfl, _⟩, _⟩ := id hp
  unfold VeD.cells veC
  have hdl := deci_len (cnt + 1) (by omega)
  rcases (show v.k = 5 ∧ engP v (ps.map Cel.pl) cnt = (rowsP (heldN v.n), cnt) ∨ v.k = 6 ∧ engP v (ps.map Cel.pl) cnt = ([ps.map Cel.pl], cnt) ∨ v.k = 7 ∧ engP v (ps.map Cel.pl) cnt = ([[(false, deci (cnt + 1))]], cnt + 1) ∨ v.k ≠ 5 ∧ v.k ≠ 6 ∧ v.k ≠ 7 ∧ engP v (ps.map Cel.pl) cnt = ([], cnt) by
    unfold engP
    by_cases e1 : v.k = 5
    · exact .inl ⟨e1, if_pos e1⟩
    · by_cases e2 : v.k = 6
      · exact .inr (.inl ⟨e2, by rw [if_neg e1, if_pos e2]⟩)
      · by_cases e3 : v.k = 7
        · exact .inr (.inr (.inl ⟨e3, by rw [if_neg e1, if_neg e2, if_pos e3]⟩))
        · exact .inr (.inr (.inr ⟨e1, e2, e3, by rw [if_neg e1, if_neg e2, if_neg e3]⟩))) with ⟨e1, e⟩ | ⟨e1, e⟩ | ⟨e1, e⟩ | ⟨e1, e2, e3, e⟩
  all_goals
    rw [e]
    dsimp only
    refine calls [(0, _), (1, _), (2, _)] Tryz.func92 rfl Tryz.ntmps92 rfl ⟨rfl, rfl, rfl, trivial⟩ ?_
    all_goals (refine WC.sr ?_)
    all_goals (refine WL.stepR (okE_box rfl) rfl rfl rfl ?_
               rintro _ h1 ⟨b1, rfl, hg1, hb1, hx1⟩)
    all_goals (have hbe := hx1.obj hb nos
               have n1 : be ≠ b1 := by omega)
    all_goals (refine Go ?_)
    all_goals (refine WC.seq ?_)
    all_goals (refine WC.sr ?_)
    all_goals (refine Go ?_)
    all_goals (refine WL.call (vs := [_]) rfl (fun a w => Tryz.call144 a w) rfl (eng_ready hbe) rfl rfl rfl ?_
               rintro _ hz ⟨rfl, _⟩
               subst hz)
    all_goals (refine Go ?_)
    all_goals (refine Gs [(0, _), (2, _), (4, _), (9, _)] ?_)
    all_goals (refine goC 1 2 ?_ ?_ <;> first | exact ⟨⟩ | refine Hb.mk fun hb => ?_ | skip)
    all_goals (first | (fail_if_success refine goB 1 ?_) | (
    refine goB 1 ?_
    all_goals (refine WC.sr ?_)
    all_goals (refine Go ?_)
    all_goals (refine Gs [(6, _)] ?_)
    all_goals (refine Gt ?_)
    all_goals (first
                | exact ⟨L2, r2, p2, fun q hq => by have := f2 q hq; have := hx1.size; omega, X2.obj hb nos, X2.mono fun _ _ e => e.elim⟩
                | exact ⟨[⟨_, l2⟩], ⟨rd_blk hb3 rfl, ⟨by simp [reachBytes], _, _, rfl, by simp [maxLen]⟩, by simpa using r2.ext0 hx3⟩, by simp [Rw.pl, p2], fun q hq => by
                    rcases hq with ⟨_, e⟩ | ⟨r, hr, e⟩
                    · simp [Value.ownBlock] at e; have := hx1.size; have := hx2.size; omega
                    · simp at hr; subst hr; have := f2 q e; have := hx1.size; omega, X3.obj hb nos, X3.mono fun _ _ e => e.elim⟩
                | exact ⟨[⟨_, [⟨false, .slice (some ⟨b4, 0, none⟩) (deci (cnt + 1)).length c4, deci (cnt + 1)⟩]⟩], ⟨rd_blk hb6 rfl, ⟨by simp [reachBytes], _, _, rfl, by simp [maxLen]⟩, by simpa using cels_one (hr4.ext0 (hx5.trans hx6)) (by omega) (hx6.obj hb5 nos)⟩, rfl, fun q hq => by
                    have := hx1.size; have := hx2.size; have := hx3.size; have := hx4.size; have := hx5.size
                    rcases hq with ⟨_, e⟩ | ⟨r, hr, e⟩
                    · simp [Value.ownBlock] at e; omega
                    · simp at hr; subst hr
                      rcases e with ⟨_, e⟩ | ⟨r, hr, _, e⟩
                      · simp [Value.ownBlock] at e; omega
                      · simp at hr; subst hr; simp [Value.ownBlock] at e; omega, X26.obj hb2 nos, (hx1.mono fun _ _ e => e.elim).trans (hx2.trans (X26.mono fun _ _ e => e.elim))⟩
                | exact ⟨[], ⟨Rd.nil _ _, ⟨by simp, _, _, rfl, by simp [maxLen]⟩, by simp⟩, rfl, fun q hq => (rwsF_nil rfl hq).elim, hbe, hx1.mono fun _ _ e => e.elim⟩)
    skip))
    all_goals (first | (fail_if_success refine goB 2 ?_) | (
    refine goB 2 ?_
    all_goals (refine WC.skip ?_)
    skip))
    all_goals (refine Gn ?_)
    all_goals (refine WC.seq ?_)
    all_goals (refine WC.sr ?_)
    all_goals (refine Go ?_)
    all_goals (refine Ld ?_)
    all_goals (refine Gn ?_)
    all_goals (refine WC.block ?_)
    all_goals (refine WC.sr ?_)
    all_goals (refine Go ?_)
    all_goals (refine goC 3 4 ?_ ?_ <;> first | exact ⟨⟩ | refine Hb.mk fun hb => ?_ | skip)
    all_goals (first | (fail_if_success refine goB 3 ?_) | (
    refine goB 3 ?_
    all_goals (refine WC.sr ?_)
    all_goals (refine Go ?_)
    all_goals (refine Ld ?_)
    all_goals (refine WL.call (vs := [_]) rfl (fun a w => Tryz.call145 a w) rfl (rows_cols v.n) rfl rfl rfl ?_
               rintro u2 h2 ⟨L2, r2, p2, hx2, f2⟩)
    all_goals (have X2 := hx1.trans hx2)
    all_goals (refine Go ?_)
    all_goals (refine Gs [(6, _)] ?_)
    all_goals (refine Gt ?_)
    all_goals (first
                | exact ⟨L2, r2, p2, fun q hq => by have := f2 q hq; have := hx1.size; omega, X2.obj hb nos, X2.mono fun _ _ e => e.elim⟩
                | exact ⟨[⟨_, l2⟩], ⟨rd_blk hb3 rfl, ⟨by simp [reachBytes], _, _, rfl, by simp [maxLen]⟩, by simpa using r2.ext0 hx3⟩, by simp [Rw.pl, p2], fun q hq => by
                    rcases hq with ⟨_, e⟩ | ⟨r, hr, e⟩
                    · simp [Value.ownBlock] at e; have := hx1.size; have := hx2.size; omega
                    · simp at hr; subst hr; have := f2 q e; have := hx1.size; omega, X3.obj hb nos, X3.mono fun _ _ e => e.elim⟩
                | exact ⟨[⟨_, [⟨false, .slice (some ⟨b4, 0, none⟩) (deci (cnt + 1)).length c4, deci (cnt + 1)⟩]⟩], ⟨rd_blk hb6 rfl, ⟨by simp [reachBytes], _, _, rfl, by simp [maxLen]⟩, by simpa using cels_one (hr4.ext0 (hx5.trans hx6)) (by omega) (hx6.obj hb5 nos)⟩, rfl, fun q hq => by
                    have := hx1.size; have := hx2.size; have := hx3.size; have := hx4.size; have := hx5.size
                    rcases hq with ⟨_, e⟩ | ⟨r, hr, e⟩
                    · simp [Value.ownBlock] at e; omega
                    · simp at hr; subst hr
                      rcases e with ⟨_, e⟩ | ⟨r, hr, _, e⟩
                      · simp [Value.ownBlock] at e; omega
                      · simp at hr; subst hr; simp [Value.ownBlock] at e; omega, X26.obj hb2 nos, (hx1.mono fun _ _ e => e.elim).trans (hx2.trans (X26.mono fun _ _ e => e.elim))⟩
                | exact ⟨[], ⟨Rd.nil _ _, ⟨by simp, _, _, rfl, by simp [maxLen]⟩, by simp⟩, rfl, fun q hq => (rwsF_nil rfl hq).elim, hbe, hx1.mono fun _ _ e => e.elim⟩)
    skip))
    all_goals (first | (fail_if_success refine goB 4 ?_) | (
    refine goB 4 ?_
    all_goals (refine WC.sr ?_)
    all_goals (refine Go ?_)
    all_goals (refine Gs [(0, _), (2, _), (11, _), (17, _)] ?_)
    all_goals (refine goC 5 6 ?_ ?_ <;> first | exact ⟨⟩ | refine Hb.mk fun hb => ?_ | skip)
    all_goals (first | (fail_if_success refine goB 5 ?_) | (
    refine goB 5 ?_
    all_goals (refine WC.sr ?_)
    all_goals (refine Go ?_)
    all_goals (refine WL.call (vs := [_]) rfl (fun a w => Tryz.call146 a w) rfl (own_eng ps (hp.ext0 hx1)) rfl rfl rfl ?_
               rintro u2 h2 ⟨l2, r2, p2, hx2, f2⟩
               obtain ⟨A2, c2, rfl⟩ : ∃ A c, u2 = .slice A l2.length c := (by obtain ⟨_, ⟨_, A, c, e, _⟩, _⟩ := r2; exact ⟨A, c, e⟩))
    all_goals (refine WL.stepR (okE_buildSlice (vs := [_]) (cs := [_]) (fun | [a0] => [a0] | _ => []) Tryz.underlying145 rfl rfl (by kernel_rfl)) rfl rfl rfl ?_
               rintro _ h3 ⟨b3, rfl, hg3, hb3, hx3⟩)
    all_goals (have X3 := (hx1.trans hx2).trans hx3)
    all_goals (refine Go ?_)
    all_goals (refine Gs [(6, _)] ?_)
    all_goals (refine Gt ?_)
    all_goals (first
                | exact ⟨L2, r2, p2, fun q hq => by have := f2 q hq; have := hx1.size; omega, X2.obj hb nos, X2.mono fun _ _ e => e.elim⟩
                | exact ⟨[⟨_, l2⟩], ⟨rd_blk hb3 rfl, ⟨by simp [reachBytes], _, _, rfl, by simp [maxLen]⟩, by simpa using r2.ext0 hx3⟩, by simp [Rw.pl, p2], fun q hq => by
                    rcases hq with ⟨_, e⟩ | ⟨r, hr, e⟩
                    · simp [Value.ownBlock] at e; have := hx1.size; have := hx2.size; omega
                    · simp at hr; subst hr; have := f2 q e; have := hx1.size; omega, X3.obj hb nos, X3.mono fun _ _ e => e.elim⟩
                | exact ⟨[⟨_, [⟨false, .slice (some ⟨b4, 0, none⟩) (deci (cnt + 1)).length c4, deci (cnt + 1)⟩]⟩], ⟨rd_blk hb6 rfl, ⟨by simp [reachBytes], _, _, rfl, by simp [maxLen]⟩, by simpa using cels_one (hr4.ext0 (hx5.trans hx6)) (by omega) (hx6.obj hb5 nos)⟩, rfl, fun q hq => by
                    have := hx1.size; have := hx2.size; have := hx3.size; have := hx4.size; have := hx5.size
                    rcases hq with ⟨_, e⟩ | ⟨r, hr, e⟩
                    · simp [Value.ownBlock] at e; omega
                    · simp at hr; subst hr
                      rcases e with ⟨_, e⟩ | ⟨r, hr, _, e⟩
                      · simp [Value.ownBlock] at e; omega
                      · simp at hr; subst hr; simp [Value.ownBlock] at e; omega, X26.obj hb2 nos, (hx1.mono fun _ _ e => e.elim).trans (hx2.trans (X26.mono fun _ _ e => e.elim))⟩
                | exact ⟨[], ⟨Rd.nil _ _, ⟨by simp, _, _, rfl, by simp [maxLen]⟩, by simp⟩, rfl, fun q hq => (rwsF_nil rfl hq).elim, hbe, hx1.mono fun _ _ e => e.elim⟩)
    skip))
    all_goals (first | (fail_if_success refine goB 6 ?_) | (
    refine goB 6 ?_
    all_goals (refine WC.sr ?_)
    all_goals (refine Go ?_)
    all_goals (refine Gs [(0, _), (22, _)] ?_)
    all_goals (refine goC 7 8 ?_ ?_ <;> first | exact ⟨⟩ | refine Hb.mk fun hb => ?_ | skip)
    all_goals (first | (fail_if_success refine goB 7 ?_) | (
    refine goB 7 ?_
    all_goals (refine WC.sr ?_)
    all_goals (refine Go ?_)
    all_goals (refine WL.call (vs := [_]) rfl (fun a w => Tryz.call147 a w) rfl (next_eng hbe hc) rfl rfl rfl ?_
               rintro _ h2 ⟨rfl, hb2, hx2⟩)
    all_goals (refine WL.call (vs := [_]) rfl (fun a w => Tryz.call132 a w) rfl (text_any (cnt + 1) (by omega) (by omega)) rfl rfl rfl ?_
               rintro _ h3 ⟨rfl, hx3⟩)
    all_goals (refine WL.stepR (okE_convSB Tryz.underlying9 Tryz.underlying85 Tryz.underlying5 rfl) rfl rfl rfl ?_
               rintro _ h4 ⟨b4, c4, rfl, hg4, hr4, hx4⟩)
    all_goals (refine WL.step (ok_buildF (vs := [_]) (cs := [_, _]) (fun | [a1] => [(.bool false), a1] | _ => []) rfl rfl (by kernel_rfl)) rfl rfl rfl ?_)
    all_goals (refine WL.stepR (okE_buildSlice (vs := [_]) (cs := [_, _]) (fun | [.agg ⟨[a0, a1]⟩] => [a0, a1] | _ => []) Tryz.underlying30 rfl rfl (by kernel_rfl)) rfl rfl rfl ?_
               rintro _ h5 ⟨b5, rfl, hg5, hb5, hx5⟩)
    all_goals (refine WL.stepR (okE_buildSlice (vs := [_]) (cs := [_]) (fun | [a0] => [a0] | _ => []) Tryz.underlying145 rfl rfl (by kernel_rfl)) rfl rfl rfl ?_
               rintro _ h6 ⟨b6, rfl, hg6, hb6, hx6⟩)
    all_goals (have X26 := ((hx3.trans hx4).trans hx5).trans hx6)
    all_goals (refine Go ?_)
    all_goals (refine Gs [(6, _)] ?_)
    all_goals (refine Gt ?_)
    all_goals (first
                | exact ⟨L2, r2, p2, fun q hq => by have := f2 q hq; have := hx1.size; omega, X2.obj hb nos, X2.mono fun _ _ e => e.elim⟩
                | exact ⟨[⟨_, l2⟩], ⟨rd_blk hb3 rfl, ⟨by simp [reachBytes], _, _, rfl, by simp [maxLen]⟩, by simpa using r2.ext0 hx3⟩, by simp [Rw.pl, p2], fun q hq => by
                    rcases hq with ⟨_, e⟩ | ⟨r, hr, e⟩
                    · simp [Value.ownBlock] at e; have := hx1.size; have := hx2.size; omega
                    · simp at hr; subst hr; have := f2 q e; have := hx1.size; omega, X3.obj hb nos, X3.mono fun _ _ e => e.elim⟩
                | exact ⟨[⟨_, [⟨false, .slice (some ⟨b4, 0, none⟩) (deci (cnt + 1)).length c4, deci (cnt + 1)⟩]⟩], ⟨rd_blk hb6 rfl, ⟨by simp [reachBytes], _, _, rfl, by simp [maxLen]⟩, by simpa using cels_one (hr4.ext0 (hx5.trans hx6)) (by omega) (hx6.obj hb5 nos)⟩, rfl, fun q hq => by
                    have := hx1.size; have := hx2.size; have := hx3.size; have := hx4.size; have := hx5.size
                    rcases hq with ⟨_, e⟩ | ⟨r, hr, e⟩
                    · simp [Value.ownBlock] at e; omega
                    · simp at hr; subst hr
                      rcases e with ⟨_, e⟩ | ⟨r, hr, _, e⟩
                      · simp [Value.ownBlock] at e; omega
                      · simp at hr; subst hr; simp [Value.ownBlock] at e; omega, X26.obj hb2 nos, (hx1.mono fun _ _ e => e.elim).trans (hx2.trans (X26.mono fun _ _ e => e.elim))⟩
                | exact ⟨[], ⟨Rd.nil _ _, ⟨by simp, _, _, rfl, by simp [maxLen]⟩, by simp⟩, rfl, fun q hq => (rwsF_nil rfl hq).elim, hbe, hx1.mono fun _ _ e => e.elim⟩)
    skip))
    all_goals (first | (fail_if_success refine goB 8 ?_) | (
    refine goB 8 ?_
    all_goals (refine WC.skip ?_)
    skip))
    skip))
    skip))
    all_goals (refine Gn ?_)
    all_goals (refine WC.sr ?_)
    all_goals (refine Go ?_)
    all_goals (refine Gt ?_)
    all_goals (first
                | exact ⟨L2, r2, p2, fun q hq => by have := f2 q hq; have := hx1.size; omega, X2.obj hb nos, X2.mono fun _ _ e => e.elim⟩
                | exact ⟨[⟨_, l2⟩], ⟨rd_blk hb3 rfl, ⟨by simp [reachBytes], _, _, rfl, by simp [maxLen]⟩, by simpa using r2.ext0 hx3⟩, by simp [Rw.pl, p2], fun q hq => by
                    rcases hq with ⟨_, e⟩ | ⟨r, hr, e⟩
                    · simp [Value.ownBlock] at e; have := hx1.size; have := hx2.size; omega
                    · simp at hr; subst hr; have := f2 q e; have := hx1.size; omega, X3.obj hb nos, X3.mono fun _ _ e => e.elim⟩
                | exact ⟨[⟨_, [⟨false, .slice (some ⟨b4, 0, none⟩) (deci (cnt + 1)).length c4, deci (cnt + 1)⟩]⟩], ⟨rd_blk hb6 rfl, ⟨by simp [reachBytes], _, _, rfl, by simp [maxLen]⟩, by simpa using cels_one (hr4.ext0 (hx5.trans hx6)) (by omega) (hx6.obj hb5 nos)⟩, rfl, fun q hq => by
                    have := hx1.size; have := hx2.size; have := hx3.size; have := hx4.size; have := hx5.size
                    rcases hq with ⟨_, e⟩ | ⟨r, hr, e⟩
                    · simp [Value.ownBlock] at e; omega
                    · simp at hr; subst hr
                      rcases e with ⟨_, e⟩ | ⟨r, hr, _, e⟩
                      · simp [Value.ownBlock] at e; omega
                      · simp at hr; subst hr; simp [Value.ownBlock] at e; omega, X26.obj hb2 nos, (hx1.mono fun _ _ e => e.elim).trans (hx2.trans (X26.mono fun _ _ e => e.elim))⟩
                | exact ⟨[], ⟨Rd.nil _ _, ⟨by simp, _, _, rfl, by simp [maxLen]⟩, by simp⟩, rfl, fun q hq => (rwsF_nil rfl hq).elim, hbe, hx1.mono fun _ _ e => e.elim⟩)
end Go.Proofs.YtbokngiajfdanaaGreatDoor


