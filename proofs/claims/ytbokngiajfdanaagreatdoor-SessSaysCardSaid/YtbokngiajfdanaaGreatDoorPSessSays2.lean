/-
  SEVERAL TEXTS IN ONE: Shelf, Pred, Del, K16, IxB, K17, BkChk, BkChk2, Ev, PlF, EntO, BkO, BkS, BkR, BkC, BkC2, K24, K14, Num, K18, Srl, SrlX, Frm, Ck5.
-/
import Derived.Test.YtbokngiajfdanaaGreatDoorPSessSays1
import Derived.Shelf.Sort.Plain
import Derived.Shelf.Slices.In.SortNone
import Derived.Shelf.Strings.Search1
import Derived.Shelf.Strings.OnBuilder
import Derived.Shelf.Small.Strs
import Derived.Shelf.Bytes.IndexByte
import Derived.Shelf.LaysM
import Derived.Test.YtbokngiajfdanaaGreatDoorProg
import Derived.Lib.IndexAny
import Derived.Lib.IndexLaws
import Derived.ChangeKeysEq
import Derived.Laws.Entries
import Derived.Lib.AppendStr
import Derived.Maps.RangeRun
/-
  DERIVED: THE SHELF's CONTRACTS AT THIS DUMP, IN PLAIN WORDS (tools/lay-plain.mjs out of 'TryzShelf.lean', which tools/lay-shelf.mjs wrote): THE SAME DECLARATIONS UNDER THE SAME NAMES: 'import', 'namespace', 'open', 'def', 'theorem' AND NOTHING ELSE: no command of the shelf's: FOR A HAND-IN. Each laying: the table of numbers ('.._ren') and one theorem, a field a fact of the dump's own or the kernel's comparison; each contract: ONE APPLICATION.
-/
namespace Go.Proofs
open Go.Shelf
def Tryz.lays156_ren : Go.Shelf.Ren := ⟨fun | 156 => 171 | 165 => 202 | 166 => 203 | 169 => 176 | 240 => 204 | 241 => 214 | 276 => 215 | 277 => 222 | n => n, fun | 31 => 35 | 9 => 9 | 3 => 3 | 4 => 4 | 0 => 0 | 20 => 20 | 72 => 247 | 76 => 271 | 70 => 245 | 37 => 85 | 75 => 65 | 127 => 273 | 164 => 99 | 5 => 5 | 80 => 243 | n => n, fun | n => n⟩
theorem Tryz.lays156 : Go.Proofs.Lays.n156 Tryz.prog Tryz.lays156_ren := {
  mixed := by kernel_rfl
  f156 := Tryz.func171.trans (congrArg some (by kernel_rfl))
  f165 := Tryz.func202.trans (congrArg some (by kernel_rfl))
  f166 := Tryz.func203.trans (congrArg some (by kernel_rfl))
  f169 := Tryz.func176.trans (congrArg some (by kernel_rfl))
  f240 := Tryz.func204.trans (congrArg some (by kernel_rfl))
  f241 := Tryz.func214.trans (congrArg some (by kernel_rfl))
  f276 := Tryz.func215.trans (congrArg some (by kernel_rfl))
  f277 := Tryz.func222.trans (congrArg some (by kernel_rfl))
  t0 := Tryz.underlying0
  a0 := Tryz.isAgg0
  z0 := Tryz.sizeOf0
  v0 := Tryz.zeroValue0
  t3 := Tryz.underlying3
  a3 := Tryz.isAgg3
  z3 := Tryz.sizeOf3
  v3 := Tryz.zeroValue3
  t4 := Tryz.underlying4
  a4 := Tryz.isAgg4
  z4 := Tryz.sizeOf4
  v4 := Tryz.zeroValue4
  t9 := Tryz.underlying9
  a9 := Tryz.isAgg9
  z9 := Tryz.sizeOf9
  v9 := Tryz.zeroValue9
  t20 := Tryz.underlying20
  a20 := Tryz.isAgg20
  z20 := Tryz.sizeOf20
  v20 := Tryz.zeroValue20
  t31 := Tryz.underlying35
  a31 := Tryz.isAgg35
  z31 := Tryz.sizeOf35
  v31 := Tryz.zeroValue35
  t37 := Tryz.underlying85
  a37 := Tryz.isAgg85
  z37 := Tryz.sizeOf85
  v37 := Tryz.zeroValue85
  t70 := Tryz.underlying245
  a70 := Tryz.isAgg245
  z70 := Tryz.sizeOf245
  v70 := Tryz.zeroValue245
  t72 := Tryz.underlying247
  a72 := Tryz.isAgg247
  z72 := Tryz.sizeOf247
  v72 := Tryz.zeroValue247
  t75 := Tryz.underlying65
  a75 := Tryz.isAgg65
  z75 := Tryz.sizeOf65
  v75 := Tryz.zeroValue65
  t76 := Tryz.underlying271
  a76 := Tryz.isAgg271
  z76 := Tryz.sizeOf271
  v76 := Tryz.zeroValue271
  t127 := Tryz.underlying273
  a127 := Tryz.isAgg273
  z127 := Tryz.sizeOf273
  v127 := Tryz.zeroValue273
  t164 := Tryz.underlying99
  a164 := Tryz.isAgg99
  z164 := Tryz.sizeOf99
  v164 := Tryz.zeroValue99 }
theorem Tryz.Builder_Extra_156 : Builder.Extra Tryz.prog Tryz.lays156_ren := {
  sizeBuilder := by kernel_rfl
  liesBuilder := by kernel_rfl
  t5 := Tryz.underlying5
  a5 := Tryz.isAgg5
  z5 := Tryz.sizeOf5
  v5 := Tryz.zeroValue5
  infoByte := by kernel_rfl
  cellsByte := by kernel_rfl
  sizeByte := by kernel_rfl
  neB5 := by decide }
open Go.RowKit in
/-- strings.Join: "Join concatenates the elements of its first argument to create a single string. The separator string sep is placed between elements in the resulting string.": HOWEVER MANY ELEMENTS. Below the heap's end the world is as it was. (LAID: no walk: one application.) -/
theorem Tryz.strings_Join (bk o c : Nat) (xs : List ByteArray) (sep : ByteArray) (w : World) (hcells : ∀ (j : Nat) x, xs[j]? = some x → w.cell? ⟨bk, o + j, none⟩ = some (.string x)) (hbk : bk < w.heap.size) (hN : xs.length ≤ 140737488355328) (hcap : xs.length ≤ c) (hlen : (Lib.join (xs.map (·.data.toList)) sep.data.toList).length ≤ 140737488355328) :
    Calls Tryz.prog 171 #[.slice (some ⟨bk, o, none⟩) xs.length c, .string sep] w fun e w' => e = .returned (.string ⟨(Lib.join (xs.map (·.data.toList)) sep.data.toList).toArray⟩) ∧ Below w.heap.size w w' := Any.strings_Join Tryz.lays156 Tryz.Builder_Extra_156 bk o c xs sep w hcells hbk hN hcap hlen
def Tryz.lays137_ren : Go.Shelf.Ren := ⟨fun | 137 => 61 | 217 => 116 | 266 => 161 | n => n, fun | 9 => 9 | 5 => 5 | 3 => 3 | n => n, fun | n => n⟩
theorem Tryz.lays137 : Go.Proofs.Lays.n137 Tryz.prog Tryz.lays137_ren := {
  mixed := by kernel_rfl
  f137 := Tryz.func61.trans (congrArg some (by kernel_rfl))
  f217 := Tryz.func116.trans (congrArg some (by kernel_rfl))
  f266 := Tryz.func161.trans (congrArg some (by kernel_rfl))
  t3 := Tryz.underlying3
  a3 := Tryz.isAgg3
  z3 := Tryz.sizeOf3
  v3 := Tryz.zeroValue3
  t5 := Tryz.underlying5
  a5 := Tryz.isAgg5
  z5 := Tryz.sizeOf5
  v5 := Tryz.zeroValue5
  t9 := Tryz.underlying9
  a9 := Tryz.isAgg9
  z9 := Tryz.sizeOf9
  v9 := Tryz.zeroValue9 }
open Go.RowKit in
/-- strings.IndexByte: "IndexByte returns the index of the first instance of c in s, or -1 if c is not present in s.": IT RETURNS 'Lib.indexByte s c'; the world is as it was. (LAID: no walk: one application.) -/
theorem Tryz.strings_IndexByte (s : ByteArray) (c : Int) (w : World) :
    Calls Tryz.prog 61 #[.string s, .int .u8 c] w fun e w' => e = .returned (.int .i64 (Lib.indexByte s.data.toList c.toNat.toUInt8)) ∧ w' = w := Any.strings_IndexByte Tryz.lays137 s c w
def Tryz.lays217_ren : Go.Shelf.Ren := ⟨fun | 217 => 116 | 266 => 161 | n => n, fun | 9 => 9 | 5 => 5 | 3 => 3 | n => n, fun | n => n⟩
theorem Tryz.lays217 : Go.Proofs.Lays.n217 Tryz.prog Tryz.lays217_ren := {
  mixed := by kernel_rfl
  f217 := Tryz.func116.trans (congrArg some (by kernel_rfl))
  f266 := Tryz.func161.trans (congrArg some (by kernel_rfl))
  t3 := Tryz.underlying3
  a3 := Tryz.isAgg3
  z3 := Tryz.sizeOf3
  v3 := Tryz.zeroValue3
  t5 := Tryz.underlying5
  a5 := Tryz.isAgg5
  z5 := Tryz.sizeOf5
  v5 := Tryz.zeroValue5
  t9 := Tryz.underlying9
  a9 := Tryz.isAgg9
  z9 := Tryz.sizeOf9
  v9 := Tryz.zeroValue9 }
open Go.RowKit Go.Lib in
/-- internal/stringslite.IndexByte (what strings.IndexByte calls): IT RETURNS 'Lib.indexByte s c'; the world is as it was. (LAID: no walk: one application.) -/
theorem Tryz.stringslite_IndexByte (s : ByteArray) (c : Int) (w : World) :
    Calls Tryz.prog 116 #[.string s, .int .u8 c] w fun e w' => e = .returned (.int .i64 (Lib.indexByte s.data.toList c.toNat.toUInt8)) ∧ w' = w := Any.stringslite_IndexByte Tryz.lays217 s c w
def Tryz.lays190_ren : Go.Shelf.Ren := ⟨fun | 190 => 26 | 125 => 59 | 258 => 58 | 128 => 113 | 129 => 114 | 302 => 104 | 303 => 105 | 304 => 106 | 305 => 107 | 306 => 108 | 307 => 109 | 308 => 110 | 309 => 111 | 310 => 112 | 333 => 155 | 329 => 156 | 330 => 157 | 334 => 158 | 335 => 159 | 336 => 160 | 344 => 198 | n => n, fun | 31 => 35 | 9 => 9 | 3 => 3 | 46 => 115 | 0 => 0 | 51 => 188 | 53 => 190 | 4 => 4 | 183 => 180 | 182 => 179 | 131 => 185 | 5 => 5 | 218 => 228 | 222 => 232 | 228 => 266 | 229 => 267 | n => n, fun | n => n⟩
theorem Tryz.lays190 : Go.Proofs.Lays.n190 Tryz.prog Tryz.lays190_ren := {
  mixed := by kernel_rfl
  f125 := Tryz.func59.trans (congrArg some (by kernel_rfl))
  f128 := Tryz.func113.trans (congrArg some (by kernel_rfl))
  f129 := Tryz.func114.trans (congrArg some (by kernel_rfl))
  f190 := Tryz.func26.trans (congrArg some (by kernel_rfl))
  f258 := Tryz.func58.trans (congrArg some (by kernel_rfl))
  f302 := Tryz.func104.trans (congrArg some (by kernel_rfl))
  f303 := Tryz.func105.trans (congrArg some (by kernel_rfl))
  f304 := Tryz.func106.trans (congrArg some (by kernel_rfl))
  f305 := Tryz.func107.trans (congrArg some (by kernel_rfl))
  f306 := Tryz.func108.trans (congrArg some (by kernel_rfl))
  f307 := Tryz.func109.trans (congrArg some (by kernel_rfl))
  f308 := Tryz.func110.trans (congrArg some (by kernel_rfl))
  f309 := Tryz.func111.trans (congrArg some (by kernel_rfl))
  f310 := Tryz.func112.trans (congrArg some (by kernel_rfl))
  f329 := Tryz.func156.trans (congrArg some (by kernel_rfl))
  f330 := Tryz.func157.trans (congrArg some (by kernel_rfl))
  f333 := Tryz.func155.trans (congrArg some (by kernel_rfl))
  f334 := Tryz.func158.trans (congrArg some (by kernel_rfl))
  f335 := Tryz.func159.trans (congrArg some (by kernel_rfl))
  f336 := Tryz.func160.trans (congrArg some (by kernel_rfl))
  f344 := Tryz.func198.trans (congrArg some (by kernel_rfl))
  t0 := Tryz.underlying0
  a0 := Tryz.isAgg0
  z0 := Tryz.sizeOf0
  v0 := Tryz.zeroValue0
  t3 := Tryz.underlying3
  a3 := Tryz.isAgg3
  z3 := Tryz.sizeOf3
  v3 := Tryz.zeroValue3
  t4 := Tryz.underlying4
  a4 := Tryz.isAgg4
  z4 := Tryz.sizeOf4
  v4 := Tryz.zeroValue4
  t5 := Tryz.underlying5
  a5 := Tryz.isAgg5
  z5 := Tryz.sizeOf5
  v5 := Tryz.zeroValue5
  t9 := Tryz.underlying9
  a9 := Tryz.isAgg9
  z9 := Tryz.sizeOf9
  v9 := Tryz.zeroValue9
  t31 := Tryz.underlying35
  a31 := Tryz.isAgg35
  z31 := Tryz.sizeOf35
  v31 := Tryz.zeroValue35
  t46 := Tryz.underlying115
  a46 := Tryz.isAgg115
  z46 := Tryz.sizeOf115
  v46 := Tryz.zeroValue115
  t51 := Tryz.underlying188
  a51 := Tryz.isAgg188
  z51 := Tryz.sizeOf188
  v51 := Tryz.zeroValue188
  t53 := Tryz.underlying190
  a53 := Tryz.isAgg190
  z53 := Tryz.sizeOf190
  v53 := Tryz.zeroValue190
  t131 := Tryz.underlying185
  a131 := Tryz.isAgg185
  z131 := Tryz.sizeOf185
  v131 := Tryz.zeroValue185
  t182 := Tryz.underlying179
  a182 := Tryz.isAgg179
  z182 := Tryz.sizeOf179
  v182 := Tryz.zeroValue179
  t183 := Tryz.underlying180
  a183 := Tryz.isAgg180
  z183 := Tryz.sizeOf180
  v183 := Tryz.zeroValue180
  t218 := Tryz.underlying228
  a218 := Tryz.isAgg228
  z218 := Tryz.sizeOf228
  v218 := Tryz.zeroValue228
  t222 := Tryz.underlying232
  a222 := Tryz.isAgg232
  z222 := Tryz.sizeOf232
  v222 := Tryz.zeroValue232
  t228 := Tryz.underlying266
  a228 := Tryz.isAgg266
  z228 := Tryz.sizeOf266
  v228 := Tryz.zeroValue266
  t229 := Tryz.underlying267
  a229 := Tryz.isAgg267
  z229 := Tryz.sizeOf267
  v229 := Tryz.zeroValue267 }
open Go.Sort Go.RowKit in
theorem Tryz.slices_Sort_string (blk off cap : Nat) (ss : List (List UInt8)) (w : World) (hH : Holds encStr w blk off ss.toArray) (hblk : blk < w.heap.size) (hsz : ss.length < 4611686018427387904) :
    Calls Tryz.prog 26 #[.slice (some ⟨blk, off, none⟩) ss.length cap] w fun e w' =>
      e = .returned (.tuple #[]) ∧ ∃ n os, w' = grow (putRow encStr (Sort.ahead w n) blk off (ss.mergeSort fun x y => decide (x ≤ y)).toArray) os := Any.slices_Sort_string Tryz.lays190 blk off cap ss w hH hblk hsz
open Go.RowKit Go.Sort in
/-- .. and plain. (LAID: no walk: one application.) -/
theorem Tryz.slices_Sort_string_none (p : Option Addr) (cap : Nat) (w : World) :
    Calls Tryz.prog 26 #[.slice p 0 cap] w fun e w' => e = .returned (.tuple #[]) ∧ w' = w := Any.slices_Sort_string_none Tryz.lays190 p cap w
def Tryz.lays187_ren : Go.Shelf.Ren := ⟨fun | 187 => 60 | 255 => 115 | n => n, fun | 37 => 85 | 5 => 5 | 3 => 3 | n => n, fun | n => n⟩
theorem Tryz.lays187 : Go.Proofs.Lays.n187 Tryz.prog Tryz.lays187_ren := {
  mixed := by kernel_rfl
  f187 := Tryz.func60.trans (congrArg some (by kernel_rfl))
  f255 := Tryz.func115.trans (congrArg some (by kernel_rfl))
  t3 := Tryz.underlying3
  a3 := Tryz.isAgg3
  z3 := Tryz.sizeOf3
  v3 := Tryz.zeroValue3
  t5 := Tryz.underlying5
  a5 := Tryz.isAgg5
  z5 := Tryz.sizeOf5
  v5 := Tryz.zeroValue5
  t37 := Tryz.underlying85
  a37 := Tryz.isAgg85
  z37 := Tryz.sizeOf85
  v37 := Tryz.zeroValue85 }
/-- bytes.IndexByte: "IndexByte returns the index of the first instance of c in b, or -1 if c is not present in b.": IT RETURNS 'Lib.indexByte (the bytes of b) c'; the world is as it was. 'xs': the numbers that the slice's cells hold. (LAID: no walk: one application.) -/
theorem Tryz.bytes_IndexByte (b o n c : Nat) (xs : List Int) (cv : Int) (w : World) (hx : xs.length = n) (hc : ∀ i, i < n → w.cell? ⟨b, o + i, none⟩ = some (.int .u8 (xs.getD i 0))) :
    Calls Tryz.prog 60 #[.slice (some ⟨b, o, none⟩) n c, .int .u8 cv] w fun e w' => e = .returned (.int .i64 (Lib.indexByte (Lib.bytesOf xs) cv.toNat.toUInt8)) ∧ w' = w := Any.bytes_IndexByte Tryz.lays187 b o n c xs cv w hx hc
end Go.Proofs

/-
  WHERE THE FIRST STANDS THAT A PREDICATE TAKES, in plain Lean.
-/
namespace Go.Proofs.YtbokngiajfdanaaGreatDoor
open Go Go.RK

section
variable {α : Type} (p : α → Bool)
/-- Where the first stands that p takes; below 0: nowhere. -/
def idxP : List α → Int
  | [] => -1
  | a :: l => if p a then 0 else if idxP l < 0 then -1 else idxP l + 1
theorem idxP_cases (l : List α) : (idxP p l = -1 ∧ ∀ x ∈ l, p x = false) ∨ ∃ (k : Nat) (x : α), idxP p l = k ∧ l[k]? = some x ∧ p x = true ∧ ∀ y ∈ l.take k, p y = false := by
  induction l with
  | nil => exact .inl ⟨rfl, by simp⟩
  | cons a l ih =>
    unfold idxP
    cases h : p a
    · rw [if_neg (by simp)]
      rcases ih with ⟨h1, h2⟩ | ⟨k, x, h1, h2, h3, h4⟩
      · exact .inl ⟨by rw [h1]; rfl, by simpa [h] using h2⟩
      · exact .inr ⟨k + 1, x, by rw [h1, if_neg (by omega)]; omega, by simpa using h2, h3, by simpa [h] using h4⟩
    · exact .inr ⟨0, a, by simp, by simp, h, by simp⟩
variable {p}
theorem idxP_at {l : List α} {k : Nat} {x : α} (h1 : l[k]? = some x) (hx : p x = true) (h2 : ∀ y ∈ l.take k, p y = false) : idxP p l = k := by
  rcases idxP_cases p l with ⟨_, h⟩ | ⟨j, y, h, h3, h4, h5⟩
  · rw [h x (List.mem_of_getElem? h1)] at hx; cases hx
  · rw [h]
    rcases Nat.lt_trichotomy j k with e | e | e
    · rw [h2 y (List.mem_of_getElem? (show (l.take k)[j]? = some y by rw [List.getElem?_take, if_pos e]; exact h3))] at h4; cases h4
    · rw [e]
    · rw [h5 x (List.mem_of_getElem? (show (l.take j)[k]? = some x by rw [List.getElem?_take, if_pos e]; exact h1))] at hx; cases hx
theorem idxP_no {l : List α} (h : ∀ x ∈ l, p x = false) : idxP p l = -1 := by
  rcases idxP_cases p l with ⟨e, _⟩ | ⟨j, y, _, h3, h4, _⟩
  · exact e
  · rw [h y (List.mem_of_getElem? h3)] at h4; cases h4
theorem idxP_geq (l : List α) : decide (0 ≤ idxP p l) = l.any p := by
  rcases idxP_cases p l with ⟨e, h⟩ | ⟨j, y, e, h3, h4, _⟩
  · rw [e, (List.any_eq_false.2 (fun x hx => by rw [h x hx]; simp) : l.any p = false)]
    rfl
  · rw [e, (List.any_eq_true.2 ⟨y, List.mem_of_getElem? h3, h4⟩ : l.any p = true)]
    exact decide_eq_true (by omega)
theorem take_snoc_p {l : List α} {y : α} {k : Nat} (h : ∀ x ∈ l.take k, p x = false) (hk : l[k]? = some y) (hy : p y = false) : ∀ x ∈ l.take (k + 1), p x = false := by
  intro x hx
  rw [List.take_add_one, hk] at hx
  simp only [Option.toList_some, List.mem_append, List.mem_singleton] at hx
  rcases hx with hx | rfl
  · exact h x hx
  · exact hy
end
end Go.Proofs.YtbokngiajfdanaaGreatDoor


/-
  package slices at slices of numbers: IndexFunc, DeleteFunc, Contains.
-/
namespace Go.Proofs.YtbokngiajfdanaaGreatDoor
open Go Go.RK
set_option maxHeartbeats 2000000 in
set_option maxRecDepth 100000 in
theorem indexFunc_int {h : Heap} {A : Option Addr} {c : Nat} (l : List Int) (p : Int → Bool) {fk : Nat} {fs us : List Value} (hcf : ∀ (args : Array Value) (w : World), (callFunc fk args).run Tryz.prog w = .ok (.enter fk args) w) (hr : Rd h (.slice A l.length c) 1 l.length (l.map In)) (hm : l.length ≤ maxLen)
    (hp : ∀ x ∈ l, CallsH Tryz.prog fk ⟨fs ++ [In x] ++ us⟩ h fun u h' => u = .bool (p x) ∧ h' = h) :
    CallsH Tryz.prog 121 ⟨[.slice A l.length c, .func (.func fk) ⟨fs⟩ ⟨us⟩]⟩ h fun u h' => u = In (idxP p l) ∧ h' = h := by
  unfold maxLen at hm
  refine calls [(0, _), (1, _)] Tryz.func121 rfl Tryz.ntmps121 rfl ⟨rfl, rfl, trivial⟩ ?_
  all_goals (refine WC.sr ?_; refine Go ?_; refine WC.seq ?_; refine WC.sr ?_; refine Go ?_; refine WC.block ?_)
  -- loop 0: slots that turn [8], that stay [0, 1, 7]
  all_goals (refine WC.loopG (X := Nat) (fun x => ([(8, In (x : Int))] : Fr)) [(0, _), (1, _), (7, _)] (fun k h' => h' = h ∧ k ≤ l.length ∧ ∀ x ∈ l.take k, p x = false) (fun k => l.length - k) (0) ⟨rfl, rfl, rfl, rfl, trivial⟩ (by exact ⟨rfl, Nat.zero_le _, by simp⟩) ?_; rintro k _ ⟨rfl, hk, hn⟩; refine WC.sub [(8, _), (0, _), (1, _), (7, _)] ⟨rfl, rfl, rfl, rfl, trivial⟩ ?_; refine WC.sr ?_; refine Go ?_; refine WC.seq ?_; refine goC 1 2 (Hb.mk fun hb => ?_) (Hb.mk fun hb => ?_))
  all_goals (first | (fail_if_success refine goB 1 ?_) | (
  refine goB 1 ?_
  all_goals (refine WC.skip ?_)
  skip))
  all_goals (first | (fail_if_success refine goB 2 ?_) | (
  refine goB 2 ?_
  all_goals (refine WC.exit ?_; repeat' (with_reducible first | refine thenP_x ?_ | refine blockP_miss rfl ?_ | refine blockP_hit ?_ | refine blockP_n ?_ | refine thenP_n ?_))
  all_goals (refine Br.out (i := 1000) ?_)
  skip))
  all_goals (refine Gn ?_; first | (refine Br.keep ?_) | (refine WC.seq ?_))
  all_goals (first | (refine Br.keep ?_) | (refine WC.block ?_))
  all_goals (first | (refine Br.keep ?_) | (refine WC.sr ?_))
  all_goals (refine Go ?_; first | (refine Br.keep ?_) | (refine WC.sr ?_))
  all_goals (refine Go ?_)
  all_goals (first
               | (refine Br.keep ?_)
               | (obtain ⟨b, o, hA, hbL, hat⟩ := Rd.at_ hr (by omega)
                  obtain ⟨y, hy⟩ : ∃ y, l[k]? = some y := ⟨_, List.getElem?_eq_getElem (by omega)⟩
                  have hc := hat.get (p := o + k * 1) (v := In y) k (by rw [List.getElem?_map, hy]; exact rfl) (by omega)))
  all_goals (first | (refine Br.keep ?_) | (refine WL.step (ok_idxAddrA Tryz.underlying29 (fun w => Tryz.sizeOf3 w) rfl rfl rfl (by omega) (by first | rfl | assumption)) rfl rfl rfl ?_))
  all_goals (first | (refine Br.keep ?_) | (refine Ld ?_))
  all_goals (first
               | (refine Br.keep ?_)
               | (refine WL.callT (vs := [_]) rfl rfl hcf rfl (hp y (List.mem_of_getElem? hy)) rfl rfl rfl ?_
                  rintro _ hz ⟨rfl, _⟩
                  subst hz))
  all_goals (first | (refine Br.keep ?_) | (cases hpy : p y))
  all_goals (refine Gn ?_; first | (refine Br.keep ?_) | (refine Gs [(0, _), (1, _), (5, _), (7, _), (8, _), (16, _)] ?_))
  all_goals (first | (refine Br.keep ?_) | (refine goC 3 4 ?_ TT.mk))
  all_goals (first | (fail_if_success refine goB 3 ?_) | (
  refine goB 3 ?_
  all_goals (refine WC.sr ?_; refine Go ?_; refine Gs [(4, _)] ?_; refine Gt ?_; first | exact ⟨by rw [idxP_no (by rw [List.take_of_length_le (by omega)] at hn; exact hn)], rfl⟩ | exact ⟨by rw [idxP_at hy hpy hn], rfl⟩)
  skip))
  all_goals (first | (fail_if_success refine goB 4 ?_) | (
  refine goB 4 ?_
  all_goals (refine WC.skip ?_)
  skip))
  all_goals (refine Gn ?_; first | (refine Br.keep ?_) | (refine WC.region ?_))
  all_goals (refine Go ?_; first | (refine Br.keep ?_) | (exact ⟨k + 1, ⟨rfl, rfl, rfl, rfl, trivial⟩, (by exact ⟨rfl, by omega, take_snoc_p hn hy hpy⟩), (by omega)⟩))
  all_goals (try (refine Br.mk (i := 1000) ?_))
  all_goals (refine Gn ?_; refine Gs [] ?_; refine WC.sr ?_; refine Go ?_; refine Gt ?_; first | exact ⟨by rw [idxP_no (by rw [List.take_of_length_le (by omega)] at hn; exact hn)], rfl⟩ | exact ⟨by rw [idxP_at hy hpy hn], rfl⟩)

end Go.Proofs.YtbokngiajfdanaaGreatDoor


/-
  []byte OF A ROW OF BYTES, WRITTEN OUT ([]byte of a constant text): it stays where it is. No program is named here.
-/
namespace Go.RK
open Go

section
variable {P : Program} {f : Fr} {h : Heap} {d : Option Tmp} {ty : TypeId} {pos : String} {af : Array Edge} {g : Option (Nat × Bool)}
theorem okE_convSS {x : Operand} {src e t : TypeId} {b n c : Nat} {cs : Array Value} {z : Nat × Nat} (hs : P.underlying src = some (.slice e)) (he : P.underlying e = some (.int .u8)) (hx : f.ev x = some (.slice (some ⟨b, 0, Option.none⟩) n c)) (hb : h[b]? = some (.cells cs t z)) :
    OkR P f ⟨d, .convert src src x, ty, pos, af, g⟩ h (fun v h' => v = .slice (some ⟨b, 0, Option.none⟩) n c ∧ (∃ z', h'[b]? = some (.cells cs t z')) ∧ Ext (fun k => k = b) h h') :=
  fun ρ w ha hw => by
    subst hw
    have hsh : w.shape? b = some (t, cs.size) := by simp [World.shape?, hb]
    refine ⟨_, w.freeze ⟨b, cs.size, Option.none⟩ 1, ?_, ⟨rfl, ?_, ?_⟩, .inl ?_⟩
    · unfold World.freeze
      split <;> exact ⟨rfl, rfl, rfl, trivial⟩
    · unfold World.freeze
      split
      · exact ⟨z, hb⟩
      · obtain ⟨lo, hi⟩ := z
        refine ⟨if lo == hi then (cs.size, cs.size + 1) else (min lo cs.size, max hi (cs.size + 1)), ?_⟩
        simp only [Array.getElem?_modify, if_true, hb]
        rfl
    · unfold World.freeze
      split
      · exact .refl _ _
      · refine ⟨by simp, fun k _ hk => ?_⟩
        simp only [Array.getElem?_modify]
        rw [if_neg (fun e => hk e.symm)]
    · simp [execOp, ha _ _ hx, convert, run_underlying hs, run_underlying he, markStringish, hsh]
end
end Go.RK

/-
  BYTES LOOKED FOR; clean texts; numbers within bounds: packages bytes, strings, digits, front, back.
-/
namespace Go.Proofs.YtbokngiajfdanaaGreatDoor
open Go Go.RK

theorem ixb_nat (c : UInt8) : ((c.toNat : Int)).toNat.toUInt8 = c := by simp
theorem indexByte_str {h : Heap} (s : List UInt8) (c : UInt8) :
    CallsH Tryz.prog 61 ⟨[St s, By c]⟩ h fun u h' => u = In (Lib.indexByte s c) ∧ h' = h := fun w hw =>
  (Tryz.strings_IndexByte ⟨⟨s⟩⟩ c.toNat w).mono fun e w' ⟨he, hb⟩ => ⟨⟨by rw [hb], by rw [hb], by rw [hb], trivial⟩, _, he, by rw [ixb_nat], by rw [hb, hw]⟩
theorem indexByte_bys {h : Heap} {v : Value} (l : List UInt8) (c : UInt8) (hr : Rd h v 1 l.length (bys l)) (h0 : 0 < l.length) :
    CallsH Tryz.prog 60 ⟨[v, By c]⟩ h fun u h' => u = In (Lib.indexByte l c) ∧ h' = h := by
  obtain ⟨A, cap, rfl, _⟩ := id hr
  obtain ⟨b, o, rfl, _, hat⟩ := Rd.at_ hr h0
  intro w hw
  subst hw
  have e : Lib.bytesOf (l.map fun x : UInt8 => (x.toNat : Int)) = l := by
    unfold Lib.bytesOf
    rw [List.map_map]
    conv => rhs; rw [← List.map_id l]
    exact List.map_congr_left fun x _ => ixb_nat x
  refine (Tryz.bytes_IndexByte b o l.length cap (l.map fun x : UInt8 => (x.toNat : Int)) c.toNat w (by simp) fun i hi => ?_).mono fun e' w' ⟨he, hb⟩ => ⟨⟨by rw [hb], by rw [hb], by rw [hb], trivial⟩, _, he, by rw [ixb_nat, e], by rw [hb]⟩
  rw [cell_eq]
  have := hat i (By l[i]) (by simp [hi])
  rw [this]
  simp [List.getD, hi]
def cleanB (s : List UInt8) : Bool := !s.contains 0
set_option maxHeartbeats 2000000 in
set_option maxRecDepth 100000 in
theorem clean_any {h : Heap} (s : List UInt8) : CallsH Tryz.prog 28 ⟨[St s]⟩ h fun u h' => u = .bool (cleanB s) ∧ h' = h := by
  refine calls [(0, _)] Tryz.func28 rfl Tryz.ntmps28 rfl ⟨rfl, trivial⟩ ?_
  all_goals (refine WC.sr ?_; refine Go ?_; refine WC.sr ?_; refine Go ?_; refine WL.call (vs := [_, _]) rfl (fun a w => Tryz.call61 a w) rfl (indexByte_str s 0) rfl rfl rfl ?_; rintro _ hz ⟨rfl, _⟩; subst hz; refine WL.step (ok_lss rfl rfl) rfl rfl rfl ?_; refine Go ?_; refine Gs [(2, _)] ?_; refine Gt ?_; exact ⟨by unfold cleanB; rw [Lib.contains_iff_indexByte]; exact congrArg Value.bool (by rw [← decide_not]; exact decide_eq_decide.2 (by omega)), rfl⟩)
def withinB (l : List Int) (lo hi : Int) : Bool := decide (l.length ≤ 65535) && !l.any fun n => decide (n < lo) || decide (hi < n)
def knownI (k : UInt8) : Int := if ([66, 67, 68, 69, 72, 80, 81, 83, 88] : List UInt8).contains k then 1 else if ([70, 99, 100, 102, 112] : List UInt8).contains k then 2 else 0
end Go.Proofs.YtbokngiajfdanaaGreatDoor


/-
  THE COMPARE OF ARRAYS OF TEXTS. No program is named here.
-/
namespace Go.RK
open Go

section
variable {P : Program}
theorem run_eqItems_str (w : World) (d : Nat) {e : TypeId} (he : P.underlying e = some .string) (hp : P.plainKey e = true) (xs ys : Array Value) : ∀ (us vs : List (List UInt8)) (o : Nat), vs.length = us.length →
    (∀ (j : Nat) (a : List UInt8), us[j]? = some a → xs[o + j]? = some (St a)) → (∀ (j : Nat) (a : List UInt8), vs[j]? = some a → ys[o + j]? = some (St a)) →
    (Op.eqItems (d + 1) e 1 xs ys (List.range' o us.length)).run P w = .ok (decide (us = vs)) w
  | [], vs, o, hl, _, _ => by
    obtain rfl : vs = [] := List.eq_nil_of_length_eq_zero hl
    simp [Op.eqItems]
  | a :: us, [], o, hl, _, _ => by simp at hl
  | a :: us, b :: vs, o, hl, hx, hy => by
    have p1 := hx 0 a rfl
    have p2 := hy 0 b rfl
    rw [Nat.add_zero] at p1 p2
    have r1 := run_part_plain (P := P) (w := w) hp p1
    have r2 := run_part_plain (P := P) (w := w) hp p2
    have r3 : (Op.equalIn (d + 1) e (St a) (St b)).run P w = .ok (decide (a = b)) w := by
      show (Op.equalIn (d + 1) e (.string _) (.string _)).run P w = _
      rw [run_equalIn_string w d e _ _ he]
      simp [beq_dec]
    have ih := run_eqItems_str w d he hp xs ys us vs (o + 1) (by simpa using hl) (fun j c hj => by
      have := hx (j + 1) c (by simpa using hj)
      rwa [show o + (j + 1) = o + 1 + j by omega] at this) (fun j c hj => by
      have := hy (j + 1) c (by simpa using hj)
      rwa [show o + (j + 1) = o + 1 + j by omega] at this)
    rw [List.length_cons, List.range'_succ]
    simp only [Op.eqItems, Nat.mul_one, Sem.run_bind, r1, r2, r3, Result.andThen_ok]
    by_cases h : a = b
    · simp [h, ih]
    · simp [h]
variable {f : Fr} {h : Heap} {d : Option Tmp} {ty : TypeId} {pos : String} {af : Array Edge} {g : Option (Nat × Bool)}
theorem ok_eqlA {t t2 e : TypeId} {x y : Operand} {n : Nat} {i : TypeInfo} {us vs : List (List UInt8)} (hu : P.underlying t = some (.array n e)) (hi : P.info? e = some i) (he : P.underlying e = some .string) (hp : P.plainKey e = true) (h1 : P.cellsOf e = 1) (hg : P.eqGuardType P.depth t = false)
    (hl : us.length = n) (hl2 : vs.length = n) (hx : f.ev x = some (.agg ⟨us.map St⟩)) (hy : f.ev y = some (.agg ⟨vs.map St⟩)) :
    OkP P f ⟨d, .binOp .eql t x y t2, ty, pos, af, g⟩ h (.bool (decide (us = vs))) := fun ρ w hag _ => by
  have r1 := run_eqGuard_agg (P := P) w .eql t x y ⟨us.map St⟩ ⟨vs.map St⟩ hg
  have r2 := run_eql_struct (P := P) w t ⟨us.map St⟩ ⟨vs.map St⟩
  rw [show (10000 : Nat) = 9999 + 1 from rfl, run_equalIn_array w 9999 _ _ hu hi, h1, List.range_eq_range', ← hl] at r2
  rw [run_eqItems_str w 9998 he hp _ _ us vs 0 (by omega) (fun j a hj => by simp [hj]) (fun j a hj => by simp [hj])] at r2
  simp only [execOp, hag _ _ hx, hag _ _ hy, Sem.run_bind, r1, r2, Result.andThen_ok, Sem.run_pure]
end
end Go.RK

/-
  back.Check, of messages that may be.
-/
namespace Go.Proofs.YtbokngiajfdanaaGreatDoor
open Go Go.RK

/-- A bound. -/
structure BndD where
  n : Int
  lo : Int
  hi : Int
def BndD.cells (b : BndD) : List Value := [In b.n, In b.lo, In b.hi]
theorem BndD.len (b : BndD) : b.cells.length = 3 := rfl
def BndD.ok (b : BndD) : Prop := b.lo ≤ b.n ∧ b.n ≤ b.hi
set_option maxHeartbeats 2000000 in
set_option maxRecDepth 100000 in
theorem indexFunc_bnd {h : Heap} {v : Value} (l : List BndD) (p : BndD → Bool) {fk : Nat} {fs us : List Value} (hcf : ∀ (args : Array Value) (w : World), (callFunc fk args).run Tryz.prog w = .ok (.enter fk args) w) (hr : Rd h v 3 l.length (l.flatMap BndD.cells)) (hm : l.length ≤ maxLen)
    (hp : ∀ x ∈ l, ∀ h', Ext No h h' → CallsH Tryz.prog fk ⟨fs ++ [.agg ⟨BndD.cells x⟩] ++ us⟩ h' fun u h'' => u = .bool (p x) ∧ Ext No h' h'') :
    CallsH Tryz.prog 162 ⟨[v, .func (.func fk) ⟨fs⟩ ⟨us⟩]⟩ h fun u h' => u = In (idxP p l) ∧ Ext No h h' := by
  obtain ⟨A, c, rfl, _⟩ := id hr
  unfold maxLen at hm
  refine calls [(0, _), (1, _)] Tryz.func162 rfl Tryz.ntmps162 rfl ⟨rfl, rfl, trivial⟩ ?_
  all_goals (refine WC.sr ?_; refine Go ?_; refine WC.seq ?_; refine WC.sr ?_; refine Go ?_; refine WC.block ?_)
  -- loop 0: slots that turn [8], that stay [0, 1, 7]
  all_goals (refine WC.loopG (X := Nat) (fun x => ([(8, In (x : Int))] : Fr)) [(0, _), (1, _), (7, _)] (fun k h' => Ext No h h' ∧ k ≤ l.length ∧ ∀ x ∈ l.take k, p x = false) (fun k => l.length - k) (0) ⟨rfl, rfl, rfl, rfl, trivial⟩ (by exact ⟨.refl _ _, Nat.zero_le _, by simp⟩) ?_; rintro k h1 ⟨hx1, hk, hn⟩; refine WC.sub [(8, _), (0, _), (1, _), (7, _)] ⟨rfl, rfl, rfl, rfl, trivial⟩ ?_; refine WC.sr ?_; refine Go ?_; refine WC.seq ?_; refine goC 1 2 (Hb.mk fun hb => ?_) (Hb.mk fun hb => ?_))
  all_goals (first | (fail_if_success refine goB 1 ?_) | (
  refine goB 1 ?_
  all_goals (refine WC.skip ?_)
  skip))
  all_goals (first | (fail_if_success refine goB 2 ?_) | (
  refine goB 2 ?_
  all_goals (refine WC.exit ?_; repeat' (with_reducible first | refine thenP_x ?_ | refine blockP_miss rfl ?_ | refine blockP_hit ?_ | refine blockP_n ?_ | refine thenP_n ?_))
  all_goals (refine Br.out (i := 1000) ?_)
  skip))
  all_goals (refine Gn ?_; first | (refine Br.keep ?_) | (refine WC.seq ?_))
  all_goals (first | (refine Br.keep ?_) | (refine WC.block ?_))
  all_goals (first | (refine Br.keep ?_) | (refine WC.sr ?_))
  all_goals (refine Go ?_; first | (refine Br.keep ?_) | (refine WC.sr ?_))
  all_goals (first | (refine Br.keep ?_) | (refine WL.step (ok_move rfl) rfl rfl rfl ?_))
  all_goals (first | (refine Br.keep ?_) | (refine WL.step (ok_move rfl) rfl rfl rfl ?_))
  all_goals (first
               | (refine Br.keep ?_)
               | (obtain ⟨b, o, hA, hbL, hat⟩ := Rd.at_ (hr.ext0 hx1) (by omega)
                  obtain ⟨y, hy⟩ : ∃ y, l[k]? = some y := ⟨_, List.getElem?_eq_getElem (by omega)⟩
                  have hc : At h1 b (o + k * 3) (BndD.cells y) := At.elem BndD.len hat hy))
  all_goals (first | (refine Br.keep ?_) | (refine WL.step (ok_move rfl) rfl rfl rfl ?_))
  all_goals (first | (refine Br.keep ?_) | (refine WL.step (ok_idxAddrA Tryz.underlying192 (fun w => Tryz.sizeOf120 w) rfl rfl rfl (by omega) (by first | rfl | assumption)) rfl rfl rfl ?_))
  all_goals (first | (refine Br.keep ?_) | (refine WL.step (ok_loadN (fun w => Tryz.isAgg120 w) (fun w => Tryz.sizeOf120 w) rfl rfl (by assumption)) rfl rfl rfl ?_))
  all_goals (first
               | (refine Br.keep ?_)
               | (refine WL.callT (vs := [_]) rfl rfl hcf rfl (hp y (List.mem_of_getElem? hy) h1 hx1) rfl rfl rfl ?_
                  rintro _ h2 ⟨rfl, hx2⟩))
  all_goals (first | (refine Br.keep ?_) | (cases hpy : p y))
  all_goals (refine Gn ?_; first | (refine Br.keep ?_) | (refine Gs [(0, _), (1, _), (5, _), (7, _), (8, _), (16, _)] ?_))
  all_goals (first | (refine Br.keep ?_) | (refine goC 3 4 ?_ TT.mk))
  all_goals (first | (fail_if_success refine goB 3 ?_) | (
  refine goB 3 ?_
  all_goals (refine WC.sr ?_; refine Go ?_; refine Gs [(4, _)] ?_; refine Gt ?_; first | exact ⟨by rw [idxP_no (by rw [List.take_of_length_le (by omega)] at hn; exact hn)], hx1⟩ | exact ⟨by rw [idxP_at hy hpy hn], hx1.trans hx2⟩)
  skip))
  all_goals (first | (fail_if_success refine goB 4 ?_) | (
  refine goB 4 ?_
  all_goals (refine WC.skip ?_)
  skip))
  all_goals (refine Gn ?_; first | (refine Br.keep ?_) | (refine WC.region ?_))
  all_goals (refine Go ?_; first | (refine Br.keep ?_) | (exact ⟨k + 1, ⟨rfl, rfl, rfl, rfl, trivial⟩, (by exact ⟨hx1.trans hx2, by omega, take_snoc_p hn hy hpy⟩), (by omega)⟩))
  all_goals (try (refine Br.mk (i := 1000) ?_))
  all_goals (refine Gn ?_; refine Gs [] ?_; refine WC.sr ?_; refine Go ?_; refine Gt ?_; first | exact ⟨by rw [idxP_no (by rw [List.take_of_length_le (by omega)] at hn; exact hn)], hx1⟩ | exact ⟨by rw [idxP_at hy hpy hn], hx1.trans hx2⟩)

set_option maxHeartbeats 2000000 in
set_option maxRecDepth 100000 in
theorem indexFunc_col {h : Heap} {v : Value} (l : List ColD) (p : ColD → Bool) {fk : Nat} {fs us : List Value} (hcf : ∀ (args : Array Value) (w : World), (callFunc fk args).run Tryz.prog w = .ok (.enter fk args) w) (hr : Rd h v 7 l.length (l.flatMap ColD.cells)) (hm : l.length ≤ maxLen)
    (hp : ∀ x ∈ l, ∀ h', Ext No h h' → CallsH Tryz.prog fk ⟨fs ++ [.agg ⟨ColD.cells x⟩] ++ us⟩ h' fun u h'' => u = .bool (p x) ∧ Ext No h' h'') :
    CallsH Tryz.prog 117 ⟨[v, .func (.func fk) ⟨fs⟩ ⟨us⟩]⟩ h fun u h' => u = In (idxP p l) ∧ Ext No h h' := by
  obtain ⟨A, c, rfl, _⟩ := id hr
  unfold maxLen at hm
  refine calls [(0, _), (1, _)] Tryz.func117 rfl Tryz.ntmps117 rfl ⟨rfl, rfl, trivial⟩ ?_
  all_goals (refine WC.sr ?_; refine Go ?_; refine WC.seq ?_; refine WC.sr ?_; refine Go ?_; refine WC.block ?_)
  -- loop 0: slots that turn [8], that stay [0, 1, 7]
  all_goals (refine WC.loopG (X := Nat) (fun x => ([(8, In (x : Int))] : Fr)) [(0, _), (1, _), (7, _)] (fun k h' => Ext No h h' ∧ k ≤ l.length ∧ ∀ x ∈ l.take k, p x = false) (fun k => l.length - k) (0) ⟨rfl, rfl, rfl, rfl, trivial⟩ (by exact ⟨.refl _ _, Nat.zero_le _, by simp⟩) ?_; rintro k h1 ⟨hx1, hk, hn⟩; refine WC.sub [(8, _), (0, _), (1, _), (7, _)] ⟨rfl, rfl, rfl, rfl, trivial⟩ ?_; refine WC.sr ?_; refine Go ?_; refine WC.seq ?_; refine goC 1 2 (Hb.mk fun hb => ?_) (Hb.mk fun hb => ?_))
  all_goals (first | (fail_if_success refine goB 1 ?_) | (
  refine goB 1 ?_
  all_goals (refine WC.skip ?_)
  skip))
  all_goals (first | (fail_if_success refine goB 2 ?_) | (
  refine goB 2 ?_
  all_goals (refine WC.exit ?_; repeat' (with_reducible first | refine thenP_x ?_ | refine blockP_miss rfl ?_ | refine blockP_hit ?_ | refine blockP_n ?_ | refine thenP_n ?_))
  all_goals (refine Br.out (i := 1000) ?_)
  skip))
  all_goals (refine Gn ?_; first | (refine Br.keep ?_) | (refine WC.seq ?_))
  all_goals (first | (refine Br.keep ?_) | (refine WC.block ?_))
  all_goals (first | (refine Br.keep ?_) | (refine WC.sr ?_))
  all_goals (refine Go ?_; first | (refine Br.keep ?_) | (refine WC.sr ?_))
  all_goals (first | (refine Br.keep ?_) | (refine WL.step (ok_move rfl) rfl rfl rfl ?_))
  all_goals (first | (refine Br.keep ?_) | (refine WL.step (ok_move rfl) rfl rfl rfl ?_))
  all_goals (first
               | (refine Br.keep ?_)
               | (obtain ⟨b, o, hA, hbL, hat⟩ := Rd.at_ (hr.ext0 hx1) (by omega)
                  obtain ⟨y, hy⟩ : ∃ y, l[k]? = some y := ⟨_, List.getElem?_eq_getElem (by omega)⟩
                  have hc : At h1 b (o + k * 7) (ColD.cells y) := At.elem ColD.len hat hy))
  all_goals (first | (refine Br.keep ?_) | (refine WL.step (ok_move rfl) rfl rfl rfl ?_))
  all_goals (first | (refine Br.keep ?_) | (refine WL.step (ok_idxAddrA Tryz.underlying39 (fun w => Tryz.sizeOf78 w) rfl rfl rfl (by omega) (by first | rfl | assumption)) rfl rfl rfl ?_))
  all_goals (first | (refine Br.keep ?_) | (refine WL.step (ok_loadN (fun w => Tryz.isAgg78 w) (fun w => Tryz.sizeOf78 w) rfl rfl (by assumption)) rfl rfl rfl ?_))
  all_goals (first
               | (refine Br.keep ?_)
               | (refine WL.callT (vs := [_]) rfl rfl hcf rfl (hp y (List.mem_of_getElem? hy) h1 hx1) rfl rfl rfl ?_
                  rintro _ h2 ⟨rfl, hx2⟩))
  all_goals (first | (refine Br.keep ?_) | (cases hpy : p y))
  all_goals (refine Gn ?_; first | (refine Br.keep ?_) | (refine Gs [(0, _), (1, _), (5, _), (7, _), (8, _), (16, _)] ?_))
  all_goals (first | (refine Br.keep ?_) | (refine goC 3 4 ?_ TT.mk))
  all_goals (first | (fail_if_success refine goB 3 ?_) | (
  refine goB 3 ?_
  all_goals (refine WC.sr ?_; refine Go ?_; refine Gs [(4, _)] ?_; refine Gt ?_; first | exact ⟨by rw [idxP_no (by rw [List.take_of_length_le (by omega)] at hn; exact hn)], hx1⟩ | exact ⟨by rw [idxP_at hy hpy hn], hx1.trans hx2⟩)
  skip))
  all_goals (first | (fail_if_success refine goB 4 ?_) | (
  refine goB 4 ?_
  all_goals (refine WC.skip ?_)
  skip))
  all_goals (refine Gn ?_; first | (refine Br.keep ?_) | (refine WC.region ?_))
  all_goals (refine Go ?_; first | (refine Br.keep ?_) | (exact ⟨k + 1, ⟨rfl, rfl, rfl, rfl, trivial⟩, (by exact ⟨hx1.trans hx2, by omega, take_snoc_p hn hy hpy⟩), (by omega)⟩))
  all_goals (try (refine Br.mk (i := 1000) ?_))
  all_goals (refine Gn ?_; refine Gs [] ?_; refine WC.sr ?_; refine Go ?_; refine Gt ?_; first | exact ⟨by rw [idxP_no (by rw [List.take_of_length_le (by omega)] at hn; exact hn)], hx1⟩ | exact ⟨by rw [idxP_at hy hpy hn], hx1.trans hx2⟩)

set_option maxHeartbeats 2000000 in
set_option maxRecDepth 100000 in
theorem indexFunc_fld {h : Heap} {v : Value} (l : List FieldD) (p : FieldD → Bool) {fk : Nat} {fs us : List Value} (hcf : ∀ (args : Array Value) (w : World), (callFunc fk args).run Tryz.prog w = .ok (.enter fk args) w) (hr : Rd h v 2 l.length (l.flatMap FieldD.cells)) (hm : l.length ≤ maxLen)
    (hp : ∀ x ∈ l, ∀ h', Ext No h h' → CallsH Tryz.prog fk ⟨fs ++ [.agg ⟨FieldD.cells x⟩] ++ us⟩ h' fun u h'' => u = .bool (p x) ∧ Ext No h' h'') :
    CallsH Tryz.prog 120 ⟨[v, .func (.func fk) ⟨fs⟩ ⟨us⟩]⟩ h fun u h' => u = In (idxP p l) ∧ Ext No h h' := by
  obtain ⟨A, c, rfl, _⟩ := id hr
  unfold maxLen at hm
  refine calls [(0, _), (1, _)] Tryz.func120 rfl Tryz.ntmps120 rfl ⟨rfl, rfl, trivial⟩ ?_
  all_goals (refine WC.sr ?_; refine Go ?_; refine WC.seq ?_; refine WC.sr ?_; refine Go ?_; refine WC.block ?_)
  -- loop 0: slots that turn [8], that stay [0, 1, 7]
  all_goals (refine WC.loopG (X := Nat) (fun x => ([(8, In (x : Int))] : Fr)) [(0, _), (1, _), (7, _)] (fun k h' => Ext No h h' ∧ k ≤ l.length ∧ ∀ x ∈ l.take k, p x = false) (fun k => l.length - k) (0) ⟨rfl, rfl, rfl, rfl, trivial⟩ (by exact ⟨.refl _ _, Nat.zero_le _, by simp⟩) ?_; rintro k h1 ⟨hx1, hk, hn⟩; refine WC.sub [(8, _), (0, _), (1, _), (7, _)] ⟨rfl, rfl, rfl, rfl, trivial⟩ ?_; refine WC.sr ?_; refine Go ?_; refine WC.seq ?_; refine goC 1 2 (Hb.mk fun hb => ?_) (Hb.mk fun hb => ?_))
  all_goals (first | (fail_if_success refine goB 1 ?_) | (
  refine goB 1 ?_
  all_goals (refine WC.skip ?_)
  skip))
  all_goals (first | (fail_if_success refine goB 2 ?_) | (
  refine goB 2 ?_
  all_goals (refine WC.exit ?_; repeat' (with_reducible first | refine thenP_x ?_ | refine blockP_miss rfl ?_ | refine blockP_hit ?_ | refine blockP_n ?_ | refine thenP_n ?_))
  all_goals (refine Br.out (i := 1000) ?_)
  skip))
  all_goals (refine Gn ?_; first | (refine Br.keep ?_) | (refine WC.seq ?_))
  all_goals (first | (refine Br.keep ?_) | (refine WC.block ?_))
  all_goals (first | (refine Br.keep ?_) | (refine WC.sr ?_))
  all_goals (refine Go ?_; first | (refine Br.keep ?_) | (refine WC.sr ?_))
  all_goals (first | (refine Br.keep ?_) | (refine WL.step (ok_move rfl) rfl rfl rfl ?_))
  all_goals (first | (refine Br.keep ?_) | (refine WL.step (ok_move rfl) rfl rfl rfl ?_))
  all_goals (first
               | (refine Br.keep ?_)
               | (obtain ⟨b, o, hA, hbL, hat⟩ := Rd.at_ (hr.ext0 hx1) (by omega)
                  obtain ⟨y, hy⟩ : ∃ y, l[k]? = some y := ⟨_, List.getElem?_eq_getElem (by omega)⟩
                  have hc : At h1 b (o + k * 2) (FieldD.cells y) := At.elem FieldD.len hat hy))
  all_goals (first | (refine Br.keep ?_) | (refine WL.step (ok_move rfl) rfl rfl rfl ?_))
  all_goals (first | (refine Br.keep ?_) | (refine WL.step (ok_idxAddrA Tryz.underlying40 (fun w => Tryz.sizeOf82 w) rfl rfl rfl (by omega) (by first | rfl | assumption)) rfl rfl rfl ?_))
  all_goals (first | (refine Br.keep ?_) | (refine WL.step (ok_loadN (fun w => Tryz.isAgg82 w) (fun w => Tryz.sizeOf82 w) rfl rfl (by assumption)) rfl rfl rfl ?_))
  all_goals (first
               | (refine Br.keep ?_)
               | (refine WL.callT (vs := [_]) rfl rfl hcf rfl (hp y (List.mem_of_getElem? hy) h1 hx1) rfl rfl rfl ?_
                  rintro _ h2 ⟨rfl, hx2⟩))
  all_goals (first | (refine Br.keep ?_) | (cases hpy : p y))
  all_goals (refine Gn ?_; first | (refine Br.keep ?_) | (refine Gs [(0, _), (1, _), (5, _), (7, _), (8, _), (16, _)] ?_))
  all_goals (first | (refine Br.keep ?_) | (refine goC 3 4 ?_ TT.mk))
  all_goals (first | (fail_if_success refine goB 3 ?_) | (
  refine goB 3 ?_
  all_goals (refine WC.sr ?_; refine Go ?_; refine Gs [(4, _)] ?_; refine Gt ?_; first | exact ⟨by rw [idxP_no (by rw [List.take_of_length_le (by omega)] at hn; exact hn)], hx1⟩ | exact ⟨by rw [idxP_at hy hpy hn], hx1.trans hx2⟩)
  skip))
  all_goals (first | (fail_if_success refine goB 4 ?_) | (
  refine goB 4 ?_
  all_goals (refine WC.skip ?_)
  skip))
  all_goals (refine Gn ?_; first | (refine Br.keep ?_) | (refine WC.region ?_))
  all_goals (refine Go ?_; first | (refine Br.keep ?_) | (exact ⟨k + 1, ⟨rfl, rfl, rfl, rfl, trivial⟩, (by exact ⟨hx1.trans hx2, by omega, take_snoc_p hn hy hpy⟩), (by omega)⟩))
  all_goals (try (refine Br.mk (i := 1000) ?_))
  all_goals (refine Gn ?_; refine Gs [] ?_; refine WC.sr ?_; refine Go ?_; refine Gt ?_; first | exact ⟨by rw [idxP_no (by rw [List.take_of_length_le (by omega)] at hn; exact hn)], hx1⟩ | exact ⟨by rw [idxP_at hy hpy hn], hx1.trans hx2⟩)

set_option maxHeartbeats 2000000 in
set_option maxRecDepth 100000 in
theorem indexFunc_cel {h : Heap} {v : Value} (l : List Cel) (p : Cel → Bool) {fk : Nat} {fs us : List Value} (hcf : ∀ (args : Array Value) (w : World), (callFunc fk args).run Tryz.prog w = .ok (.enter fk args) w) (hr : Rd h v 2 l.length (l.flatMap Cel.cells)) (hm : l.length ≤ maxLen)
    (hp : ∀ x ∈ l, ∀ h', Ext No h h' → CallsH Tryz.prog fk ⟨fs ++ [.agg ⟨Cel.cells x⟩] ++ us⟩ h' fun u h'' => u = .bool (p x) ∧ Ext No h' h'') :
    CallsH Tryz.prog 75 ⟨[v, .func (.func fk) ⟨fs⟩ ⟨us⟩]⟩ h fun u h' => u = In (idxP p l) ∧ Ext No h h' := by
  obtain ⟨A, c, rfl, _⟩ := id hr
  unfold maxLen at hm
  refine calls [(0, _), (1, _)] Tryz.func75 rfl Tryz.ntmps75 rfl ⟨rfl, rfl, trivial⟩ ?_
  all_goals (refine WC.sr ?_; refine Go ?_; refine WC.seq ?_; refine WC.sr ?_; refine Go ?_; refine WC.block ?_)
  -- loop 0: slots that turn [8], that stay [0, 1, 7]
  all_goals (refine WC.loopG (X := Nat) (fun x => ([(8, In (x : Int))] : Fr)) [(0, _), (1, _), (7, _)] (fun k h' => Ext No h h' ∧ k ≤ l.length ∧ ∀ x ∈ l.take k, p x = false) (fun k => l.length - k) (0) ⟨rfl, rfl, rfl, rfl, trivial⟩ (by exact ⟨.refl _ _, Nat.zero_le _, by simp⟩) ?_; rintro k h1 ⟨hx1, hk, hn⟩; refine WC.sub [(8, _), (0, _), (1, _), (7, _)] ⟨rfl, rfl, rfl, rfl, trivial⟩ ?_; refine WC.sr ?_; refine Go ?_; refine WC.seq ?_; refine goC 1 2 (Hb.mk fun hb => ?_) (Hb.mk fun hb => ?_))
  all_goals (first | (fail_if_success refine goB 1 ?_) | (
  refine goB 1 ?_
  all_goals (refine WC.skip ?_)
  skip))
  all_goals (first | (fail_if_success refine goB 2 ?_) | (
  refine goB 2 ?_
  all_goals (refine WC.exit ?_; repeat' (with_reducible first | refine thenP_x ?_ | refine blockP_miss rfl ?_ | refine blockP_hit ?_ | refine blockP_n ?_ | refine thenP_n ?_))
  all_goals (refine Br.out (i := 1000) ?_)
  skip))
  all_goals (refine Gn ?_; first | (refine Br.keep ?_) | (refine WC.seq ?_))
  all_goals (first | (refine Br.keep ?_) | (refine WC.block ?_))
  all_goals (first | (refine Br.keep ?_) | (refine WC.sr ?_))
  all_goals (refine Go ?_; first | (refine Br.keep ?_) | (refine WC.sr ?_))
  all_goals (first | (refine Br.keep ?_) | (refine WL.step (ok_move rfl) rfl rfl rfl ?_))
  all_goals (first | (refine Br.keep ?_) | (refine WL.step (ok_move rfl) rfl rfl rfl ?_))
  all_goals (first
               | (refine Br.keep ?_)
               | (obtain ⟨b, o, hA, hbL, hat⟩ := Rd.at_ (hr.ext0 hx1) (by omega)
                  obtain ⟨y, hy⟩ : ∃ y, l[k]? = some y := ⟨_, List.getElem?_eq_getElem (by omega)⟩
                  have hc : At h1 b (o + k * 2) (Cel.cells y) := At.elem Cel.len hat hy))
  all_goals (first | (refine Br.keep ?_) | (refine WL.step (ok_move rfl) rfl rfl rfl ?_))
  all_goals (first | (refine Br.keep ?_) | (refine WL.step (ok_idxAddrA Tryz.underlying30 (fun w => Tryz.sizeOf87 w) rfl rfl rfl (by omega) (by first | rfl | assumption)) rfl rfl rfl ?_))
  all_goals (first | (refine Br.keep ?_) | (refine WL.step (ok_loadN (fun w => Tryz.isAgg87 w) (fun w => Tryz.sizeOf87 w) rfl rfl (by assumption)) rfl rfl rfl ?_))
  all_goals (first
               | (refine Br.keep ?_)
               | (refine WL.callT (vs := [_]) rfl rfl hcf rfl (hp y (List.mem_of_getElem? hy) h1 hx1) rfl rfl rfl ?_
                  rintro _ h2 ⟨rfl, hx2⟩))
  all_goals (first | (refine Br.keep ?_) | (cases hpy : p y))
  all_goals (refine Gn ?_; first | (refine Br.keep ?_) | (refine Gs [(0, _), (1, _), (5, _), (7, _), (8, _), (16, _)] ?_))
  all_goals (first | (refine Br.keep ?_) | (refine goC 3 4 ?_ TT.mk))
  all_goals (first | (fail_if_success refine goB 3 ?_) | (
  refine goB 3 ?_
  all_goals (refine WC.sr ?_; refine Go ?_; refine Gs [(4, _)] ?_; refine Gt ?_; first | exact ⟨by rw [idxP_no (by rw [List.take_of_length_le (by omega)] at hn; exact hn)], hx1⟩ | exact ⟨by rw [idxP_at hy hpy hn], hx1.trans hx2⟩)
  skip))
  all_goals (first | (fail_if_success refine goB 4 ?_) | (
  refine goB 4 ?_
  all_goals (refine WC.skip ?_)
  skip))
  all_goals (refine Gn ?_; first | (refine Br.keep ?_) | (refine WC.region ?_))
  all_goals (refine Go ?_; first | (refine Br.keep ?_) | (exact ⟨k + 1, ⟨rfl, rfl, rfl, rfl, trivial⟩, (by exact ⟨hx1.trans hx2, by omega, take_snoc_p hn hy hpy⟩), (by omega)⟩))
  all_goals (try (refine Br.mk (i := 1000) ?_))
  all_goals (refine Gn ?_; refine Gs [] ?_; refine WC.sr ?_; refine Go ?_; refine Gt ?_; first | exact ⟨by rw [idxP_no (by rw [List.take_of_length_le (by omega)] at hn; exact hn)], hx1⟩ | exact ⟨by rw [idxP_at hy hpy hn], hx1.trans hx2⟩)

/-- A column that may be. -/
def ColD.okB (c : ColD) : Prop := cleanB c.nm = true ∧ (0 ≤ c.t ∧ c.t ≤ 4294967295) ∧ (0 ≤ c.a ∧ c.a ≤ 65535) ∧ (0 ≤ c.o ∧ c.o ≤ 4294967295) ∧ (-32768 ≤ c.s ∧ c.s ≤ 32767) ∧ (-2147483648 ≤ c.m ∧ c.m ≤ 2147483647) ∧ (0 ≤ c.f ∧ c.f ≤ 65535)
def FieldD.okB (c : FieldD) : Prop := c.k ≠ 0 ∧ cleanB c.t = true
def Cel.okB (c : Cel) : Prop := (c.null = true → c.bytes.length = 0) ∧ c.bytes.length ≤ 1048576
set_option maxHeartbeats 2000000 in
set_option maxRecDepth 100000 in
theorem bytes_equal {h : Heap} {v w : Value} (l m : List UInt8) (hr : Rd h v 1 l.length (bys l)) (hs : Rd h w 1 m.length (bys m)) :
    CallsH Tryz.prog 122 ⟨[v, w]⟩ h fun u h' => u = .bool (decide (l = m)) ∧ h' = h := by
  obtain ⟨A, c, rfl, _⟩ := id hr
  obtain ⟨B, d, rfl, _⟩ := id hs
  by_cases e : l = m
  all_goals
    refine calls [(0, _), (1, _)] Tryz.func122 rfl Tryz.ntmps122 rfl ⟨rfl, rfl, trivial⟩ ?_
    all_goals (refine WC.sr ?_; refine Go ?_; refine WC.sr ?_; refine Go ?_; refine WL.step (ok_convBS Tryz.underlying85 Tryz.underlying5 Tryz.underlying9 rfl hr) rfl rfl rfl ?_; refine Go ?_; refine WL.step (ok_convBS Tryz.underlying85 Tryz.underlying5 Tryz.underlying9 rfl hs) rfl rfl rfl ?_; refine Go ?_; refine Gs [(4, _)] ?_; refine Gt ?_; exact ⟨by simp [e], rfl⟩)
end Go.Proofs.YtbokngiajfdanaaGreatDoor


/-
  back.Check, of messages that may be: the fields of a kind; all of it.
-/
namespace Go.Proofs.YtbokngiajfdanaaGreatDoor
open Go Go.RK

def zB (k : Int) : Bk := ⟨k, 0, [], [], [], 0, 0, .slice none 0 0, [], .slice none 0 0, [], .slice none 0 0, [], .slice none 0 0, []⟩
/-- A message with no fields but those that its body has. -/
def ofB (b : Bk) : Bk :=
  if b.kind = 83 then { zB b.kind with name := b.name, value := b.value }
  else if b.kind = 75 then { zB b.kind with n := b.n, m := b.m }
  else if b.kind = 90 then { zB b.kind with status := b.status }
  else if b.kind = 67 then { zB b.kind with tag := b.tag }
  else if b.kind = 68 then { zB b.kind with vr := b.vr, row := b.row }
  else if b.kind = 84 then { zB b.kind with vc := b.vc, cols := b.cols }
  else if b.kind = 116 then { zB b.kind with vo := b.vo, oids := b.oids }
  else if b.kind = 69 ∨ b.kind = 78 then { zB b.kind with vf := b.vf, fields := b.fields }
  else zB b.kind
theorem cels_no (h : Heap) : Cels h (.slice none 0 0) [] := ⟨Rd.nil _ _, ⟨by simp, _, _, rfl, by decide⟩, by simp⟩
theorem zB_ok (h : Heap) (k : Int) : (zB k).ok h := ⟨⟨Rd.nil _ _, by simp [zB]⟩, ⟨Rd.nil _ _, by simp [zB]⟩, cels_no h, ⟨Rd.nil _ _, by simp [zB]⟩⟩
theorem ofB_ok {h : Heap} {b : Bk} (k : b.ok h) : (ofB b).ok h := by
  obtain ⟨k1, k2, k3, k4⟩ := k
  obtain ⟨z1, z2, z3, z4⟩ := zB_ok h b.kind
  unfold ofB
  repeat' split
  all_goals first | exact ⟨z1, z2, z3, z4⟩ | exact ⟨z1, z2, k3, z4⟩ | exact ⟨z1, k2, z3, z4⟩ | exact ⟨k1, z2, z3, z4⟩ | exact ⟨z1, z2, z3, k4⟩
set_option maxHeartbeats 4000000 in
set_option maxRecDepth 100000 in
theorem of_back {h : Heap} (b : Bk) (hb : b.ok h) : CallsH Tryz.prog 39 ⟨[.agg ⟨b.cells⟩]⟩ h fun u h' => u = .agg ⟨(ofB b).cells⟩ ∧ Ext No h h' := by
  obtain ⟨k, st, t, n, v, x, y, vo, lo, vc, lc, vr, lr, vf, lf⟩ := b
  obtain ⟨⟨ho, _⟩, ⟨hc, _⟩, hr, hf, _⟩ := hb
  simp only at ho hc hr hf
  obtain ⟨A1, c1, rfl, _⟩ := id ho
  obtain ⟨A2, c2, rfl, _⟩ := id hc
  obtain ⟨_, ⟨_, A3, c3, rfl, _⟩, _⟩ := id hr
  obtain ⟨A4, c4, rfl, _⟩ := id hf
  dsimp only [Bk.cells]
  refine calls [(0, _)] Tryz.func39 rfl Tryz.ntmps39 rfl ⟨rfl, trivial⟩ ?_
  all_goals (refine WC.sr ?_; refine WL.stepR (okE_box rfl) rfl rfl rfl ?_; rintro _ h1 ⟨b1, rfl, hg1, hb1, hx1⟩; refine WL.stepR (okE_alloc (fun w => Tryz.zeroValue42 w)) rfl rfl rfl ?_; rintro _ h2 ⟨b2, rfl, hg2, hb2, hx2⟩; have hb1a := hx2.obj hb1 nos; refine Gn ?_; refine WC.sr ?_; refine Go ?_; refine Ld ?_; refine WL.step (ok_buildF (vs := [_]) (cs := [_, _, _, _, _, _, _, _, _, _, _]) (fun | [a0] => [a0, (.int .u8 0), (St []), (St []), (St []), (.int .i64 0), (.int .i64 0), (.slice none 0 0), (.slice none 0 0), (.slice none 0 0), (.slice none 0 0)] | _ => []) rfl rfl (by kernel_rfl)) rfl rfl rfl ?_; refine WL.stepR (okE_alloc (fun w => Tryz.zeroValue42 w)) rfl rfl rfl ?_; rintro _ h3 ⟨b3, rfl, hg3, hb3, hx3⟩; have hb1b := hx3.obj hb1a nos; have hb2b := hx3.obj hb2 nos; (have n13 : ¬ b1 = b3 := by have := lt_of_some hb1a; omega); (have n23 : ¬ b2 = b3 := by have := lt_of_some hb2; omega); refine WL.stepR0 (okE_storeW (fun w => Tryz.sizeOf42 w) rfl rfl rfl (by assumption) rfl (by simp [Value.oneCell'])) rfl rfl ?_; rintro _ h4 ⟨hb4, hx4⟩; have hb1c := hx4.obj hb1b n13; have hb2c := hx4.obj hb2b n23; have hX4 : Ext No h h4 := ((hx1.trans hx2).trans hx3).trans' hx4 (fun q hq e => by have := hx1.size; have := hx2.size; omega); refine Gn ?_; refine Gs [(1, _), (2, _), (3, _)] ?_; refine WC.seq ?_; refine WC.sr ?_; refine Go ?_; refine Ld ?_; refine Gn ?_; refine WC.block ?_; refine WC.sr ?_; refine Go ?_; refine goC 1 2 (Hb.mk fun hb => ?_) (Hb.mk fun hb => ?_))
  all_goals (first | (fail_if_success refine goB 1 ?_) | (
  refine goB 1 ?_
  all_goals (refine WC.drawH (fun h' => Ext (fun q => q = b3) h4 h') 7 8 rfl fol ?_; refine WH.tk 0 rfl (fun hq hC => ok_fieldAddr rfl Tryz.underlying42 rfl (fun w => Tryz.sizeOf9 w)) rfl rfl rfl ?_ (hC := (by first | exact Ext.refl _ _ | assumption | exact hx5.trans hx6)); refine WH.tk 1 rfl (fun hq hC => ok_load (fun w => Tryz.isAgg9 w) rfl (by first | exact hC.cell (by first | exact cell_blk hb1c rfl | assumption | exact cell_blk (by assumption) rfl) n13)) rfl rfl rfl ?_ (hC := (by first | exact Ext.refl _ _ | assumption | exact hx5.trans hx6)); refine WH.tk 2 rfl (fun hq hC => ok_fieldAddr rfl Tryz.underlying42 rfl (fun w => Tryz.sizeOf9 w)) rfl rfl rfl ?_ (hC := (by first | exact Ext.refl _ _ | assumption | exact hx5.trans hx6)); refine WH.tk 3 rfl (fun hq hC => ok_load (fun w => Tryz.isAgg9 w) rfl (by first | exact hC.cell (by first | exact cell_blk hb1c rfl | assumption | exact cell_blk (by assumption) rfl) n13)) rfl rfl rfl ?_ (hC := (by first | exact Ext.refl _ _ | assumption | exact hx5.trans hx6)); refine WH.tk 4 rfl (fun hq hC => ok_fieldAddr rfl Tryz.underlying42 rfl (fun w => Tryz.sizeOf9 w)) rfl rfl rfl ?_ (hC := (by first | exact Ext.refl _ _ | assumption | exact hx5.trans hx6)); refine WH.one 5 (by kernel_rfl) ?_; refine Comes1.run0 rfl (okE_store (fun w => Tryz.sizeOf9 w) rfl rfl (by assumption) (Nat.le_of_ble_eq_true rfl) rfl rfl) rfl rfl ?_ (fun _ => by kernel_rfl); rintro _ h5 ⟨hb5, hx5⟩; refine ⟨fun _ => hx5, ?_⟩; refine WH.tk 6 rfl (fun hq hC => ok_fieldAddr rfl Tryz.underlying42 rfl (fun w => Tryz.sizeOf9 w)) rfl rfl rfl ?_ (hC := (by first | exact Ext.refl _ _ | assumption | exact hx5.trans hx6)); refine WH.one 7 (by kernel_rfl) ?_; refine Comes1.run0 rfl (okE_store (fun w => Tryz.sizeOf9 w) rfl rfl (by assumption) (Nat.le_of_ble_eq_true rfl) rfl rfl) rfl rfl ?_ (fun _ => by kernel_rfl); rintro _ h6 ⟨hb6, hx6⟩; refine ⟨fun _ => hx5.trans hx6, ?_⟩; have hE := hx5.trans hx6; have hb2z := hE.obj hb2c n23; refine WH.done (by kernel_rfl) ?_)
  skip))
  all_goals (first | (fail_if_success refine goB 2 ?_) | (
  refine goB 2 ?_
  all_goals (refine WC.sr ?_; refine Go ?_; refine Gs [(1, _), (2, _), (3, _), (8, _), (17, _)] ?_; refine goC 3 4 (Hb.mk fun hb => ?_) (Hb.mk fun hb => ?_))
  all_goals (first | (fail_if_success refine goB 3 ?_) | (
  refine goB 3 ?_
  all_goals (refine WC.drawH (fun h' => Ext (fun q => q = b3) h4 h') 7 8 rfl fol ?_; refine WH.tk 0 rfl (fun hq hC => ok_fieldAddr rfl Tryz.underlying42 rfl (fun w => Tryz.sizeOf3 w)) rfl rfl rfl ?_ (hC := (by first | exact Ext.refl _ _ | assumption | exact hx5.trans hx6)); refine WH.tk 1 rfl (fun hq hC => ok_load (fun w => Tryz.isAgg3 w) rfl (by first | exact hC.cell (by first | exact cell_blk hb1c rfl | assumption | exact cell_blk (by assumption) rfl) n13)) rfl rfl rfl ?_ (hC := (by first | exact Ext.refl _ _ | assumption | exact hx5.trans hx6)); refine WH.tk 2 rfl (fun hq hC => ok_fieldAddr rfl Tryz.underlying42 rfl (fun w => Tryz.sizeOf3 w)) rfl rfl rfl ?_ (hC := (by first | exact Ext.refl _ _ | assumption | exact hx5.trans hx6)); refine WH.tk 3 rfl (fun hq hC => ok_load (fun w => Tryz.isAgg3 w) rfl (by first | exact hC.cell (by first | exact cell_blk hb1c rfl | assumption | exact cell_blk (by assumption) rfl) n13)) rfl rfl rfl ?_ (hC := (by first | exact Ext.refl _ _ | assumption | exact hx5.trans hx6)); refine WH.tk 4 rfl (fun hq hC => ok_fieldAddr rfl Tryz.underlying42 rfl (fun w => Tryz.sizeOf3 w)) rfl rfl rfl ?_ (hC := (by first | exact Ext.refl _ _ | assumption | exact hx5.trans hx6)); refine WH.one 5 (by kernel_rfl) ?_; refine Comes1.run0 rfl (okE_store (fun w => Tryz.sizeOf3 w) rfl rfl (by assumption) (Nat.le_of_ble_eq_true rfl) rfl rfl) rfl rfl ?_ (fun _ => by kernel_rfl); rintro _ h5 ⟨hb5, hx5⟩; refine ⟨fun _ => hx5, ?_⟩; refine WH.tk 6 rfl (fun hq hC => ok_fieldAddr rfl Tryz.underlying42 rfl (fun w => Tryz.sizeOf3 w)) rfl rfl rfl ?_ (hC := (by first | exact Ext.refl _ _ | assumption | exact hx5.trans hx6)); refine WH.one 7 (by kernel_rfl) ?_; refine Comes1.run0 rfl (okE_store (fun w => Tryz.sizeOf3 w) rfl rfl (by assumption) (Nat.le_of_ble_eq_true rfl) rfl rfl) rfl rfl ?_ (fun _ => by kernel_rfl); rintro _ h6 ⟨hb6, hx6⟩; refine ⟨fun _ => hx5.trans hx6, ?_⟩; have hE := hx5.trans hx6; have hb2z := hE.obj hb2c n23; refine WH.done (by kernel_rfl) ?_)
  skip))
  all_goals (first | (fail_if_success refine goB 4 ?_) | (
  refine goB 4 ?_
  all_goals (refine WC.sr ?_; refine Go ?_; refine goC 5 6 (Hb.mk fun hb => ?_) (Hb.mk fun hb => ?_))
  all_goals (first | (fail_if_success refine goB 5 ?_) | (
  refine goB 5 ?_
  all_goals (refine WC.region ?_; refine Go ?_; refine Ld ?_; refine Go ?_; refine WL.stepR0 (okE_store (fun w => Tryz.sizeOf5 w) rfl rfl (by assumption) (Nat.le_of_ble_eq_true rfl) rfl rfl) rfl rfl ?_; rintro _ h5 ⟨hb5, hE⟩; have hb2z := hE.obj hb2c n23; refine Gn ?_)
  skip))
  all_goals (first | (fail_if_success refine goB 6 ?_) | (
  refine goB 6 ?_
  all_goals (refine WC.sr ?_; refine Go ?_; refine Gs [(1, _), (2, _), (3, _), (8, _), (30, _)] ?_; refine goC 7 8 (Hb.mk fun hb => ?_) (Hb.mk fun hb => ?_))
  all_goals (first | (fail_if_success refine goB 7 ?_) | (
  refine goB 7 ?_
  all_goals (refine WC.region ?_; refine Go ?_; refine Ld ?_; refine Go ?_; refine WL.stepR0 (okE_store (fun w => Tryz.sizeOf9 w) rfl rfl (by assumption) (Nat.le_of_ble_eq_true rfl) rfl rfl) rfl rfl ?_; rintro _ h5 ⟨hb5, hE⟩; have hb2z := hE.obj hb2c n23; refine Gn ?_)
  skip))
  all_goals (first | (fail_if_success refine goB 8 ?_) | (
  refine goB 8 ?_
  all_goals (refine WC.sr ?_; refine Go ?_; refine goC 9 10 (Hb.mk fun hb => ?_) (Hb.mk fun hb => ?_))
  all_goals (first | (fail_if_success refine goB 9 ?_) | (
  refine goB 9 ?_
  all_goals (refine WC.region ?_; refine Go ?_; refine Ld ?_; refine Go ?_; refine WL.stepR0 (okE_store (fun w => Tryz.sizeOf30 w) rfl rfl (by assumption) (Nat.le_of_ble_eq_true rfl) rfl rfl) rfl rfl ?_; rintro _ h5 ⟨hb5, hE⟩; have hb2z := hE.obj hb2c n23; refine Gn ?_)
  skip))
  all_goals (first | (fail_if_success refine goB 10 ?_) | (
  refine goB 10 ?_
  all_goals (refine WC.sr ?_; refine Go ?_; refine Gs [(1, _), (2, _), (3, _), (8, _), (40, _)] ?_; refine goC 11 12 (Hb.mk fun hb => ?_) (Hb.mk fun hb => ?_))
  all_goals (first | (fail_if_success refine goB 11 ?_) | (
  refine goB 11 ?_
  all_goals (refine WC.region ?_; refine Go ?_; refine Ld ?_; refine Go ?_; refine WL.stepR0 (okE_store (fun w => Tryz.sizeOf39 w) rfl rfl (by assumption) (Nat.le_of_ble_eq_true rfl) rfl rfl) rfl rfl ?_; rintro _ h5 ⟨hb5, hE⟩; have hb2z := hE.obj hb2c n23; refine Gn ?_)
  skip))
  all_goals (first | (fail_if_success refine goB 12 ?_) | (
  refine goB 12 ?_
  all_goals (refine WC.sr ?_; refine Go ?_; refine goC 13 14 (Hb.mk fun hb => ?_) (Hb.mk fun hb => ?_))
  all_goals (first | (fail_if_success refine goB 13 ?_) | (
  refine goB 13 ?_
  all_goals (refine WC.region ?_; refine Go ?_; refine Ld ?_; refine Go ?_; refine WL.stepR0 (okE_store (fun w => Tryz.sizeOf29 w) rfl rfl (by assumption) (Nat.le_of_ble_eq_true rfl) rfl rfl) rfl rfl ?_; rintro _ h5 ⟨hb5, hE⟩; have hb2z := hE.obj hb2c n23; refine Gn ?_)
  skip))
  all_goals (first | (fail_if_success refine goB 14 ?_) | (
  refine goB 14 ?_
  all_goals (refine WC.seq ?_; refine WC.sr ?_; refine Go ?_; refine Gs [(1, _), (2, _), (3, _), (8, _), (50, _)] ?_; refine goC 15 16 (Hb.mk fun hb => ?_) (Hb.mk fun hb => ?_))
  all_goals (first | (fail_if_success refine goB 15 ?_) | (
  refine goB 15 ?_
  all_goals (refine WC.skip ?_)
  skip))
  all_goals (first | (fail_if_success refine goB 16 ?_) | (
  refine goB 16 ?_
  all_goals (refine WC.region ?_; refine Go ?_)
  skip))
  all_goals (refine Gn ?_; refine goC 17 18 (Hb.mk fun hb => ?_) (Hb.mk fun hb => ?_))
  all_goals (first | (fail_if_success refine goB 17 ?_) | (
  refine goB 17 ?_
  all_goals (refine WC.region ?_; refine Go ?_; refine Ld ?_; refine Go ?_; refine WL.stepR0 (okE_store (fun w => Tryz.sizeOf40 w) rfl rfl (by assumption) (Nat.le_of_ble_eq_true rfl) rfl rfl) rfl rfl ?_; rintro _ h5 ⟨hb5, hE⟩; have hb2z := hE.obj hb2c n23; refine Gn ?_)
  skip))
  all_goals (first | (fail_if_success refine goB 18 ?_) | (
  refine goB 18 ?_
  all_goals (refine WC.skip ?_)
  skip))
  skip))
  skip))
  skip))
  skip))
  skip))
  skip))
  skip))
  all_goals (refine Gn ?_; refine WC.sr ?_; refine WL.step (ok_loadN (fun w => Tryz.isAgg42 w) (fun w => Tryz.sizeOf42 w) rfl rfl (by exact (by first | exact At.of_block hb6 | exact At.of_block hb5 | exact At.of_block hb4))) rfl rfl rfl ?_; refine WL.stepR0 (okE_storeW (fun w => Tryz.sizeOf42 w) rfl rfl rfl (by first | exact hb2z | exact hb2c) rfl (by simp [Value.oneCell'])) rfl rfl ?_; rintro _ h9 ⟨hb9, hx9⟩; refine Gn ?_; refine Gs [(2, _)] ?_; refine WC.ret ?_; repeat' (with_reducible first | refine thenP_r ?_ | refine blockP_r ?_))
  all_goals (refine retP_1 _ ⟨⟨_, rfl, ld_blk (fun w => Tryz.isAgg42 w) (fun w => Tryz.sizeOf42 w) (by assumption) rfl⟩, trivial⟩ ?_)
  all_goals (have hs1 := hx1.size
             have hs2 := hx2.size
             refine ⟨?_, by first | exact (hX4.trans' hE (fun q hq e => by omega)).trans' hx9 (fun q hq e => by omega) | exact hX4.trans' hx9 (fun q hq e => by omega)⟩
             first
              | (exfalso; omega)
              | (simp only [ofB, if_pos, *]; rfl)
              | (simp [ofB, zB, Bk.cells, *]; done))
/-! ### Check -/
def kindsB : List UInt8 := [82, 83, 75, 90, 49, 50, 51, 110, 115, 73, 67, 68, 84, 116, 69, 78]
def Bk.stOk (b : Bk) : Prop := b.kind ≠ 90 ∨ b.status = 73 ∨ b.status = 84 ∨ b.status = 69
/-- A message that may be. -/
structure Bk.may (b : Bk) : Prop where
  kind : ∃ k : UInt8, Value.int .u8 b.kind = By k ∧ kindsB.contains k = true
  tag : cleanB b.tag = true
  name : cleanB b.name = true
  value : cleanB b.value = true
  cols : b.cols.length ≤ 65535 ∧ ∀ c ∈ b.cols, c.okB
  fields : b.fields.length ≤ 65535 ∧ ∀ f ∈ b.fields, f.okB
  row : b.row.length ≤ 65535 ∧ ∀ c ∈ b.row, c.okB
  oids : b.oids.length ≤ 65535 ∧ ∀ n ∈ b.oids, 0 ≤ n ∧ n ≤ 4294967295
  n : 0 ≤ b.n ∧ b.n ≤ 4294967295
  m : 0 ≤ b.m ∧ b.m ≤ 4294967295
  st : b.stOk
  own : (ofB b).pl = b.pl
end Go.Proofs.YtbokngiajfdanaaGreatDoor


/-
  LISTS OF REPLIES (layer 7): whether all of a list may be, at any list.
-/
namespace Go.Proofs.YtbokngiajfdanaaGreatDoor
open Go Go.RK

theorem all_any {α : Type} (p : α → Bool) (l : List α) : (!l.any fun x => !p x) = l.all p := by
  induction l with
  | nil => rfl
  | cons a l ih => rw [List.any_cons, List.all_cons, ← ih]; cases p a <;> simp
set_option maxHeartbeats 2000000 in
set_option maxRecDepth 100000 in
theorem everyfA_col {h : Heap} {b : Nat} {t : TypeId} (x : ColD) (p : ColD → Bool) {fk : Nat} (hcf : ∀ (args : Array Value) (w : World), (callFunc fk args).run Tryz.prog w = .ok (.enter fk args) w) (hb : h[b]? = some (.cells ⟨[.func (.func fk) ⟨[]⟩ ⟨[]⟩]⟩ t (0, 0)))
    (hp : ∀ h', Ext No h h' → CallsH Tryz.prog fk ⟨[.agg ⟨ColD.cells x⟩]⟩ h' fun u h'' => u = .bool (p x) ∧ Ext No h' h'') :
    CallsH Tryz.prog 63 ⟨[.agg ⟨ColD.cells x⟩, .pointer (some ⟨b, 0, none⟩)]⟩ h fun u h' => u = .bool (!p x) ∧ Ext No h h' := by
  refine calls [(0, _), (1, _)] Tryz.func63 rfl Tryz.ntmps63 rfl ⟨rfl, rfl, trivial⟩ ?_
  all_goals (refine WC.sr ?_; refine WL.stepR (okE_box rfl) rfl rfl rfl ?_; rintro _ h1 ⟨b1, rfl, hg1, hb1, hx1⟩; refine Go ?_; refine WC.sr ?_; refine WL.ld rfl (by first | exact cell_blk (hx1.obj hb nos) rfl | assumption | exact cell_blk (by assumption) rfl) rfl rfl rfl ?_; refine WL.step (ok_loadN (fun w => Tryz.isAgg78 w) (fun w => Tryz.sizeOf78 w) rfl rfl (by exact At.of_block hb1)) rfl rfl rfl ?_; refine WL.callT (vs := [_]) rfl rfl hcf rfl (hp _ hx1) rfl rfl rfl ?_; rintro _ h2 ⟨rfl, hx2⟩; refine Go ?_; refine Gs [(3, _)] ?_; refine Gt ?_; exact ⟨rfl, hx1.trans hx2⟩)
set_option maxHeartbeats 2000000 in
set_option maxRecDepth 100000 in
theorem everyA_col {h : Heap} {v : Value} (l : List ColD) (p : ColD → Bool) (hr : Rd h v 7 l.length (l.flatMap ColD.cells)) (hl : l.length ≤ 65535) {fk : Nat} (hcf : ∀ (args : Array Value) (w : World), (callFunc fk args).run Tryz.prog w = .ok (.enter fk args) w)
    (hp : ∀ x ∈ l, ∀ h', Ext No h h' → CallsH Tryz.prog fk ⟨[.agg ⟨ColD.cells x⟩]⟩ h' fun u h'' => u = .bool (p x) ∧ Ext No h' h'') :
    CallsH Tryz.prog 29 ⟨[v, .func (.func fk) ⟨[]⟩ ⟨[]⟩]⟩ h fun u h' => u = .bool (l.all p) ∧ Ext No h h' := by
  have hcon : ∀ {h' : Heap} {b : Nat} {t : TypeId}, Ext No h h' → h'[b]? = some (.cells ⟨[.func (.func fk) ⟨[]⟩ ⟨[]⟩]⟩ t (0, 0)) → CallsH Tryz.prog 62 ⟨[v, .func (.func 63) ⟨[]⟩ ⟨[.pointer (some ⟨b, 0, none⟩)]⟩]⟩ h' fun u h'' => u = .bool (l.any fun x => !p x) ∧ Ext No h' h'' := by
    intro h' b t hx hb
    refine calls [(0, _), (1, _)] Tryz.func62 rfl Tryz.ntmps62 rfl ⟨rfl, rfl, trivial⟩ ?_
    all_goals (refine WC.sr ?_; refine Go ?_; refine WC.sr ?_; refine Go ?_; refine WL.call (vs := [_, _]) rfl (fun a w => Tryz.call117 a w) rfl (indexFunc_col l (fun x => !p x) (fun a w => Tryz.call63 a w) (fs := []) (us := [.pointer (some ⟨b, 0, none⟩)]) (hr.ext0 hx) (by unfold maxLen; omega) (fun x hxl h2 hx2 => everyfA_col x p hcf (hx2.obj hb nos) (fun h3 hx3 => hp x hxl h3 ((hx.trans hx2).trans hx3)))) rfl rfl rfl ?_; rintro _ h1 ⟨rfl, hx1⟩; refine WL.step (ok_geq rfl rfl) rfl rfl rfl ?_; refine Go ?_; refine Gs [(4, _)] ?_; refine Gt ?_; exact ⟨by rw [idxP_geq], hx1⟩)
  obtain ⟨A, c, rfl, _⟩ := id hr
  refine calls [(0, _), (1, _)] Tryz.func29 rfl Tryz.ntmps29 rfl ⟨rfl, rfl, trivial⟩ ?_
  all_goals (refine WC.sr ?_; refine WL.stepR (okE_box rfl) rfl rfl rfl ?_; rintro _ h1 ⟨b1, rfl, hg1, hb1, hx1⟩; refine Go ?_; refine WC.sr ?_; refine Go ?_; refine goP 8 ?_ TT.mk; refine Gg ?_; refine WL.step (ok_makeFunc (vs := []) (us := [_]) rfl rfl) rfl rfl rfl ?_; refine WL.call (vs := [_, _]) rfl (fun a w => Tryz.call62 a w) rfl (hcon hx1 hb1) rfl rfl rfl ?_; rintro _ h2 ⟨rfl, hx2⟩; refine Gg ?_; refine Go ?_; refine Gs [(4, _)] ?_; refine Gt ?_; exact ⟨by rw [← all_any], hx1.trans hx2⟩)

set_option maxHeartbeats 2000000 in
set_option maxRecDepth 100000 in
theorem everyfA_fld {h : Heap} {b : Nat} {t : TypeId} (x : FieldD) (p : FieldD → Bool) {fk : Nat} (hcf : ∀ (args : Array Value) (w : World), (callFunc fk args).run Tryz.prog w = .ok (.enter fk args) w) (hb : h[b]? = some (.cells ⟨[.func (.func fk) ⟨[]⟩ ⟨[]⟩]⟩ t (0, 0)))
    (hp : ∀ h', Ext No h h' → CallsH Tryz.prog fk ⟨[.agg ⟨FieldD.cells x⟩]⟩ h' fun u h'' => u = .bool (p x) ∧ Ext No h' h'') :
    CallsH Tryz.prog 66 ⟨[.agg ⟨FieldD.cells x⟩, .pointer (some ⟨b, 0, none⟩)]⟩ h fun u h' => u = .bool (!p x) ∧ Ext No h h' := by
  refine calls [(0, _), (1, _)] Tryz.func66 rfl Tryz.ntmps66 rfl ⟨rfl, rfl, trivial⟩ ?_
  all_goals (refine WC.sr ?_; refine WL.stepR (okE_box rfl) rfl rfl rfl ?_; rintro _ h1 ⟨b1, rfl, hg1, hb1, hx1⟩; refine Go ?_; refine WC.sr ?_; refine WL.ld rfl (by first | exact cell_blk (hx1.obj hb nos) rfl | assumption | exact cell_blk (by assumption) rfl) rfl rfl rfl ?_; refine WL.step (ok_loadN (fun w => Tryz.isAgg82 w) (fun w => Tryz.sizeOf82 w) rfl rfl (by exact At.of_block hb1)) rfl rfl rfl ?_; refine WL.callT (vs := [_]) rfl rfl hcf rfl (hp _ hx1) rfl rfl rfl ?_; rintro _ h2 ⟨rfl, hx2⟩; refine Go ?_; refine Gs [(3, _)] ?_; refine Gt ?_; exact ⟨rfl, hx1.trans hx2⟩)
set_option maxHeartbeats 2000000 in
set_option maxRecDepth 100000 in
theorem everyA_fld {h : Heap} {v : Value} (l : List FieldD) (p : FieldD → Bool) (hr : Rd h v 2 l.length (l.flatMap FieldD.cells)) (hl : l.length ≤ 65535) {fk : Nat} (hcf : ∀ (args : Array Value) (w : World), (callFunc fk args).run Tryz.prog w = .ok (.enter fk args) w)
    (hp : ∀ x ∈ l, ∀ h', Ext No h h' → CallsH Tryz.prog fk ⟨[.agg ⟨FieldD.cells x⟩]⟩ h' fun u h'' => u = .bool (p x) ∧ Ext No h' h'') :
    CallsH Tryz.prog 31 ⟨[v, .func (.func fk) ⟨[]⟩ ⟨[]⟩]⟩ h fun u h' => u = .bool (l.all p) ∧ Ext No h h' := by
  have hcon : ∀ {h' : Heap} {b : Nat} {t : TypeId}, Ext No h h' → h'[b]? = some (.cells ⟨[.func (.func fk) ⟨[]⟩ ⟨[]⟩]⟩ t (0, 0)) → CallsH Tryz.prog 65 ⟨[v, .func (.func 66) ⟨[]⟩ ⟨[.pointer (some ⟨b, 0, none⟩)]⟩]⟩ h' fun u h'' => u = .bool (l.any fun x => !p x) ∧ Ext No h' h'' := by
    intro h' b t hx hb
    refine calls [(0, _), (1, _)] Tryz.func65 rfl Tryz.ntmps65 rfl ⟨rfl, rfl, trivial⟩ ?_
    all_goals (refine WC.sr ?_; refine Go ?_; refine WC.sr ?_; refine Go ?_; refine WL.call (vs := [_, _]) rfl (fun a w => Tryz.call120 a w) rfl (indexFunc_fld l (fun x => !p x) (fun a w => Tryz.call66 a w) (fs := []) (us := [.pointer (some ⟨b, 0, none⟩)]) (hr.ext0 hx) (by unfold maxLen; omega) (fun x hxl h2 hx2 => everyfA_fld x p hcf (hx2.obj hb nos) (fun h3 hx3 => hp x hxl h3 ((hx.trans hx2).trans hx3)))) rfl rfl rfl ?_; rintro _ h1 ⟨rfl, hx1⟩; refine WL.step (ok_geq rfl rfl) rfl rfl rfl ?_; refine Go ?_; refine Gs [(4, _)] ?_; refine Gt ?_; exact ⟨by rw [idxP_geq], hx1⟩)
  obtain ⟨A, c, rfl, _⟩ := id hr
  refine calls [(0, _), (1, _)] Tryz.func31 rfl Tryz.ntmps31 rfl ⟨rfl, rfl, trivial⟩ ?_
  all_goals (refine WC.sr ?_; refine WL.stepR (okE_box rfl) rfl rfl rfl ?_; rintro _ h1 ⟨b1, rfl, hg1, hb1, hx1⟩; refine Go ?_; refine WC.sr ?_; refine Go ?_; refine goP 8 ?_ TT.mk; refine Gg ?_; refine WL.step (ok_makeFunc (vs := []) (us := [_]) rfl rfl) rfl rfl rfl ?_; refine WL.call (vs := [_, _]) rfl (fun a w => Tryz.call65 a w) rfl (hcon hx1 hb1) rfl rfl rfl ?_; rintro _ h2 ⟨rfl, hx2⟩; refine Gg ?_; refine Go ?_; refine Gs [(4, _)] ?_; refine Gt ?_; exact ⟨by rw [← all_any], hx1.trans hx2⟩)

set_option maxHeartbeats 2000000 in
set_option maxRecDepth 100000 in
theorem everyfA_cel {h : Heap} {b : Nat} {t : TypeId} (x : Cel) (p : Cel → Bool) {fk : Nat} (hcf : ∀ (args : Array Value) (w : World), (callFunc fk args).run Tryz.prog w = .ok (.enter fk args) w) (hb : h[b]? = some (.cells ⟨[.func (.func fk) ⟨[]⟩ ⟨[]⟩]⟩ t (0, 0)))
    (hp : ∀ h', Ext No h h' → CallsH Tryz.prog fk ⟨[.agg ⟨Cel.cells x⟩]⟩ h' fun u h'' => u = .bool (p x) ∧ Ext No h' h'') :
    CallsH Tryz.prog 67 ⟨[.agg ⟨Cel.cells x⟩, .pointer (some ⟨b, 0, none⟩)]⟩ h fun u h' => u = .bool (!p x) ∧ Ext No h h' := by
  refine calls [(0, _), (1, _)] Tryz.func67 rfl Tryz.ntmps67 rfl ⟨rfl, rfl, trivial⟩ ?_
  all_goals (refine WC.sr ?_; refine WL.stepR (okE_box rfl) rfl rfl rfl ?_; rintro _ h1 ⟨b1, rfl, hg1, hb1, hx1⟩; refine Go ?_; refine WC.sr ?_; refine WL.ld rfl (by first | exact cell_blk (hx1.obj hb nos) rfl | assumption | exact cell_blk (by assumption) rfl) rfl rfl rfl ?_; refine WL.step (ok_loadN (fun w => Tryz.isAgg87 w) (fun w => Tryz.sizeOf87 w) rfl rfl (by exact At.of_block hb1)) rfl rfl rfl ?_; refine WL.callT (vs := [_]) rfl rfl hcf rfl (hp _ hx1) rfl rfl rfl ?_; rintro _ h2 ⟨rfl, hx2⟩; refine Go ?_; refine Gs [(3, _)] ?_; refine Gt ?_; exact ⟨rfl, hx1.trans hx2⟩)
set_option maxHeartbeats 2000000 in
set_option maxRecDepth 100000 in
theorem everyA_cel {h : Heap} {v : Value} (l : List Cel) (p : Cel → Bool) (hr : Rd h v 2 l.length (l.flatMap Cel.cells)) (hl : l.length ≤ 65535) {fk : Nat} (hcf : ∀ (args : Array Value) (w : World), (callFunc fk args).run Tryz.prog w = .ok (.enter fk args) w)
    (hp : ∀ x ∈ l, ∀ h', Ext No h h' → CallsH Tryz.prog fk ⟨[.agg ⟨Cel.cells x⟩]⟩ h' fun u h'' => u = .bool (p x) ∧ Ext No h' h'') :
    CallsH Tryz.prog 33 ⟨[v, .func (.func fk) ⟨[]⟩ ⟨[]⟩]⟩ h fun u h' => u = .bool (l.all p) ∧ Ext No h h' := by
  have hcon : ∀ {h' : Heap} {b : Nat} {t : TypeId}, Ext No h h' → h'[b]? = some (.cells ⟨[.func (.func fk) ⟨[]⟩ ⟨[]⟩]⟩ t (0, 0)) → CallsH Tryz.prog 40 ⟨[v, .func (.func 67) ⟨[]⟩ ⟨[.pointer (some ⟨b, 0, none⟩)]⟩]⟩ h' fun u h'' => u = .bool (l.any fun x => !p x) ∧ Ext No h' h'' := by
    intro h' b t hx hb
    refine calls [(0, _), (1, _)] Tryz.func40 rfl Tryz.ntmps40 rfl ⟨rfl, rfl, trivial⟩ ?_
    all_goals (refine WC.sr ?_; refine Go ?_; refine WC.sr ?_; refine Go ?_; refine WL.call (vs := [_, _]) rfl (fun a w => Tryz.call75 a w) rfl (indexFunc_cel l (fun x => !p x) (fun a w => Tryz.call67 a w) (fs := []) (us := [.pointer (some ⟨b, 0, none⟩)]) (hr.ext0 hx) (by unfold maxLen; omega) (fun x hxl h2 hx2 => everyfA_cel x p hcf (hx2.obj hb nos) (fun h3 hx3 => hp x hxl h3 ((hx.trans hx2).trans hx3)))) rfl rfl rfl ?_; rintro _ h1 ⟨rfl, hx1⟩; refine WL.step (ok_geq rfl rfl) rfl rfl rfl ?_; refine Go ?_; refine Gs [(4, _)] ?_; refine Gt ?_; exact ⟨by rw [idxP_geq], hx1⟩)
  obtain ⟨A, c, rfl, _⟩ := id hr
  refine calls [(0, _), (1, _)] Tryz.func33 rfl Tryz.ntmps33 rfl ⟨rfl, rfl, trivial⟩ ?_
  all_goals (refine WC.sr ?_; refine WL.stepR (okE_box rfl) rfl rfl rfl ?_; rintro _ h1 ⟨b1, rfl, hg1, hb1, hx1⟩; refine Go ?_; refine WC.sr ?_; refine Go ?_; refine goP 8 ?_ TT.mk; refine Gg ?_; refine WL.step (ok_makeFunc (vs := []) (us := [_]) rfl rfl) rfl rfl rfl ?_; refine WL.call (vs := [_, _]) rfl (fun a w => Tryz.call40 a w) rfl (hcon hx1 hb1) rfl rfl rfl ?_; rintro _ h2 ⟨rfl, hx2⟩; refine Gg ?_; refine Go ?_; refine Gs [(4, _)] ?_; refine Gt ?_; exact ⟨by rw [← all_any], hx1.trans hx2⟩)

set_option maxHeartbeats 2000000 in
set_option maxRecDepth 100000 in
theorem has_cel {h : Heap} {v : Value} (l : List Cel) (p : Cel → Bool) {fk : Nat} {fs us : List Value} (hcf : ∀ (args : Array Value) (w : World), (callFunc fk args).run Tryz.prog w = .ok (.enter fk args) w) (hr : Rd h v 2 l.length (l.flatMap Cel.cells)) (hm : l.length ≤ maxLen)
    (hp : ∀ x ∈ l, ∀ h', Ext No h h' → CallsH Tryz.prog fk ⟨fs ++ [.agg ⟨Cel.cells x⟩] ++ us⟩ h' fun u h'' => u = .bool (p x) ∧ Ext No h' h'') :
    CallsH Tryz.prog 40 ⟨[v, .func (.func fk) ⟨fs⟩ ⟨us⟩]⟩ h fun u h' => u = .bool (l.any p) ∧ Ext No h h' := by
  refine calls [(0, _), (1, _)] Tryz.func40 rfl Tryz.ntmps40 rfl ⟨rfl, rfl, trivial⟩ ?_
  all_goals (refine WC.sr ?_; refine Go ?_; refine WC.sr ?_; refine Go ?_; refine WL.call (vs := [_, _]) rfl (fun a w => Tryz.call75 a w) rfl (indexFunc_cel l p hcf hr hm hp) rfl rfl rfl ?_; rintro _ h1 ⟨rfl, hx1⟩; refine WL.step (ok_geq rfl rfl) rfl rfl rfl ?_; refine Go ?_; refine Gs [(4, _)] ?_; refine Gt ?_; exact ⟨by rw [idxP_geq], hx1⟩)

set_option maxHeartbeats 2000000 in
set_option maxRecDepth 100000 in
theorem has_bnd {h : Heap} {v : Value} (l : List BndD) (p : BndD → Bool) {fk : Nat} {fs us : List Value} (hcf : ∀ (args : Array Value) (w : World), (callFunc fk args).run Tryz.prog w = .ok (.enter fk args) w) (hr : Rd h v 3 l.length (l.flatMap BndD.cells)) (hm : l.length ≤ maxLen)
    (hp : ∀ x ∈ l, ∀ h', Ext No h h' → CallsH Tryz.prog fk ⟨fs ++ [.agg ⟨BndD.cells x⟩] ++ us⟩ h' fun u h'' => u = .bool (p x) ∧ Ext No h' h'') :
    CallsH Tryz.prog 118 ⟨[v, .func (.func fk) ⟨fs⟩ ⟨us⟩]⟩ h fun u h' => u = .bool (l.any p) ∧ Ext No h h' := by
  refine calls [(0, _), (1, _)] Tryz.func118 rfl Tryz.ntmps118 rfl ⟨rfl, rfl, trivial⟩ ?_
  all_goals (refine WC.sr ?_; refine Go ?_; refine WC.sr ?_; refine Go ?_; refine WL.call (vs := [_, _]) rfl (fun a w => Tryz.call162 a w) rfl (indexFunc_bnd l p hcf hr hm hp) rfl rfl rfl ?_; rintro _ h1 ⟨rfl, hx1⟩; refine WL.step (ok_geq rfl rfl) rfl rfl rfl ?_; refine Go ?_; refine Gs [(4, _)] ?_; refine Gt ?_; exact ⟨by rw [idxP_geq], hx1⟩)

def BndD.okB (b : BndD) : Bool := decide (b.lo ≤ b.n) && decide (b.n ≤ b.hi)
set_option maxHeartbeats 2000000 in
set_option maxRecDepth 100000 in
theorem allf_any {h : Heap} (b : BndD) : CallsH Tryz.prog 119 ⟨[.agg ⟨b.cells⟩]⟩ h fun u h' => u = .bool (!b.okB) ∧ Ext No h h' := by
  obtain ⟨n, lo, hi⟩ := b
  dsimp only [BndD.cells, BndD.okB]
  refine calls [(0, _)] Tryz.func119 rfl Tryz.ntmps119 rfl ⟨rfl, trivial⟩ ?_
  all_goals (refine WC.sr ?_; refine WL.stepR (okE_box rfl) rfl rfl rfl ?_; rintro _ h3 ⟨b3, rfl, hg3, hb3, hx3⟩; refine Go ?_; refine WC.sr ?_; refine Go ?_; refine Ld ?_; refine Go ?_; refine Ld ?_; refine Go ?_; refine goP 8 (Hb.mk fun hb => ?_) (Hb.mk fun hb => ?_))
  all_goals (refine Gg ?_; first | (refine WL.pass rfl rfl rfl ?_) | (refine Ld ?_))
  all_goals (refine Gg ?_; first | (refine WL.pass rfl rfl rfl ?_) | (refine Ld ?_))
  all_goals (refine Gg ?_; refine Go ?_; refine Gs [(2, _)] ?_; refine Gt ?_)
  all_goals (refine ⟨congrArg Value.bool ?_, hx3⟩
             by_cases q1 : lo ≤ n
             all_goals by_cases q2 : n ≤ hi
             all_goals first | (simp [q1, q2]; done) | (simp [q1, q2]; omega) | (exfalso; omega))
set_option maxHeartbeats 2000000 in
set_option maxRecDepth 100000 in
theorem all_v {h : Heap} {v : Value} (l : List BndD) (hr : Rd h v 3 l.length (l.flatMap BndD.cells)) (hm : l.length ≤ maxLen) : CallsH Tryz.prog 64 ⟨[v]⟩ h fun u h' => u = .bool (l.all BndD.okB) ∧ Ext No h h' := by
  refine calls [(0, _)] Tryz.func64 rfl Tryz.ntmps64 rfl ⟨rfl, trivial⟩ ?_
  all_goals (refine WC.sr ?_; refine Go ?_; refine WC.sr ?_; refine Go ?_; refine WL.call (vs := [_, _]) rfl (fun a w => Tryz.call118 a w) rfl (has_bnd l (fun b => !b.okB) (fun a w => Tryz.call119 a w) (fs := []) (us := []) hr hm (fun x hx h' hx' => allf_any x)) rfl rfl rfl ?_; rintro _ h1 ⟨rfl, hx1⟩; refine Go ?_; refine Gs [(2, _)] ?_; refine Gt ?_; exact ⟨by rw [← all_any], hx1⟩)
instance (c : ColD) : Decidable c.okB := by unfold ColD.okB; exact inferInstance
instance (c : FieldD) : Decidable c.okB := by unfold FieldD.okB; exact inferInstance
instance (c : Cel) : Decidable c.okB := by unfold Cel.okB; exact inferInstance
set_option maxHeartbeats 2000000 in
set_option maxRecDepth 100000 in
theorem column_any {h : Heap} (c : ColD) : CallsH Tryz.prog 30 ⟨[.agg ⟨c.cells⟩]⟩ h fun u h' => u = .bool (decide c.okB) ∧ Ext No h h' := by
  obtain ⟨nm, t, a, o, s, m, f⟩ := c
  dsimp only [ColD.cells]
  refine calls [(0, _)] Tryz.func30 rfl Tryz.ntmps30 rfl ⟨rfl, trivial⟩ ?_
  all_goals (refine WC.sr ?_; refine WL.stepR (okE_box rfl) rfl rfl rfl ?_; rintro _ g1 ⟨b1, rfl, hg1, hb1, hx1⟩; refine Go ?_; refine WC.sr ?_; refine Go ?_; refine Ld ?_; refine WL.call (vs := [_]) rfl (fun a w => Tryz.call28 a w) rfl (clean_any nm) rfl rfl rfl ?_; rintro _ hz ⟨rfl, _⟩; subst hz; refine Go ?_; refine goP 6 (Hb.mk fun hb => ?_) (Hb.mk fun hb => ?_))
  all_goals (refine Gg ?_; first | (refine WL.pass rfl rfl rfl ?_) | (refine Ld ?_))
  all_goals (first | (refine WL.pass rfl rfl rfl ?_) | (refine WL.step (ok_buildF (vs := [_, _, _]) (cs := [_, _, _]) (fun | [a0, a1, a2] => [a0, a1, a2] | _ => []) rfl rfl (by kernel_rfl)) rfl rfl rfl ?_))
  all_goals (refine Gg ?_; first | (refine WL.pass rfl rfl rfl ?_) | (refine Ld ?_))
  all_goals (first | (refine WL.pass rfl rfl rfl ?_) | (refine WL.step (ok_buildF (vs := [_, _, _]) (cs := [_, _, _]) (fun | [a0, a1, a2] => [a0, a1, a2] | _ => []) rfl rfl (by kernel_rfl)) rfl rfl rfl ?_))
  all_goals (refine Gg ?_; first | (refine WL.pass rfl rfl rfl ?_) | (refine Ld ?_))
  all_goals (first | (refine WL.pass rfl rfl rfl ?_) | (refine WL.step (ok_buildF (vs := [_, _, _]) (cs := [_, _, _]) (fun | [a0, a1, a2] => [a0, a1, a2] | _ => []) rfl rfl (by kernel_rfl)) rfl rfl rfl ?_))
  all_goals (refine Gg ?_; first | (refine WL.pass rfl rfl rfl ?_) | (refine Ld ?_))
  all_goals (first | (refine WL.pass rfl rfl rfl ?_) | (refine WL.step (ok_buildF (vs := [_, _, _]) (cs := [_, _, _]) (fun | [a0, a1, a2] => [a0, a1, a2] | _ => []) rfl rfl (by kernel_rfl)) rfl rfl rfl ?_))
  all_goals (refine Gg ?_; first | (refine WL.pass rfl rfl rfl ?_) | (refine Ld ?_))
  all_goals (first | (refine WL.pass rfl rfl rfl ?_) | (refine WL.step (ok_buildF (vs := [_, _, _]) (cs := [_, _, _]) (fun | [a0, a1, a2] => [a0, a1, a2] | _ => []) rfl rfl (by kernel_rfl)) rfl rfl rfl ?_))
  all_goals (refine Gg ?_; first | (refine WL.pass rfl rfl rfl ?_) | (refine Ld ?_))
  all_goals (first | (refine WL.pass rfl rfl rfl ?_) | (refine WL.step (ok_buildF (vs := [_, _, _]) (cs := [_, _, _]) (fun | [a0, a1, a2] => [a0, a1, a2] | _ => []) rfl rfl (by kernel_rfl)) rfl rfl rfl ?_))
  all_goals (first
               | (refine WL.pass rfl rfl rfl ?_)
               | (refine WL.stepR (okE_buildSlice (vs := [_, _, _, _, _, _]) (cs := [_, _, _, _, _, _, _, _, _, _, _, _, _, _, _, _, _, _]) (fun | [.agg ⟨[a0, a1, a2]⟩, .agg ⟨[a3, a4, a5]⟩, .agg ⟨[a6, a7, a8]⟩, .agg ⟨[a9, a10, a11]⟩, .agg ⟨[a12, a13, a14]⟩, .agg ⟨[a15, a16, a17]⟩] => [a0, a1, a2, a3, a4, a5, a6, a7, a8, a9, a10, a11, a12, a13, a14, a15, a16, a17] | _ => []) Tryz.underlying192 rfl rfl (by kernel_rfl)) rfl rfl rfl ?_
                  rintro _ g2 ⟨b2, rfl, hg2, hb2, hx2⟩))
  all_goals (first
               | (refine WL.pass rfl rfl rfl ?_)
               | (refine WL.call (vs := [_]) rfl (fun a w => Tryz.call64 a w) rfl (all_v [⟨t, 0, 4294967295⟩, ⟨a, 0, 65535⟩, ⟨o, 0, 4294967295⟩, ⟨s, -32768, 32767⟩, ⟨m, -2147483648, 2147483647⟩, ⟨f, 0, 65535⟩] (rd_blk hb2 rfl) (by simp [maxLen])) rfl rfl rfl ?_
                  rintro _ g3 ⟨rfl, hx3⟩))
  all_goals (refine Go ?_; refine Gs [(2, _)] ?_; refine Gt ?_)
  all_goals (first
              | (refine ⟨congrArg Value.bool ?_, (hx1.trans hx2).trans hx3⟩
                 simp [ColD.okB, BndD.okB, *]; done)
              | (refine ⟨congrArg Value.bool ?_, hx1⟩
                 simp [ColD.okB, *]; done))
set_option maxHeartbeats 2000000 in
set_option maxRecDepth 100000 in
theorem field_any {h : Heap} (c : FieldD) : CallsH Tryz.prog 32 ⟨[.agg ⟨c.cells⟩]⟩ h fun u h' => u = .bool (decide c.okB) ∧ Ext No h h' := by
  obtain ⟨k, t⟩ := c
  dsimp only [FieldD.cells]
  refine calls [(0, _)] Tryz.func32 rfl Tryz.ntmps32 rfl ⟨rfl, trivial⟩ ?_
  all_goals (refine WC.sr ?_; refine WL.stepR (okE_box rfl) rfl rfl rfl ?_; rintro _ g1 ⟨b1, rfl, hg1, hb1, hx1⟩; refine Go ?_; refine WC.sr ?_; refine Go ?_; refine Ld ?_; refine Go ?_; refine goP 6 (Hb.mk fun hb => ?_) (Hb.mk fun hb => ?_))
  all_goals (refine Gg ?_; first | (refine WL.pass rfl rfl rfl ?_) | (refine Ld ?_))
  all_goals (first
               | (refine WL.pass rfl rfl rfl ?_)
               | (refine WL.call (vs := [_]) rfl (fun a w => Tryz.call28 a w) rfl (clean_any t) rfl rfl rfl ?_
                  rintro _ hz ⟨rfl, _⟩
                  subst hz))
  all_goals (refine Go ?_; refine Gs [(2, _)] ?_; refine Gt ?_; refine ⟨congrArg Value.bool ?_, hx1⟩; simp [FieldD.okB, *])
set_option maxHeartbeats 2000000 in
set_option maxRecDepth 100000 in
theorem cell_any {h h0 : Heap} (c : Cel) (hk : c.ok h0) (hl : c.bytes.length ≤ 1048576) : CallsH Tryz.prog 34 ⟨[.agg ⟨c.cells⟩]⟩ h fun u h' => u = .bool (decide c.okB) ∧ Ext No h h' := by
  obtain ⟨nl, v, bs⟩ := c
  obtain ⟨A, cc, e, _⟩ := hk.1
  simp only at e hl
  subst e
  dsimp only [Cel.cells]
  cases nl
  all_goals
    refine calls [(0, _)] Tryz.func34 rfl Tryz.ntmps34 rfl ⟨rfl, trivial⟩ ?_
    all_goals (refine WC.sr ?_; refine WL.stepR (okE_box rfl) rfl rfl rfl ?_; rintro _ g1 ⟨b1, rfl, hg1, hb1, hx1⟩; refine Go ?_; refine WC.sr ?_; refine Go ?_; refine Ld ?_; refine Go ?_; refine goP 5 ?_ TT.mk; refine Gg ?_; first | (refine WL.pass rfl rfl rfl ?_) | (refine Ld ?_))
    all_goals (refine Gg ?_; refine Go ?_; first | (refine goP 12 ?_ TT.mk) | (refine goP 12 (Hb.mk fun hb => ?_) (Hb.mk fun hb => ?_)))
    all_goals (refine Gg ?_; first | (refine WL.pass rfl rfl rfl ?_) | (refine Ld ?_))
    all_goals (refine Gg ?_; refine Go ?_; refine Gs [(2, _)] ?_; refine Gt ?_)
    all_goals (refine ⟨congrArg Value.bool ?_, hx1⟩
               first
                | exact (decide_eq_true (p := Cel.okB _) ⟨fun z => (by show bs.length = 0; omega), hl⟩).symm
                | exact (decide_eq_true (p := Cel.okB _) ⟨(fun z => by cases z), hl⟩).symm
                | exact (decide_eq_false (p := Cel.okB _) (fun z => (by have : bs.length = 0 := z.1 rfl; omega))).symm
                | exact decide_eq_decide.2 ⟨fun z => ⟨fun z => (by show bs.length = 0; omega), hl⟩, fun z => (by omega)⟩
                | exact decide_eq_decide.2 ⟨fun z => ⟨(fun z => by cases z), hl⟩, fun z => (by omega)⟩)
def oidB (n : Int) : Bool := decide (0 ≤ n) && decide (n ≤ 4294967295)
set_option maxHeartbeats 2000000 in
set_option maxRecDepth 100000 in
theorem oid_any {h : Heap} (n : Int) : CallsH Tryz.prog 36 ⟨[In n]⟩ h fun u h' => u = .bool (oidB n) ∧ h' = h := by
  unfold oidB
  refine calls [(0, _)] Tryz.func36 rfl Tryz.ntmps36 rfl ⟨rfl, trivial⟩ ?_
  all_goals (refine WC.sr ?_; refine Go ?_; refine WC.sr ?_; refine Go ?_; refine goP 5 (Hb.mk fun hb => ?_) (Hb.mk fun hb => ?_))
  all_goals (refine Gg ?_; refine Go ?_; refine Gs [(2, _)] ?_; refine Gt ?_)
  all_goals (refine ⟨congrArg Value.bool ?_, rfl⟩
             by_cases q1 : 0 ≤ n
             all_goals by_cases q2 : n ≤ 4294967295
             all_goals first | (simp [q1, q2]; done) | (simp [q1, q2]; omega) | (exfalso; omega))
set_option maxHeartbeats 2000000 in
set_option maxRecDepth 100000 in
theorem everyA_int {h : Heap} {v : Value} (l : List Int) (hr : Rd h v 1 l.length (ints l)) (hl : l.length ≤ 65535) :
    CallsH Tryz.prog 35 ⟨[v, .func (.func 36) ⟨[]⟩ ⟨[]⟩]⟩ h fun u h' => u = .bool (l.all oidB) ∧ Ext No h h' := by
  have hf : ∀ {h : Heap} {b : Nat} {t : TypeId} (x : Int), x ∈ l → h[b]? = some (.cells ⟨[.func (.func 36) ⟨[]⟩ ⟨[]⟩]⟩ t (0, 0)) → CallsH Tryz.prog 69 ⟨[In x, .pointer (some ⟨b, 0, none⟩)]⟩ h fun u h' => u = .bool (!oidB x) ∧ h' = h := by
    intro h b t x hx hb
    refine calls [(0, _), (1, _)] Tryz.func69 rfl Tryz.ntmps69 rfl ⟨rfl, rfl, trivial⟩ ?_
    all_goals (refine WC.sr ?_; refine Go ?_; refine WC.sr ?_; refine Ld ?_; refine Go ?_; refine WL.callT (vs := [_]) rfl rfl (fun a w => Tryz.call36 a w) rfl (oid_any x) rfl rfl rfl ?_; rintro _ hz ⟨rfl, _⟩; subst hz; refine Go ?_; refine Gs [(3, _)] ?_; refine Gt ?_; exact ⟨rfl, rfl⟩)
  obtain ⟨A, c, rfl, _⟩ := id hr
  have hcon : ∀ {h' : Heap} {b : Nat} {t : TypeId}, Ext No h h' → h'[b]? = some (.cells ⟨[.func (.func 36) ⟨[]⟩ ⟨[]⟩]⟩ t (0, 0)) → CallsH Tryz.prog 68 ⟨[.slice A l.length c, .func (.func 69) ⟨[]⟩ ⟨[.pointer (some ⟨b, 0, none⟩)]⟩]⟩ h' fun u h'' => u = .bool (l.any fun x => !oidB x) ∧ h'' = h' := by
    intro h' b t hx hb
    refine calls [(0, _), (1, _)] Tryz.func68 rfl Tryz.ntmps68 rfl ⟨rfl, rfl, trivial⟩ ?_
    all_goals (refine WC.sr ?_; refine Go ?_; refine WC.sr ?_; refine Go ?_; refine WL.call (vs := [_, _]) rfl (fun a w => Tryz.call121 a w) rfl (indexFunc_int l (fun x => !oidB x) (fun a w => Tryz.call69 a w) (fs := []) (us := [.pointer (some ⟨b, 0, none⟩)]) (hr.ext0 hx) (by unfold maxLen; omega) (fun x hxl => hf x hxl hb)) rfl rfl rfl ?_; rintro _ hz ⟨rfl, _⟩; subst hz; refine WL.step (ok_geq rfl rfl) rfl rfl rfl ?_; refine Go ?_; refine Gs [(4, _)] ?_; refine Gt ?_; exact ⟨by rw [idxP_geq], rfl⟩)
  refine calls [(0, _), (1, _)] Tryz.func35 rfl Tryz.ntmps35 rfl ⟨rfl, rfl, trivial⟩ ?_
  all_goals (refine WC.sr ?_; refine WL.stepR (okE_box rfl) rfl rfl rfl ?_; rintro _ h1 ⟨b1, rfl, hg1, hb1, hx1⟩; refine Go ?_; refine WC.sr ?_; refine Go ?_; refine goP 8 ?_ TT.mk; refine Gg ?_; refine WL.step (ok_makeFunc (vs := []) (us := [_]) rfl rfl) rfl rfl rfl ?_; refine WL.call (vs := [_, _]) rfl (fun a w => Tryz.call68 a w) rfl (hcon hx1 hb1) rfl rfl rfl ?_; rintro _ hz ⟨rfl, _⟩; subst hz; refine Gg ?_; refine Go ?_; refine Gs [(4, _)] ?_; refine Gt ?_; exact ⟨by rw [← all_any], hx1⟩)
end Go.Proofs.YtbokngiajfdanaaGreatDoor


/-
  MESSAGES as they come in: whether each is plain, and what that tells (RwG.w without the registry).
-/
namespace Go.Proofs.YtbokngiajfdanaaGreatDoor
open Go Go.RK

/-- Short enough to be tried. -/
structure Fm.few (b : Fm) : Prop where
  oids : b.oids.length ≤ 50
  formats : b.formats.length ≤ 50
  results : b.results.length ≤ 50
  params : b.params.length ≤ 50
  cells : ∀ c ∈ b.params, c.bytes.length ≤ 300
  name : b.name.length ≤ 300
  portal : b.portal.length ≤ 300
  text : b.text.length ≤ 1000
set_option maxHeartbeats 2000000 in
set_option maxRecDepth 100000 in
theorem pf1 {h h0 : Heap} (c : Cel) (hk : c.ok h0) : CallsH Tryz.prog 41 ⟨[.agg ⟨c.cells⟩]⟩ h fun u h' => u = .bool (decide (300 < c.bytes.length)) ∧ Ext No h h' := by
  obtain ⟨nl, v, bs⟩ := c
  obtain ⟨A, cc, e, _⟩ := hk.1
  simp only at e
  subst e
  dsimp only [Cel.cells]
  refine calls [(0, _)] Tryz.func41 rfl Tryz.ntmps41 rfl ⟨rfl, trivial⟩ ?_
  all_goals (refine WC.sr ?_; refine WL.stepR (okE_box rfl) rfl rfl rfl ?_; rintro _ h1 ⟨b1, rfl, hg1, hb1, hx1⟩; refine Go ?_; refine WC.sr ?_; refine Go ?_; refine Ld ?_; refine Go ?_; refine Gs [(2, _)] ?_; refine Gt ?_; exact ⟨congrArg Value.bool (decide_eq_decide.2 (by omega)), hx1⟩)
def plainB (b : Fm) : Bool := decide ((b.oids.length ≤ 50 ∧ b.formats.length ≤ 50 ∧ b.results.length ≤ 50 ∧ b.params.length ≤ 50) ∧ (b.params.any fun c => decide (300 < c.bytes.length)) = false ∧ b.name.length ≤ 300 ∧ b.portal.length ≤ 300 ∧ b.text.length ≤ 1000)
theorem plainB_few {b : Fm} (h : plainB b = true) : b.few := by
  obtain ⟨⟨h1, h2, h3, h4⟩, h5, h6, h7, h8⟩ := of_decide_eq_true h
  exact ⟨h1, h2, h3, h4, fun c hc => by simpa using List.any_eq_false.1 h5 c hc, h6, h7, h8⟩
set_option maxHeartbeats 4000000 in
set_option maxRecDepth 100000 in
theorem plain_frontB {h : Heap} (b : Fm) (hb : b.ok h) : CallsH Tryz.prog 16 ⟨[.agg ⟨b.cells⟩]⟩ h fun u h' => u = .bool (plainB b) ∧ Ext No h h' := by
  obtain ⟨⟨ho, _⟩, ⟨hf, _⟩, ⟨hs, _⟩, hr⟩ := hb
  obtain ⟨k, w, n, p, t, vo, lo, vf, lf, vs, ls, vp, lp, mx⟩ := b
  dsimp only at ho hf hs hr
  obtain ⟨hr0, hr1, hr2⟩ := hr
  have hrm : lp.length ≤ maxLen := by have := hr1.1; unfold reachBytes at this; unfold maxLen; omega
  obtain ⟨Ao, co, rfl, _⟩ := id ho
  obtain ⟨Af, cf, rfl, _⟩ := id hf
  obtain ⟨As, cs, rfl, _⟩ := id hs
  obtain ⟨Ap, cp, rfl, _⟩ := id hr0
  dsimp only [Fm.cells]
  refine calls [(0, _)] Tryz.func16 rfl Tryz.ntmps16 rfl ⟨rfl, trivial⟩ ?_
  all_goals (refine WC.sr ?_; refine WL.stepR (okE_box rfl) rfl rfl rfl ?_; rintro _ g1 ⟨b1, rfl, hg1, hb1, hX1⟩; refine Go ?_; refine WC.seq ?_; refine WC.sr ?_; refine Go ?_; refine Ld ?_; refine Go ?_; refine goP 7 (Hb.mk fun hb => ?_) (Hb.mk fun hb => ?_))
  all_goals (refine Gg ?_; first | (refine WL.pass rfl rfl rfl ?_) | (refine Ld ?_))
  all_goals (refine Gg ?_; refine Go ?_; first | (refine goP 13 ?_ TT.mk) | (refine goP 13 (Hb.mk fun hb => ?_) (Hb.mk fun hb => ?_)))
  all_goals (refine Gg ?_; first | (refine WL.pass rfl rfl rfl ?_) | (refine Ld ?_))
  all_goals (refine Gg ?_; refine Go ?_; first | (refine goP 19 ?_ TT.mk) | (refine goP 19 (Hb.mk fun hb => ?_) (Hb.mk fun hb => ?_)))
  all_goals (refine Gg ?_; first | (refine WL.pass rfl rfl rfl ?_) | (refine Ld ?_))
  all_goals (refine Gg ?_; refine Go ?_; refine Gs [(1, _), (24, _)] ?_; first | (refine goC 1 2 ?_ TT.mk) | (refine goC 1 2 (Hb.mk fun hb => ?_) (Hb.mk fun hb => ?_)))
  all_goals (first | (fail_if_success refine goB 1 ?_) | (
  refine goB 1 ?_
  all_goals (refine WC.sr ?_; refine Go ?_; refine Gt ?_)
  all_goals (first
              | (refine ⟨congrArg Value.bool (decide_eq_false fun z => ?_).symm, ?_⟩
                 · obtain ⟨⟨z1, z2, z3, z4⟩, z5, z6, z7, z8⟩ := z
                   dsimp only at z1 z2 z3 z4 z5 z6 z7 z8
                   first | omega | (rw [ha1] at z5; cases z5)
                 · first | exact hX2 | exact hX1)
              | (refine ⟨congrArg Value.bool (decide_eq_decide.2 ⟨fun z => ⟨⟨?_, ?_, ?_, ?_⟩, ha1, ?_, ?_, ?_⟩, fun z => ?_⟩), hX2⟩
                 all_goals first | (obtain ⟨⟨z1, z2, z3, z4⟩, z5, z6, z7, z8⟩ := z; dsimp only at z1 z2 z3 z4 z6 z7 z8; omega) | (show _ ≤ _; (try dsimp only); omega)))
  skip))
  all_goals (refine goB 2 ?_; refine WC.skip ?_; refine Gn ?_; refine WC.seq ?_; refine WC.sr ?_; refine Go ?_; refine WL.ld rfl (by first | exact cell_blk hb1 rfl | assumption | exact cell_blk (by assumption) rfl) rfl rfl rfl ?_; refine WL.call (vs := [_, _]) rfl (fun a w => Tryz.call40 a w) rfl (has_cel lp (fun c => decide (300 < c.bytes.length)) (fun a w => Tryz.call41 a w) (fs := []) (us := []) (hr0.ext0 hX1) hrm (fun x hx h' hx' => pf1 x (hr2 x hx))) rfl rfl rfl ?_; rintro _ g2 ⟨rfl, hx2⟩; have hb2 := hx2.obj hb1 nos; have hX2 := hX1.trans hx2; cases ha1 : lp.any fun c => decide (300 < c.bytes.length))
  all_goals (refine Gn ?_; refine goC 3 4 ?_ TT.mk)
  all_goals (first | (fail_if_success refine goB 3 ?_) | (
  refine goB 3 ?_
  all_goals (refine WC.sr ?_; refine Go ?_; refine Gs [(2, _)] ?_; refine Gt ?_)
  all_goals (first
              | (refine ⟨congrArg Value.bool (decide_eq_false fun z => ?_).symm, ?_⟩
                 · obtain ⟨⟨z1, z2, z3, z4⟩, z5, z6, z7, z8⟩ := z
                   dsimp only at z1 z2 z3 z4 z5 z6 z7 z8
                   first | omega | (rw [ha1] at z5; cases z5)
                 · first | exact hX2 | exact hX1)
              | (refine ⟨congrArg Value.bool (decide_eq_decide.2 ⟨fun z => ⟨⟨?_, ?_, ?_, ?_⟩, ha1, ?_, ?_, ?_⟩, fun z => ?_⟩), hX2⟩
                 all_goals first | (obtain ⟨⟨z1, z2, z3, z4⟩, z5, z6, z7, z8⟩ := z; dsimp only at z1 z2 z3 z4 z6 z7 z8; omega) | (show _ ≤ _; (try dsimp only); omega)))
  skip))
  all_goals (refine goB 4 ?_; refine WC.skip ?_; refine Gn ?_; refine Gs [(1, _)] ?_; refine WC.sr ?_; refine Go ?_; refine WL.ld rfl (by first | exact cell_blk hb2 rfl | assumption | exact cell_blk (by assumption) rfl) rfl rfl rfl ?_; refine Go ?_; refine goP 32 (Hb.mk fun hb => ?_) (Hb.mk fun hb => ?_))
  all_goals (refine Gg ?_; first | (refine WL.pass rfl rfl rfl ?_) | (refine WL.ld rfl (by first | exact cell_blk hb2 rfl | assumption | exact cell_blk (by assumption) rfl) rfl rfl rfl ?_))
  all_goals (refine Gg ?_; refine Go ?_; first | (refine goP 38 ?_ TT.mk) | (refine goP 38 (Hb.mk fun hb => ?_) (Hb.mk fun hb => ?_)))
  all_goals (refine Gg ?_; first | (refine WL.pass rfl rfl rfl ?_) | (refine WL.ld rfl (by first | exact cell_blk hb2 rfl | assumption | exact cell_blk (by assumption) rfl) rfl rfl rfl ?_))
  all_goals (refine Gg ?_; refine Go ?_; refine Gs [(2, _)] ?_; refine Gt ?_)
  all_goals (first
              | (refine ⟨congrArg Value.bool (decide_eq_false fun z => ?_).symm, ?_⟩
                 · obtain ⟨⟨z1, z2, z3, z4⟩, z5, z6, z7, z8⟩ := z
                   dsimp only at z1 z2 z3 z4 z5 z6 z7 z8
                   first | omega | (rw [ha1] at z5; cases z5)
                 · first | exact hX2 | exact hX1)
              | (refine ⟨congrArg Value.bool (decide_eq_decide.2 ⟨fun z => ⟨⟨?_, ?_, ?_, ?_⟩, ha1, ?_, ?_, ?_⟩, fun z => ?_⟩), hX2⟩
                 all_goals first | (obtain ⟨⟨z1, z2, z3, z4⟩, z5, z6, z7, z8⟩ := z; dsimp only at z1 z2 z3 z4 z6 z7 z8; omega) | (show _ ≤ _; (try dsimp only); omega)))
set_option maxHeartbeats 2000000 in
set_option maxRecDepth 100000 in
theorem pfs1 {h h0 : Heap} (f : Fm) (hf : f.ok h0) (x : Ext No h0 h) : CallsH Tryz.prog 19 ⟨[.agg ⟨f.cells⟩]⟩ h fun u h' => u = .bool (!plainB f) ∧ Ext No h h' := by
  have kp := fun h' (y : Ext No h h') => plain_frontB f ((hf.ext0 x).ext0 y)
  obtain ⟨⟨e1, _⟩, ⟨e2, _⟩, ⟨e3, _⟩, e4, _⟩ := hf
  obtain ⟨fk, w, n, p, t, vo, o, vf, fs, vs, rs, vp, ps, mx⟩ := f
  dsimp only at e1 e2 e3 e4
  obtain ⟨_, _, rfl, _⟩ := e1
  obtain ⟨_, _, rfl, _⟩ := e2
  obtain ⟨_, _, rfl, _⟩ := e3
  obtain ⟨_, _, rfl, _⟩ := e4
  dsimp only [Fm.cells] at kp ⊢
  refine calls [(0, _)] Tryz.func19 rfl Tryz.ntmps19 rfl ⟨rfl, trivial⟩ ?_
  all_goals (refine WC.sr ?_; refine WL.stepR (okE_box rfl) rfl rfl rfl ?_; rintro _ h1 ⟨b1, rfl, hg1, hb1, hx1⟩; refine Go ?_; refine WC.sr ?_; refine WL.step (ok_loadN (fun w => Tryz.isAgg32 w) (fun w => Tryz.sizeOf32 w) rfl rfl (by exact At.of_block hb1)) rfl rfl rfl ?_; refine WL.call (vs := [_]) rfl (fun a w => Tryz.call16 a w) rfl (kp _ hx1) rfl rfl rfl ?_; rintro _ h2 ⟨rfl, hx2⟩; refine Go ?_; refine Gs [(2, _)] ?_; refine Gt ?_; exact ⟨rfl, hx1.trans hx2⟩)
set_option maxHeartbeats 2000000 in
set_option maxRecDepth 100000 in
theorem indexFunc_fm {h : Heap} {v : Value} (l : List Fm) (p : Fm → Bool) {fk : Nat} {fs us : List Value} (hcf : ∀ (args : Array Value) (w : World), (callFunc fk args).run Tryz.prog w = .ok (.enter fk args) w) (hr : Rd h v 10 l.length (l.flatMap Fm.cells)) (hm : l.length ≤ maxLen)
    (hp : ∀ x ∈ l, ∀ h', Ext No h h' → CallsH Tryz.prog fk ⟨fs ++ [.agg ⟨Fm.cells x⟩] ++ us⟩ h' fun u h'' => u = .bool (p x) ∧ Ext No h' h'') :
    CallsH Tryz.prog 44 ⟨[v, .func (.func fk) ⟨fs⟩ ⟨us⟩]⟩ h fun u h' => u = In (idxP p l) ∧ Ext No h h' := by
  obtain ⟨A, c, rfl, _⟩ := id hr
  unfold maxLen at hm
  refine calls [(0, _), (1, _)] Tryz.func44 rfl Tryz.ntmps44 rfl ⟨rfl, rfl, trivial⟩ ?_
  all_goals (refine WC.sr ?_; refine Go ?_; refine WC.seq ?_; refine WC.sr ?_; refine Go ?_; refine WC.block ?_)
  -- loop 0: slots that turn [8], that stay [0, 1, 7]
  all_goals (refine WC.loopG (X := Nat) (fun x => ([(8, In (x : Int))] : Fr)) [(0, _), (1, _), (7, _)] (fun k h' => Ext No h h' ∧ k ≤ l.length ∧ ∀ x ∈ l.take k, p x = false) (fun k => l.length - k) (0) ⟨rfl, rfl, rfl, rfl, trivial⟩ (by exact ⟨.refl _ _, Nat.zero_le _, by simp⟩) ?_; rintro k h1 ⟨hx1, hk, hn⟩; refine WC.sub [(8, _), (0, _), (1, _), (7, _)] ⟨rfl, rfl, rfl, rfl, trivial⟩ ?_; refine WC.sr ?_; refine Go ?_; refine WC.seq ?_; refine goC 1 2 (Hb.mk fun hb => ?_) (Hb.mk fun hb => ?_))
  all_goals (first | (fail_if_success refine goB 1 ?_) | (
  refine goB 1 ?_
  all_goals (refine WC.skip ?_)
  skip))
  all_goals (first | (fail_if_success refine goB 2 ?_) | (
  refine goB 2 ?_
  all_goals (refine WC.exit ?_; repeat' (with_reducible first | refine thenP_x ?_ | refine blockP_miss rfl ?_ | refine blockP_hit ?_ | refine blockP_n ?_ | refine thenP_n ?_))
  all_goals (refine Br.out (i := 1000) ?_)
  skip))
  all_goals (refine Gn ?_; first | (refine Br.keep ?_) | (refine WC.seq ?_))
  all_goals (first | (refine Br.keep ?_) | (refine WC.block ?_))
  all_goals (first | (refine Br.keep ?_) | (refine WC.sr ?_))
  all_goals (refine Go ?_; first | (refine Br.keep ?_) | (refine WC.sr ?_))
  all_goals (first | (refine Br.keep ?_) | (refine WL.step (ok_move rfl) rfl rfl rfl ?_))
  all_goals (first | (refine Br.keep ?_) | (refine WL.step (ok_move rfl) rfl rfl rfl ?_))
  all_goals (first
               | (refine Br.keep ?_)
               | (obtain ⟨b, o, hA, hbL, hat⟩ := Rd.at_ (hr.ext0 hx1) (by omega)
                  obtain ⟨y, hy⟩ : ∃ y, l[k]? = some y := ⟨_, List.getElem?_eq_getElem (by omega)⟩
                  have hc : At h1 b (o + k * 10) (Fm.cells y) := At.elem Fm.len hat hy))
  all_goals (first | (refine Br.keep ?_) | (refine WL.step (ok_move rfl) rfl rfl rfl ?_))
  all_goals (first | (refine Br.keep ?_) | (refine WL.step (ok_idxAddrA Tryz.underlying22 (fun w => Tryz.sizeOf32 w) rfl rfl rfl (by omega) (by first | rfl | assumption)) rfl rfl rfl ?_))
  all_goals (first | (refine Br.keep ?_) | (refine WL.step (ok_loadN (fun w => Tryz.isAgg32 w) (fun w => Tryz.sizeOf32 w) rfl rfl (by assumption)) rfl rfl rfl ?_))
  all_goals (first
               | (refine Br.keep ?_)
               | (refine WL.callT (vs := [_]) rfl rfl hcf rfl (hp y (List.mem_of_getElem? hy) h1 hx1) rfl rfl rfl ?_
                  rintro _ h2 ⟨rfl, hx2⟩))
  all_goals (first | (refine Br.keep ?_) | (cases hpy : p y))
  all_goals (refine Gn ?_; first | (refine Br.keep ?_) | (refine Gs [(0, _), (1, _), (5, _), (7, _), (8, _), (16, _)] ?_))
  all_goals (first | (refine Br.keep ?_) | (refine goC 3 4 ?_ TT.mk))
  all_goals (first | (fail_if_success refine goB 3 ?_) | (
  refine goB 3 ?_
  all_goals (refine WC.sr ?_; refine Go ?_; refine Gs [(4, _)] ?_; refine Gt ?_; first | exact ⟨by rw [idxP_no (by rw [List.take_of_length_le (by omega)] at hn; exact hn)], hx1⟩ | exact ⟨by rw [idxP_at hy hpy hn], hx1.trans hx2⟩)
  skip))
  all_goals (first | (fail_if_success refine goB 4 ?_) | (
  refine goB 4 ?_
  all_goals (refine WC.skip ?_)
  skip))
  all_goals (refine Gn ?_; first | (refine Br.keep ?_) | (refine WC.region ?_))
  all_goals (refine Go ?_; first | (refine Br.keep ?_) | (exact ⟨k + 1, ⟨rfl, rfl, rfl, rfl, trivial⟩, (by exact ⟨hx1.trans hx2, by omega, take_snoc_p hn hy hpy⟩), (by omega)⟩))
  all_goals (try (refine Br.mk (i := 1000) ?_))
  all_goals (refine Gn ?_; refine Gs [] ?_; refine WC.sr ?_; refine Go ?_; refine Gt ?_; first | exact ⟨by rw [idxP_no (by rw [List.take_of_length_le (by omega)] at hn; exact hn)], hx1⟩ | exact ⟨by rw [idxP_at hy hpy hn], hx1.trans hx2⟩)

set_option maxHeartbeats 2000000 in
set_option maxRecDepth 100000 in
theorem has_fm {h : Heap} {v : Value} (l : List Fm) (p : Fm → Bool) {fk : Nat} {fs us : List Value} (hcf : ∀ (args : Array Value) (w : World), (callFunc fk args).run Tryz.prog w = .ok (.enter fk args) w) (hr : Rd h v 10 l.length (l.flatMap Fm.cells)) (hm : l.length ≤ maxLen)
    (hp : ∀ x ∈ l, ∀ h', Ext No h h' → CallsH Tryz.prog fk ⟨fs ++ [.agg ⟨Fm.cells x⟩] ++ us⟩ h' fun u h'' => u = .bool (p x) ∧ Ext No h' h'') :
    CallsH Tryz.prog 18 ⟨[v, .func (.func fk) ⟨fs⟩ ⟨us⟩]⟩ h fun u h' => u = .bool (l.any p) ∧ Ext No h h' := by
  refine calls [(0, _), (1, _)] Tryz.func18 rfl Tryz.ntmps18 rfl ⟨rfl, rfl, trivial⟩ ?_
  all_goals (refine WC.sr ?_; refine Go ?_; refine WC.sr ?_; refine Go ?_; refine WL.call (vs := [_, _]) rfl (fun a w => Tryz.call44 a w) rfl (indexFunc_fm l p hcf hr hm hp) rfl rfl rfl ?_; rintro _ h1 ⟨rfl, hx1⟩; refine WL.step (ok_geq rfl rfl) rfl rfl rfl ?_; refine Go ?_; refine Gs [(4, _)] ?_; refine Gt ?_; exact ⟨by rw [idxP_geq], hx1⟩)

set_option maxHeartbeats 4000000 in
set_option maxRecDepth 100000 in
theorem plain_fronts {h : Heap} {v : Value} (L : List Fm) (k : Fms h v L) (many : Int) : CallsH Tryz.prog 5 ⟨[v, In many]⟩ h fun u h' => (∃ x, u = .bool x ∧ (x = true → (L.length : Int) ≤ many ∧ ∀ f ∈ L, f.few)) ∧ Ext No h h' := by
  obtain ⟨hr, hl, ok⟩ := k
  have kh := has_fm L (fun f => !plainB f) (fun a w => Tryz.call19 a w) (fs := []) (us := []) hr hl (fun x hx h' hx' => pfs1 x (ok x hx) hx')
  obtain ⟨A, c, rfl, _⟩ := id hr
  unfold maxLen at hl
  refine calls [(0, _), (1, _)] Tryz.func5 rfl Tryz.ntmps5 rfl ⟨rfl, rfl, trivial⟩ ?_
  all_goals (refine WC.sr ?_; refine Go ?_; refine WC.sr ?_; refine Go ?_; refine goP 9 (Hb.mk fun hb => ?_) (Hb.mk fun hb => ?_))
  all_goals (refine Gg ?_)
  all_goals (first
               | (refine WL.pass rfl rfl rfl ?_)
               | (refine WL.call (vs := [_, _]) rfl (fun a w => Tryz.call18 a w) rfl (kh) rfl rfl rfl ?_
                  rintro _ h2 ⟨rfl, hx2⟩))
  all_goals (refine Gg ?_; refine Go ?_; refine Gs [(4, _)] ?_; refine Gt ?_)
  all_goals (first
              | (refine ⟨⟨_, rfl, fun z => ?_⟩, hx2⟩
                 refine ⟨by omega, fun f hf => plainB_few ?_⟩
                 have z2 : (L.any fun f => !plainB f) = false := by simpa using z
                 simpa using List.any_eq_false.1 z2 f hf)
              | exact ⟨⟨false, rfl, fun z => by cases z⟩, .refl _ _⟩)
end Go.Proofs.YtbokngiajfdanaaGreatDoor


/-
  api.Entry as it comes in; whether entries are few (without the cache's texts).
-/
namespace Go.Proofs.YtbokngiajfdanaaGreatDoor
open Go Go.RK

abbrev COp := Int × Int × Unit
def copCells : COp → List Value := fun p => [In p.1] ++ ([In p.2.1] ++ [])
abbrev Ops (h : Heap) (v : Value) (l : List COp) : Prop := Rd h v 2 l.length (l.flatMap copCells) ∧ l.length * 16 ≤ reachBytes
theorem Ops.ext0 {h h' : Heap} {v : Value} {l : List COp} (k : Ops h v l) (a : Ext No h h') : Ops h' v l := ⟨k.1.ext0 a, k.2⟩
/-- A row of ops among others. -/
structure Ob where
  v : Value
  l : List COp
def Obs (h : Heap) (v : Value) (L : List Ob) : Prop := Rd h v 1 L.length (L.map Ob.v) ∧ L.length * 24 ≤ reachBytes ∧ ∀ r ∈ L, Ops h r.v r.l
theorem Obs.ext0 {h h' : Heap} {v : Value} {L : List Ob} (k : Obs h v L) (a : Ext No h h') : Obs h' v L := ⟨k.1.ext0 a, k.2.1, fun r hr => (k.2.2 r hr).ext0 a⟩
abbrev TOp := Bool × List UInt8 × Int × Unit
def topCells : TOp → List Value := fun p => [.bool p.1] ++ ([St p.2.1] ++ ([In p.2.2.1] ++ []))
abbrev Tops (h : Heap) (v : Value) (l : List TOp) : Prop := Rd h v 3 l.length (l.flatMap topCells) ∧ l.length ≤ maxLen
/-- An entry. -/
structure En where
  kind : Int
  hide : Bool
  src : List UInt8
  dst : List UInt8
  vg : Value
  good : List TOp
  vb : Value
  bad : List TOp
  vc : Value
  ops : List COp
  vr : Value
  reply : List UInt8
def En.cells (e : En) : List Value := [In e.kind, .bool e.hide, St e.src, St e.dst, e.vg, e.vb, e.vc, e.vr]
theorem En.len (e : En) : e.cells.length = 8 := rfl
structure En.ok (h : Heap) (e : En) : Prop where
  good : Tops h e.vg e.good
  bad : Tops h e.vb e.bad
  ops : Ops h e.vc e.ops
  reply : Rd h e.vr 1 e.reply.length (bys e.reply) ∧ e.reply.length ≤ reachBytes
theorem En.ok.ext0 {h h' : Heap} {e : En} (k : e.ok h) (a : Ext No h h') : e.ok h' := ⟨⟨k.1.1.ext0 a, k.1.2⟩, ⟨k.2.1.ext0 a, k.2.2⟩, k.3.ext0 a, ⟨k.4.1.ext0 a, k.4.2⟩⟩
theorem En.ok.one {h : Heap} {e : En} (k : e.ok h) : ∀ v ∈ e.cells, v.oneCell' = true := by
  obtain ⟨A1, c1, e1, _⟩ := k.1.1
  obtain ⟨A2, c2, e2, _⟩ := k.2.1
  obtain ⟨A3, c3, e3, _⟩ := k.3.1
  obtain ⟨A4, c4, e4, _⟩ := k.4.1
  simp [En.cells, Value.oneCell', e1, e2, e3, e4]
def Ens (h : Heap) (v : Value) (L : List En) : Prop := Rd h v 8 L.length (L.flatMap En.cells) ∧ L.length ≤ maxLen ∧ ∀ e ∈ L, e.ok h
theorem Ens.ext0 {h h' : Heap} {v : Value} {L : List En} (k : Ens h v L) (a : Ext No h h') : Ens h' v L := ⟨k.1.ext0 a, k.2.1, fun r hr => (k.2.2 r hr).ext0 a⟩
/-! ### whether they are few -/
/-- One that is too long. -/
def En.far (e : En) : Bool := decide (10 < e.good.length) || decide (10 < e.bad.length) || decide (10 < e.ops.length) || decide (300 < e.reply.length) || decide (300 < e.src.length) || decide (300 < e.dst.length)
/-- Few and short. -/
def fewE (L : List En) (n : Nat) : Bool := decide (L.length ≤ n) && !L.any En.far
end Go.Proofs.YtbokngiajfdanaaGreatDoor


/-
  api.Back as it comes in; whether it is few.
-/
namespace Go.Proofs.YtbokngiajfdanaaGreatDoor
open Go Go.RK

/-- Numbers of a reply lie where their types have them lie. -/
structure Bk.wf (b : Bk) : Prop where
  kind : 0 ≤ b.kind ∧ b.kind ≤ 255
  status : 0 ≤ b.status ∧ b.status ≤ 255
  codes : ∀ f ∈ b.fields, 0 ≤ f.k ∧ f.k ≤ 255
/-! ### few -/
structure Bk.few (b : Bk) : Prop where
  oids : b.oids.length ≤ 50
  cols : b.cols.length ≤ 50
  row : b.row.length ≤ 50
  fields : b.fields.length ≤ 50
  names : ∀ c ∈ b.cols, c.nm.length ≤ 300
  cells : ∀ c ∈ b.row, c.bytes.length ≤ 300
  texts : ∀ f ∈ b.fields, f.t.length ≤ 1000
  tag : b.tag.length ≤ 300
  name : b.name.length ≤ 300
  value : b.value.length ≤ 300
end Go.Proofs.YtbokngiajfdanaaGreatDoor


/-
  REPLIES (layer 7): back.Same and back.Check, of any reply that is short.
-/
namespace Go.Proofs.YtbokngiajfdanaaGreatDoor
open Go Go.RK

set_option maxHeartbeats 2000000 in
set_option maxRecDepth 100000 in
theorem eqlA_col {h : Heap} {v w : Value} (l m : List ColD) (hr : Rd h v 7 l.length (l.flatMap ColD.cells)) (hs : Rd h w 7 m.length (m.flatMap ColD.cells)) (hml : l.length ≤ maxLen) (hmm : m.length ≤ maxLen) :
    CallsH Tryz.prog 71 ⟨[v, w]⟩ h fun u h' => u = .bool (decide (l = m)) ∧ h' = h := by
  obtain ⟨A, c, rfl, _⟩ := id hr
  obtain ⟨B, d, rfl, _⟩ := id hs
  unfold maxLen at hml hmm
  refine calls [(0, _), (1, _)] Tryz.func71 rfl Tryz.ntmps71 rfl ⟨rfl, rfl, trivial⟩ ?_
  all_goals (refine WC.sr ?_; refine Go ?_; refine WC.seq ?_; refine WC.sr ?_; refine Go ?_; refine Gs [(0, _), (1, _), (10, _)] ?_; refine goC 1 2 (Hb.mk fun hb => ?_) (Hb.mk fun hb => ?_))
  all_goals (first | (fail_if_success refine goB 1 ?_) | (
  refine goB 1 ?_
  all_goals (refine WC.sr ?_; refine Go ?_; refine Gt ?_)
  all_goals (first
              | exact ⟨by rw [decide_eq_false (fun e => by subst e; omega)], rfl⟩
              | exact ⟨by rw [decide_eq_false (fun e => hyz (by subst e; rw [hy] at hz; exact Option.some.inj hz))], rfl⟩
              | exact ⟨by rw [decide_eq_true (by rw [List.take_of_length_le (by omega), List.take_of_length_le (by omega)] at hn; exact hn)], rfl⟩)
  skip))
  all_goals (refine goB 2 ?_; refine WC.skip ?_; refine Gn ?_; refine WC.seq ?_; refine WC.sr ?_; refine Go ?_; refine WC.block ?_)
  -- loop 0: slots that turn [13], that stay [0, 1, 12]
  all_goals (refine WC.loopG (X := Nat) (fun x => ([(13, In (x : Int))] : Fr)) [(0, _), (1, _), (12, _)] (fun k h' => h' = h ∧ k ≤ l.length ∧ l.length = m.length ∧ l.take k = m.take k) (fun k => l.length - k) (0) ⟨rfl, rfl, rfl, rfl, trivial⟩ (by exact ⟨rfl, Nat.zero_le _, by omega, by simp⟩) ?_; rintro k h9 ⟨hz, hk, hlm, hn⟩; subst h9; refine WC.sub [(13, _), (0, _), (1, _), (12, _)] ⟨rfl, rfl, rfl, rfl, trivial⟩ ?_; refine WC.sr ?_; refine Go ?_; refine WC.seq ?_; refine goC 3 4 (Hb.mk fun hb => ?_) (Hb.mk fun hb => ?_))
  all_goals (first | (fail_if_success refine goB 3 ?_) | (
  refine goB 3 ?_
  all_goals (refine WC.skip ?_)
  skip))
  all_goals (first | (fail_if_success refine goB 4 ?_) | (
  refine goB 4 ?_
  all_goals (refine WC.exit ?_; repeat' (with_reducible first | refine thenP_x ?_ | refine blockP_miss rfl ?_ | refine blockP_hit ?_ | refine blockP_n ?_ | refine thenP_n ?_))
  all_goals (refine Br.out (i := 1000) ?_)
  skip))
  all_goals (refine Gn ?_; first | (refine Br.keep ?_) | (refine WC.seq ?_))
  all_goals (first | (refine Br.keep ?_) | (refine WC.block ?_))
  all_goals (first | (refine Br.keep ?_) | (refine WC.sr ?_))
  all_goals (first
               | (refine Br.keep ?_)
               | (obtain ⟨bL, oL, hA, hbL, hat⟩ := Rd.at_ hr (by omega)
                  obtain ⟨bM, oM, hB, hbM, hbt⟩ := Rd.at_ hs (by omega)
                  obtain ⟨y, hy⟩ : ∃ y, l[k]? = some y := ⟨_, List.getElem?_eq_getElem (by omega)⟩
                  obtain ⟨z, hz⟩ : ∃ z, m[k]? = some z := ⟨_, List.getElem?_eq_getElem (by omega)⟩
                  have at1 : At h bL (oL + k * 7) (ColD.cells y) := At.elem ColD.len hat hy
                  have at2 : At h bM (oM + k * 7) (ColD.cells z) := At.elem ColD.len hbt hz
                  by_cases hyz : y = z))
  all_goals (first | (refine Br.keep ?_) | (refine WL.step (ok_move rfl) rfl rfl rfl ?_))
  all_goals (refine Go ?_; first | (refine Br.keep ?_) | (refine WC.seq ?_))
  all_goals (first | (refine Br.keep ?_) | (refine WC.drawE fol (by kernel_rfl) ?_))
  all_goals (first | (refine Br.keep ?_) | (refine WQ.stepE (ok_move rfl) rfl rfl rfl ?_))
  all_goals (first | (refine Br.keep ?_) | (refine WQ.stepE (ok_move rfl) rfl rfl rfl ?_))
  all_goals (first | (refine Br.keep ?_) | (refine WQ.stepE (ok_idxAddrA Tryz.underlying39 (fun w => Tryz.sizeOf78 w) rfl rfl rfl (by omega) (by first | rfl | assumption)) rfl rfl rfl ?_))
  all_goals (first | (refine Br.keep ?_) | (refine WQ.stepE (ok_loadN (fun w => Tryz.isAgg78 w) (fun w => Tryz.sizeOf78 w) rfl rfl (by assumption)) rfl rfl rfl ?_))
  all_goals (first | (refine Br.keep ?_) | (refine WQ.stepE (ok_move rfl) rfl rfl rfl ?_))
  all_goals (first | (refine Br.keep ?_) | (refine WQ.stepE (ok_move rfl) rfl rfl rfl ?_))
  all_goals (first | (refine Br.keep ?_) | (refine WQ.stepE (ok_idxAddrA Tryz.underlying39 (fun w => Tryz.sizeOf78 w) rfl rfl rfl (by omega) (by first | rfl | assumption)) rfl rfl rfl ?_))
  all_goals (first | (refine Br.keep ?_) | (refine WQ.stepE (ok_loadN (fun w => Tryz.isAgg78 w) (fun w => Tryz.sizeOf78 w) rfl rfl (by assumption)) rfl rfl rfl ?_))
  all_goals (first | (refine Br.keep ?_) | (first | (refine WQ.stepE (OkP.nbool_f (congrArg (·.sca) hyz) (ok_neqF (us := y.sca) (vs := z.sca) ([.s, .i .i64, .i .i64, .i .i64, .i .i64, .i .i64, .i .i64]) (by kernel_rfl) rfl rfl rfl rfl)) rfl rfl rfl ?_) | (refine WQ.stepE (OkP.nbool_t (fun e => hyz ((ColD.inj _ _).1 e)) (ok_neqF (us := y.sca) (vs := z.sca) ([.s, .i .i64, .i .i64, .i .i64, .i .i64, .i .i64, .i .i64]) (by kernel_rfl) rfl rfl rfl rfl)) rfl rfl rfl ?_)))
  all_goals (first | (refine Br.keep ?_) | (refine WQ.nil ?_))
  all_goals (refine Gn ?_; first | (refine Br.keep ?_) | (refine Gs [(0, _), (1, _), (12, _), (13, _), (24, _)] ?_))
  all_goals (first | (refine Br.keep ?_) | (refine goC 5 6 ?_ TT.mk))
  all_goals (first | (fail_if_success refine goB 5 ?_) | (
  refine goB 5 ?_
  all_goals (refine WC.sr ?_; refine Go ?_; refine Gs [(4, _)] ?_; refine Gt ?_)
  all_goals (first
              | exact ⟨by rw [decide_eq_false (fun e => by subst e; omega)], rfl⟩
              | exact ⟨by rw [decide_eq_false (fun e => hyz (by subst e; rw [hy] at hz; exact Option.some.inj hz))], rfl⟩
              | exact ⟨by rw [decide_eq_true (by rw [List.take_of_length_le (by omega), List.take_of_length_le (by omega)] at hn; exact hn)], rfl⟩)
  skip))
  all_goals (first | (fail_if_success refine goB 6 ?_) | (
  refine goB 6 ?_
  all_goals (refine WC.skip ?_)
  skip))
  all_goals (refine Gn ?_; first | (refine Br.keep ?_) | (refine WC.region ?_))
  all_goals (refine Go ?_; first | (refine Br.keep ?_) | (exact ⟨k + 1, ⟨rfl, rfl, rfl, rfl, trivial⟩, (by exact ⟨rfl, by omega, hlm, by rw [List.take_add_one, List.take_add_one, hn, hy, hz, hyz]⟩), (by omega)⟩))
  all_goals (try (refine Br.mk (i := 1000) ?_))
  all_goals (refine Gn ?_; refine Gs [] ?_; refine WC.sr ?_; refine Go ?_; refine Gt ?_)
  all_goals (first
              | exact ⟨by rw [decide_eq_false (fun e => by subst e; omega)], rfl⟩
              | exact ⟨by rw [decide_eq_false (fun e => hyz (by subst e; rw [hy] at hz; exact Option.some.inj hz))], rfl⟩
              | exact ⟨by rw [decide_eq_true (by rw [List.take_of_length_le (by omega), List.take_of_length_le (by omega)] at hn; exact hn)], rfl⟩)

set_option maxHeartbeats 2000000 in
set_option maxRecDepth 100000 in
theorem eqlA_fld {h : Heap} {v w : Value} (l m : List FieldD) (hr : Rd h v 2 l.length (l.flatMap FieldD.cells)) (hs : Rd h w 2 m.length (m.flatMap FieldD.cells)) (hml : l.length ≤ maxLen) (hmm : m.length ≤ maxLen) :
    CallsH Tryz.prog 72 ⟨[v, w]⟩ h fun u h' => u = .bool (decide (l = m)) ∧ h' = h := by
  obtain ⟨A, c, rfl, _⟩ := id hr
  obtain ⟨B, d, rfl, _⟩ := id hs
  unfold maxLen at hml hmm
  refine calls [(0, _), (1, _)] Tryz.func72 rfl Tryz.ntmps72 rfl ⟨rfl, rfl, trivial⟩ ?_
  all_goals (refine WC.sr ?_; refine Go ?_; refine WC.seq ?_; refine WC.sr ?_; refine Go ?_; refine Gs [(0, _), (1, _), (10, _)] ?_; refine goC 1 2 (Hb.mk fun hb => ?_) (Hb.mk fun hb => ?_))
  all_goals (first | (fail_if_success refine goB 1 ?_) | (
  refine goB 1 ?_
  all_goals (refine WC.sr ?_; refine Go ?_; refine Gt ?_)
  all_goals (first
              | exact ⟨by rw [decide_eq_false (fun e => by subst e; omega)], rfl⟩
              | exact ⟨by rw [decide_eq_false (fun e => hyz (by subst e; rw [hy] at hz; exact Option.some.inj hz))], rfl⟩
              | exact ⟨by rw [decide_eq_true (by rw [List.take_of_length_le (by omega), List.take_of_length_le (by omega)] at hn; exact hn)], rfl⟩)
  skip))
  all_goals (refine goB 2 ?_; refine WC.skip ?_; refine Gn ?_; refine WC.seq ?_; refine WC.sr ?_; refine Go ?_; refine WC.block ?_)
  -- loop 0: slots that turn [13], that stay [0, 1, 12]
  all_goals (refine WC.loopG (X := Nat) (fun x => ([(13, In (x : Int))] : Fr)) [(0, _), (1, _), (12, _)] (fun k h' => h' = h ∧ k ≤ l.length ∧ l.length = m.length ∧ l.take k = m.take k) (fun k => l.length - k) (0) ⟨rfl, rfl, rfl, rfl, trivial⟩ (by exact ⟨rfl, Nat.zero_le _, by omega, by simp⟩) ?_; rintro k h9 ⟨hz, hk, hlm, hn⟩; subst h9; refine WC.sub [(13, _), (0, _), (1, _), (12, _)] ⟨rfl, rfl, rfl, rfl, trivial⟩ ?_; refine WC.sr ?_; refine Go ?_; refine WC.seq ?_; refine goC 3 4 (Hb.mk fun hb => ?_) (Hb.mk fun hb => ?_))
  all_goals (first | (fail_if_success refine goB 3 ?_) | (
  refine goB 3 ?_
  all_goals (refine WC.skip ?_)
  skip))
  all_goals (first | (fail_if_success refine goB 4 ?_) | (
  refine goB 4 ?_
  all_goals (refine WC.exit ?_; repeat' (with_reducible first | refine thenP_x ?_ | refine blockP_miss rfl ?_ | refine blockP_hit ?_ | refine blockP_n ?_ | refine thenP_n ?_))
  all_goals (refine Br.out (i := 1000) ?_)
  skip))
  all_goals (refine Gn ?_; first | (refine Br.keep ?_) | (refine WC.seq ?_))
  all_goals (first | (refine Br.keep ?_) | (refine WC.block ?_))
  all_goals (first | (refine Br.keep ?_) | (refine WC.sr ?_))
  all_goals (first
               | (refine Br.keep ?_)
               | (obtain ⟨bL, oL, hA, hbL, hat⟩ := Rd.at_ hr (by omega)
                  obtain ⟨bM, oM, hB, hbM, hbt⟩ := Rd.at_ hs (by omega)
                  obtain ⟨y, hy⟩ : ∃ y, l[k]? = some y := ⟨_, List.getElem?_eq_getElem (by omega)⟩
                  obtain ⟨z, hz⟩ : ∃ z, m[k]? = some z := ⟨_, List.getElem?_eq_getElem (by omega)⟩
                  have at1 : At h bL (oL + k * 2) (FieldD.cells y) := At.elem FieldD.len hat hy
                  have at2 : At h bM (oM + k * 2) (FieldD.cells z) := At.elem FieldD.len hbt hz
                  by_cases hyz : y = z))
  all_goals (first | (refine Br.keep ?_) | (refine WL.step (ok_move rfl) rfl rfl rfl ?_))
  all_goals (refine Go ?_; first | (refine Br.keep ?_) | (refine WC.seq ?_))
  all_goals (first | (refine Br.keep ?_) | (refine WC.drawE fol (by kernel_rfl) ?_))
  all_goals (first | (refine Br.keep ?_) | (refine WQ.stepE (ok_move rfl) rfl rfl rfl ?_))
  all_goals (first | (refine Br.keep ?_) | (refine WQ.stepE (ok_move rfl) rfl rfl rfl ?_))
  all_goals (first | (refine Br.keep ?_) | (refine WQ.stepE (ok_idxAddrA Tryz.underlying40 (fun w => Tryz.sizeOf82 w) rfl rfl rfl (by omega) (by first | rfl | assumption)) rfl rfl rfl ?_))
  all_goals (first | (refine Br.keep ?_) | (refine WQ.stepE (ok_loadN (fun w => Tryz.isAgg82 w) (fun w => Tryz.sizeOf82 w) rfl rfl (by assumption)) rfl rfl rfl ?_))
  all_goals (first | (refine Br.keep ?_) | (refine WQ.stepE (ok_move rfl) rfl rfl rfl ?_))
  all_goals (first | (refine Br.keep ?_) | (refine WQ.stepE (ok_move rfl) rfl rfl rfl ?_))
  all_goals (first | (refine Br.keep ?_) | (refine WQ.stepE (ok_idxAddrA Tryz.underlying40 (fun w => Tryz.sizeOf82 w) rfl rfl rfl (by omega) (by first | rfl | assumption)) rfl rfl rfl ?_))
  all_goals (first | (refine Br.keep ?_) | (refine WQ.stepE (ok_loadN (fun w => Tryz.isAgg82 w) (fun w => Tryz.sizeOf82 w) rfl rfl (by assumption)) rfl rfl rfl ?_))
  all_goals (first | (refine Br.keep ?_) | (first | (refine WQ.stepE (OkP.nbool_f (congrArg (·.sca) hyz) (ok_neqF (us := y.sca) (vs := z.sca) ([.i .u8, .s]) (by kernel_rfl) rfl rfl rfl rfl)) rfl rfl rfl ?_) | (refine WQ.stepE (OkP.nbool_t (fun e => hyz ((FieldD.inj _ _).1 e)) (ok_neqF (us := y.sca) (vs := z.sca) ([.i .u8, .s]) (by kernel_rfl) rfl rfl rfl rfl)) rfl rfl rfl ?_)))
  all_goals (first | (refine Br.keep ?_) | (refine WQ.nil ?_))
  all_goals (refine Gn ?_; first | (refine Br.keep ?_) | (refine Gs [(0, _), (1, _), (12, _), (13, _), (24, _)] ?_))
  all_goals (first | (refine Br.keep ?_) | (refine goC 5 6 ?_ TT.mk))
  all_goals (first | (fail_if_success refine goB 5 ?_) | (
  refine goB 5 ?_
  all_goals (refine WC.sr ?_; refine Go ?_; refine Gs [(4, _)] ?_; refine Gt ?_)
  all_goals (first
              | exact ⟨by rw [decide_eq_false (fun e => by subst e; omega)], rfl⟩
              | exact ⟨by rw [decide_eq_false (fun e => hyz (by subst e; rw [hy] at hz; exact Option.some.inj hz))], rfl⟩
              | exact ⟨by rw [decide_eq_true (by rw [List.take_of_length_le (by omega), List.take_of_length_le (by omega)] at hn; exact hn)], rfl⟩)
  skip))
  all_goals (first | (fail_if_success refine goB 6 ?_) | (
  refine goB 6 ?_
  all_goals (refine WC.skip ?_)
  skip))
  all_goals (refine Gn ?_; first | (refine Br.keep ?_) | (refine WC.region ?_))
  all_goals (refine Go ?_; first | (refine Br.keep ?_) | (exact ⟨k + 1, ⟨rfl, rfl, rfl, rfl, trivial⟩, (by exact ⟨rfl, by omega, hlm, by rw [List.take_add_one, List.take_add_one, hn, hy, hz, hyz]⟩), (by omega)⟩))
  all_goals (try (refine Br.mk (i := 1000) ?_))
  all_goals (refine Gn ?_; refine Gs [] ?_; refine WC.sr ?_; refine Go ?_; refine Gt ?_)
  all_goals (first
              | exact ⟨by rw [decide_eq_false (fun e => by subst e; omega)], rfl⟩
              | exact ⟨by rw [decide_eq_false (fun e => hyz (by subst e; rw [hy] at hz; exact Option.some.inj hz))], rfl⟩
              | exact ⟨by rw [decide_eq_true (by rw [List.take_of_length_le (by omega), List.take_of_length_le (by omega)] at hn; exact hn)], rfl⟩)

set_option maxHeartbeats 2000000 in
set_option maxRecDepth 100000 in
theorem alikeA {h : Heap} (a b : Cel) (ha : a.ok h) (hb : b.ok h) :
    CallsH Tryz.prog 74 ⟨[.agg ⟨a.cells⟩, .agg ⟨b.cells⟩]⟩ h fun u h' => u = .bool (decide (a.pl = b.pl)) ∧ Ext No h h' := by
  obtain ⟨n1, v1, l1⟩ := a
  obtain ⟨n2, v2, l2⟩ := b
  obtain ⟨ha, _⟩ := ha
  obtain ⟨hb, _⟩ := hb
  simp only at ha hb
  obtain ⟨A, c, rfl, _⟩ := id ha
  obtain ⟨B, d, rfl, _⟩ := id hb
  dsimp only [Cel.cells]
  cases n1
  all_goals cases n2
  all_goals
    refine calls [(0, _), (1, _)] Tryz.func74 rfl Tryz.ntmps74 rfl ⟨rfl, rfl, trivial⟩ ?_
    all_goals (refine WC.sr ?_; refine WL.stepR (okE_box rfl) rfl rfl rfl ?_; rintro _ h1 ⟨b1, rfl, hg1, hb1, hx1⟩; refine WL.stepR (okE_box rfl) rfl rfl rfl ?_; rintro _ h2 ⟨b2, rfl, hg2, hb2, hx2⟩; have hb1' := hx2.obj hb1 nos; have hx := hx1.trans hx2; refine Go ?_; refine WC.sr ?_; refine Go ?_; refine Ld ?_; refine Go ?_; refine Ld ?_; first | (refine WL.step (OkP.bool_t (by rfl) (ok_eqlB Tryz.underlying4 rfl rfl)) rfl rfl rfl ?_) | (refine WL.step (OkP.bool_f (by decide) (ok_eqlB Tryz.underlying4 rfl rfl)) rfl rfl rfl ?_))
    all_goals (refine Go ?_; refine goP 10 ?_ TT.mk; refine Gg ?_; first | (refine WL.pass rfl rfl rfl ?_) | (refine Ld ?_))
    all_goals (refine Gg ?_; first | (refine WL.pass rfl rfl rfl ?_) | (refine Ld ?_))
    all_goals (first
                 | (refine WL.pass rfl rfl rfl ?_)
                 | (refine WL.call (vs := [_, _]) rfl (fun a w => Tryz.call122 a w) rfl (bytes_equal l1 l2 (ha.ext0 hx) (hb.ext0 hx)) rfl rfl rfl ?_
                    rintro _ hz ⟨rfl, _⟩
                    subst hz))
    all_goals (refine Go ?_; refine Gs [(4, _)] ?_; refine Gt ?_; exact ⟨by simp [Cel.pl], hx⟩)
set_option maxHeartbeats 2000000 in
set_option maxRecDepth 100000 in
theorem equalA_cel {h : Heap} {v w : Value} (l m : List Cel) (hl : Cels h v l) (hm : Cels h w m) :
    CallsH Tryz.prog 73 ⟨[v, w, .func (.func 74) ⟨[]⟩ ⟨[]⟩]⟩ h fun u h' => u = .bool (decide (l.map Cel.pl = m.map Cel.pl)) ∧ Ext No h h' := by
  obtain ⟨hr, ⟨hlm, A, c, rfl, _⟩, ho⟩ := hl
  obtain ⟨hs, ⟨hmm, B, d, rfl, _⟩, hp⟩ := hm
  unfold reachBytes at hlm hmm
  refine calls [(0, _), (1, _), (2, _)] Tryz.func73 rfl Tryz.ntmps73 rfl ⟨rfl, rfl, rfl, trivial⟩ ?_
  all_goals (refine WC.sr ?_; refine Go ?_; refine WC.seq ?_; refine WC.sr ?_; refine Go ?_; refine Gs [(0, _), (1, _), (2, _), (14, _)] ?_; refine goC 1 2 (Hb.mk fun hb => ?_) (Hb.mk fun hb => ?_))
  all_goals (first | (fail_if_success refine goB 1 ?_) | (
  refine goB 1 ?_
  all_goals (refine WC.sr ?_; refine Go ?_; refine Gs [(6, _)] ?_; refine Gt ?_)
  all_goals (first
              | exact ⟨by rw [decide_eq_false (fun e => by have := congrArg List.length e; simp only [List.length_map] at this; omega)], .refl _ _⟩
              | exact ⟨by rw [decide_eq_false (map_ne hy hz hyz)], hX5.trans hx6⟩
              | exact ⟨by rw [decide_eq_true (by rw [List.take_of_length_le (by omega), List.take_of_length_le (by omega)] at hn; exact hn)], hx1⟩)
  skip))
  all_goals (refine goB 2 ?_; refine WC.skip ?_; refine Gn ?_; refine WC.seq ?_; refine WC.sr ?_; refine Go ?_; refine WC.block ?_)
  -- loop 0: slots that turn [17], that stay [1, 2, 15, 16]
  all_goals (refine WC.loopG (X := Nat) (fun x => ([(17, In (x : Int))] : Fr)) [(1, _), (2, _), (15, _), (16, _)] (fun k h' => Ext No h h' ∧ k ≤ l.length ∧ l.length = m.length ∧ (l.take k).map Cel.pl = (m.take k).map Cel.pl) (fun k => l.length - k) (0) ⟨rfl, rfl, rfl, rfl, rfl, trivial⟩ (by exact ⟨.refl _ _, Nat.zero_le _, by omega, by simp⟩) ?_; rintro k h1 ⟨hx1, hk, hlen, hn⟩; refine WC.sub [(17, _), (1, _), (2, _), (15, _), (16, _)] ⟨rfl, rfl, rfl, rfl, rfl, trivial⟩ ?_; refine WC.sr ?_; refine Go ?_; refine WC.seq ?_; refine goC 3 4 (Hb.mk fun hb => ?_) (Hb.mk fun hb => ?_))
  all_goals (first | (fail_if_success refine goB 3 ?_) | (
  refine goB 3 ?_
  all_goals (refine WC.skip ?_)
  skip))
  all_goals (first | (fail_if_success refine goB 4 ?_) | (
  refine goB 4 ?_
  all_goals (refine WC.exit ?_; repeat' (with_reducible first | refine thenP_x ?_ | refine blockP_miss rfl ?_ | refine blockP_hit ?_ | refine blockP_n ?_ | refine thenP_n ?_))
  all_goals (refine Br.out (i := 1000) ?_)
  skip))
  all_goals (refine Gn ?_; first | (refine Br.keep ?_) | (refine WC.seq ?_))
  all_goals (first | (refine Br.keep ?_) | (refine WC.block ?_))
  all_goals (first | (refine Br.keep ?_) | (refine WC.sr ?_))
  all_goals (first
               | (refine Br.keep ?_)
               | (obtain ⟨bL, oL, hA, hbL, hat⟩ := Rd.at_ (hr.ext0 hx1) (by omega)
                  obtain ⟨bM, oM, hB, hbM, hbt⟩ := Rd.at_ (hs.ext0 hx1) (by omega)
                  obtain ⟨y, hy⟩ : ∃ y, l[k]? = some y := ⟨_, List.getElem?_eq_getElem (by omega)⟩
                  obtain ⟨z, hz⟩ : ∃ y, m[k]? = some y := ⟨_, List.getElem?_eq_getElem (by omega)⟩
                  have hyo := ho y (List.mem_of_getElem? hy)
                  have hzo := hp z (List.mem_of_getElem? hz)
                  have at1 : At h1 bL (oL + k * 2) y.cells := At.elem Cel.len hat hy
                  have at2 : At h1 bM (oM + k * 2) z.cells := At.elem Cel.len hbt hz
                  have one1 : ∀ v ∈ y.cells, v.oneCell' = true := by obtain ⟨A1, c1, e1, _⟩ := hyo.1; simp [Cel.cells, Value.oneCell', e1]
                  have one2 : ∀ v ∈ z.cells, v.oneCell' = true := by obtain ⟨A1, c1, e1, _⟩ := hzo.1; simp [Cel.cells, Value.oneCell', e1]))
  all_goals (first | (refine Br.keep ?_) | (refine WL.step (ok_move rfl) rfl rfl rfl ?_))
  all_goals (first | (refine Br.keep ?_) | (refine WL.step (ok_idxAddrA Tryz.underlying30 (fun w => Tryz.sizeOf87 w) rfl rfl rfl (by omega) (by first | rfl | assumption)) rfl rfl rfl ?_))
  all_goals (first | (refine Br.keep ?_) | (refine WL.step (ok_loadN (fun w => Tryz.isAgg87 w) (fun w => Tryz.sizeOf87 w) rfl rfl (by assumption)) rfl rfl rfl ?_))
  all_goals (first
               | (refine Br.keep ?_)
               | (refine WL.stepR (okE_alloc (fun w => Tryz.zeroValue87 w)) rfl rfl rfl ?_
                  rintro _ h2 ⟨b2, rfl, hg2, hb2, hx2⟩))
  all_goals (refine Go ?_)
  all_goals (first
               | (refine Br.keep ?_)
               | (refine WL.stepR0 (okE_storeW (fun w => Tryz.sizeOf87 w) rfl rfl rfl (by assumption) rfl one1) rfl rfl ?_
                  rintro _ h3 ⟨hb3, hx3⟩))
  all_goals (first | (refine Br.keep ?_) | (have hx13 : Ext No h1 h3 := hx2.trans' hx3 (fun q hq e => by omega)))
  all_goals (refine Gn ?_; first | (refine Br.keep ?_) | (refine Gs [(1, _), (2, _), (7, _), (8, _), (15, _), (16, _), (17, _)] ?_))
  all_goals (first | (refine Br.keep ?_) | (refine WC.sr ?_))
  all_goals (refine Go ?_; first | (refine Br.keep ?_) | (refine WL.step (ok_idxAddrA Tryz.underlying30 (fun w => Tryz.sizeOf87 w) rfl rfl rfl (by omega) (by first | rfl | assumption)) rfl rfl rfl ?_))
  all_goals (first | (refine Br.keep ?_) | (refine WL.step (ok_loadN (fun w => Tryz.isAgg87 w) (fun w => Tryz.sizeOf87 w) rfl rfl (by exact at2.ext hx13 nos)) rfl rfl rfl ?_))
  all_goals (first
               | (refine Br.keep ?_)
               | (refine WL.stepR (okE_alloc (fun w => Tryz.zeroValue87 w)) rfl rfl rfl ?_
                  rintro _ h4 ⟨b4, rfl, hg4, hb4, hx4⟩))
  all_goals (first
               | (refine Br.keep ?_)
               | (refine WL.stepR0 (okE_storeW (fun w => Tryz.sizeOf87 w) rfl rfl rfl (by assumption) rfl one2) rfl rfl ?_
                  rintro _ h5 ⟨hb5, hx5⟩))
  all_goals (first
               | (refine Br.keep ?_)
               | (have hx35 : Ext No h3 h5 := hx4.trans' hx5 (fun q hq e => by omega)
                  have hb3' := hx35.obj hb3 nos
                  have hX5 := hx1.trans (hx13.trans hx35)))
  all_goals (refine Gn ?_; first | (refine Br.keep ?_) | (refine Gs [(1, _), (2, _), (8, _), (9, _), (15, _), (16, _), (17, _)] ?_))
  all_goals (first | (refine Br.keep ?_) | (refine WC.sr ?_))
  all_goals (refine Go ?_; first | (refine Br.keep ?_) | (refine WL.step (ok_loadN (fun w => Tryz.isAgg87 w) (fun w => Tryz.sizeOf87 w) rfl rfl (by exact At.of_block hb3')) rfl rfl rfl ?_))
  all_goals (first | (refine Br.keep ?_) | (refine WL.step (ok_loadN (fun w => Tryz.isAgg87 w) (fun w => Tryz.sizeOf87 w) rfl rfl (by exact At.of_block hb5)) rfl rfl rfl ?_))
  all_goals (first
               | (refine Br.keep ?_)
               | (refine WL.callT (vs := [_, _]) rfl rfl (fun a w => Tryz.call74 a w) rfl (alikeA y z (hyo.ext0 hX5) (hzo.ext0 hX5)) rfl rfl rfl ?_
                  rintro _ h6 ⟨rfl, hx6⟩))
  all_goals (first
               | (refine Br.keep ?_)
               | (by_cases hyz : y.pl = z.pl
                  all_goals first | rw [decide_eq_true hyz] | rw [decide_eq_false hyz]))
  all_goals (refine Go ?_; first | (refine Br.keep ?_) | (refine Gs [(1, _), (2, _), (15, _), (16, _), (17, _), (30, _)] ?_))
  all_goals (first | (refine Br.keep ?_) | (refine goC 5 6 ?_ TT.mk))
  all_goals (first | (fail_if_success refine goB 5 ?_) | (
  refine goB 5 ?_
  all_goals (refine WC.sr ?_; refine Go ?_; refine Gs [(6, _)] ?_; refine Gt ?_)
  all_goals (first
              | exact ⟨by rw [decide_eq_false (fun e => by have := congrArg List.length e; simp only [List.length_map] at this; omega)], .refl _ _⟩
              | exact ⟨by rw [decide_eq_false (map_ne hy hz hyz)], hX5.trans hx6⟩
              | exact ⟨by rw [decide_eq_true (by rw [List.take_of_length_le (by omega), List.take_of_length_le (by omega)] at hn; exact hn)], hx1⟩)
  skip))
  all_goals (first | (fail_if_success refine goB 6 ?_) | (
  refine goB 6 ?_
  all_goals (refine WC.skip ?_)
  skip))
  all_goals (refine Gn ?_; first | (refine Br.keep ?_) | (refine WC.region ?_))
  all_goals (refine Go ?_; first | (refine Br.keep ?_) | (exact ⟨k + 1, ⟨rfl, rfl, rfl, rfl, rfl, trivial⟩, (by exact ⟨hX5.trans hx6, by omega, hlen, map_take hn hy hz hyz⟩), (by omega)⟩))
  all_goals (try (refine Br.mk (i := 1000) ?_))
  all_goals (refine Gn ?_; refine Gs [] ?_; refine WC.sr ?_; refine Go ?_; refine Gt ?_)
  all_goals (first
              | exact ⟨by rw [decide_eq_false (fun e => by have := congrArg List.length e; simp only [List.length_map] at this; omega)], .refl _ _⟩
              | exact ⟨by rw [decide_eq_false (map_ne hy hz hyz)], hX5.trans hx6⟩
              | exact ⟨by rw [decide_eq_true (by rw [List.take_of_length_le (by omega), List.take_of_length_le (by omega)] at hn; exact hn)], hx1⟩)
theorem _root_.Go.RK.CallsH.dec {P : Program} {k : FuncId} {args : Array Value} {h : Heap} {p : Prop} [Decidable p] {K : Heap → Prop} (hc : CallsH P k args h fun u h' => u = .bool (decide p) ∧ K h') :
    CallsH P k args h fun u h' => ((u = .bool true ∧ p) ∨ (u = .bool false ∧ ¬p)) ∧ K h' := hc.mono fun v h' q => by
  by_cases e : p
  · exact ⟨.inl ⟨by rw [q.1, decide_eq_true e], e⟩, q.2⟩
  · exact ⟨.inr ⟨by rw [q.1, decide_eq_false e], e⟩, q.2⟩
theorem _root_.Go.RK.CallsH.bl {P : Program} {k : FuncId} {args : Array Value} {h : Heap} {b : Bool} {K : Heap → Prop} (hc : CallsH P k args h fun u h' => u = .bool b ∧ K h') :
    CallsH P k args h fun u h' => ((u = .bool true ∧ b = true) ∨ (u = .bool false ∧ b = false)) ∧ K h' := hc.mono fun v h' q => by
  cases b
  · exact ⟨.inr ⟨q.1, rfl⟩, q.2⟩
  · exact ⟨.inl ⟨q.1, rfl⟩, q.2⟩
set_option maxHeartbeats 4000000 in
set_option maxRecDepth 100000 in
theorem sameA_back {h : Heap} (a b : Bk) (ha : a.ok h) (hb : b.ok h) :
    CallsH Tryz.prog 38 ⟨[.agg ⟨a.cells⟩, .agg ⟨b.cells⟩]⟩ h fun u h' => (∃ x, u = .bool x ∧ (x = true ↔ a.pl = b.pl)) ∧ Ext No h h' := by
  obtain ⟨k1, s1, t1, n1, v1, x1, y1, vo1, l1, vc1, c1, vr1, r1, vf1, f1⟩ := a
  obtain ⟨k2, s2, t2, n2, v2, x2, y2, vo2, l2, vc2, c2, vr2, r2, vf2, f2⟩ := b
  obtain ⟨⟨ao, hlo⟩, ⟨ac, hlc⟩, ar, af, hlf⟩ := ha
  obtain ⟨⟨bo, hmo⟩, ⟨bc, hmc⟩, br, bf, hmf⟩ := hb
  simp only at ao ac ar af bo bc br bf hlo hlc hlf hmo hmc hmf
  obtain ⟨Ao, co, rfl, _⟩ := id ao
  obtain ⟨Bo, do_, rfl, _⟩ := id bo
  dsimp only [Bk.cells]
  have hpc : (k1 = k2 ∧ s1 = s2 ∧ x1 = x2 ∧ y1 = y2) ∨ k1 ≠ k2 ∨ (k1 = k2 ∧ s1 ≠ s2) ∨ (k1 = k2 ∧ s1 = s2 ∧ x1 ≠ x2) ∨ (k1 = k2 ∧ s1 = s2 ∧ x1 = x2 ∧ y1 ≠ y2) := by omega
  by_cases ht : t1 = t2 ∧ n1 = n2 ∧ v1 = v2
  all_goals try obtain ⟨rfl, rfl, rfl⟩ := ht
  all_goals rcases hpc with ⟨rfl, rfl, rfl, rfl⟩ | q | ⟨rfl, q⟩ | ⟨rfl, rfl, q⟩ | ⟨rfl, rfl, rfl, q⟩
  all_goals
    refine calls [(0, _), (1, _)] Tryz.func38 rfl Tryz.ntmps38 rfl ⟨rfl, rfl, trivial⟩ ?_
    all_goals (refine WC.sr ?_; refine WL.stepR (okE_box rfl) rfl rfl rfl ?_; rintro _ h1 ⟨b1, rfl, hg1, hb1, hx1⟩; refine WL.stepR (okE_box rfl) rfl rfl rfl ?_; rintro _ h2 ⟨b2, rfl, hg2, hb2, hx2⟩; have hb1' := hx2.obj hb1 nos; have hx := hx1.trans hx2; refine Go ?_; refine WC.sr ?_; refine Go ?_; refine Ld ?_; refine Go ?_; refine Ld ?_; refine Go ?_; refine Ld ?_; refine WL.step (ok_buildF (vs := [_, _, _]) (cs := [_, _, _]) (fun | [a0, a1, a2] => [a0, a1, a2] | _ => []) rfl rfl (by kernel_rfl)) rfl rfl rfl ?_; refine Go ?_; refine Ld ?_; refine Go ?_; refine Ld ?_; refine Go ?_; refine Ld ?_; refine WL.step (ok_buildF (vs := [_, _, _]) (cs := [_, _, _]) (fun | [a0, a1, a2] => [a0, a1, a2] | _ => []) rfl rfl (by kernel_rfl)) rfl rfl rfl ?_; first | (refine WL.step (OkP.bool_t rfl (ok_eqlA (us := [t1, n1, v1]) (vs := [t1, n1, v1]) Tryz.underlying121 (show Tryz.prog.info? 9 = some Tryz.t9 by kernel_rfl) Tryz.underlying9 (by kernel_rfl) (by kernel_rfl) (by kernel_rfl) rfl rfl rfl rfl)) rfl rfl rfl ?_) | (refine WL.step (OkP.bool_f (fun e => ht (by simpa using e)) (ok_eqlA (us := [t1, n1, v1]) (vs := [t2, n2, v2]) Tryz.underlying121 (show Tryz.prog.info? 9 = some Tryz.t9 by kernel_rfl) Tryz.underlying9 (by kernel_rfl) (by kernel_rfl) (by kernel_rfl) rfl rfl rfl rfl)) rfl rfl rfl ?_))
    all_goals (refine Go ?_; refine Gs [(2, _), (3, _), (5, _)] ?_; refine WC.sr ?_; refine Go ?_; refine Ld ?_; refine Go ?_; refine Ld ?_; refine Go ?_; refine goP 28 ?_ TT.mk; refine Gg ?_; first | (refine WL.pass rfl rfl rfl ?_) | (refine Ld ?_))
    all_goals (refine Gg ?_; first | (refine WL.pass rfl rfl rfl ?_) | (refine Ld ?_))
    all_goals (refine Gg ?_; refine Go ?_; refine goP 35 ?_ TT.mk; refine Gg ?_; first | (refine WL.pass rfl rfl rfl ?_) | (refine Ld ?_))
    all_goals (refine Gg ?_; first | (refine WL.pass rfl rfl rfl ?_) | (refine Ld ?_))
    all_goals (refine Gg ?_; refine Go ?_; refine goP 42 ?_ TT.mk; refine Gg ?_; first | (refine WL.pass rfl rfl rfl ?_) | (refine Ld ?_))
    all_goals (refine Gg ?_; first | (refine WL.pass rfl rfl rfl ?_) | (refine Ld ?_))
    all_goals (refine Gg ?_; refine Go ?_; refine Gs [(2, _), (3, _), (5, _), (6, _)] ?_; refine WC.sr ?_; refine Go ?_; refine Ld ?_; refine Go ?_; refine Ld ?_; refine WL.call (vs := [_, _]) rfl (fun a w => Tryz.call70 a w) rfl ((equal_int l1 l2 (ao.ext0 hx) (bo.ext0 hx) hlo).dec) rfl rfl rfl ?_; rintro _ _ ⟨⟨rfl, ho⟩ | ⟨rfl, ho⟩, rfl⟩)
    all_goals (refine Go ?_; refine goP 54 ?_ TT.mk; refine Gg ?_; first | (refine WL.pass rfl rfl rfl ?_) | (refine Ld ?_))
    all_goals (refine Gg ?_; first | (refine WL.pass rfl rfl rfl ?_) | (refine Ld ?_))
    all_goals (first
                 | (refine WL.pass rfl rfl rfl ?_)
                 | (refine WL.call (vs := [_, _]) rfl (fun a w => Tryz.call71 a w) rfl ((eqlA_col c1 c2 (ac.ext0 hx) (bc.ext0 hx) hlc hmc).dec) rfl rfl rfl ?_
                    rintro _ _ ⟨⟨rfl, hc⟩ | ⟨rfl, hc⟩, rfl⟩))
    all_goals (refine Go ?_; refine goP 61 ?_ TT.mk; refine Gg ?_; first | (refine WL.pass rfl rfl rfl ?_) | (refine Ld ?_))
    all_goals (refine Gg ?_; first | (refine WL.pass rfl rfl rfl ?_) | (refine Ld ?_))
    all_goals (first
                 | (refine WL.pass rfl rfl rfl ?_)
                 | (refine WL.call (vs := [_, _]) rfl (fun a w => Tryz.call72 a w) rfl ((eqlA_fld f1 f2 (af.ext0 hx) (bf.ext0 hx) hlf hmf).dec) rfl rfl rfl ?_
                    rintro _ _ ⟨⟨rfl, hf⟩ | ⟨rfl, hf⟩, rfl⟩))
    all_goals (refine Go ?_; refine Gs [(2, _), (3, _), (5, _), (6, _), (7, _)] ?_; refine WC.sr ?_; refine Go ?_; refine goP 69 ?_ TT.mk; refine Gg ?_; refine Go ?_; refine goP 72 ?_ TT.mk; refine Gg ?_; refine Go ?_; refine goP 75 ?_ TT.mk; refine Gg ?_; first | (refine WL.pass rfl rfl rfl ?_) | (refine Ld ?_))
    all_goals (refine Gg ?_; first | (refine WL.pass rfl rfl rfl ?_) | (refine Ld ?_))
    all_goals (first
                 | (refine WL.pass rfl rfl rfl ?_)
                 | (refine WL.call (vs := [_, _, _]) rfl (fun a w => Tryz.call73 a w) rfl (equalA_cel _ _ (ar.ext0 hx) (br.ext0 hx)) rfl rfl rfl ?_
                    rintro _ h3 ⟨rfl, hx3⟩))
    all_goals (refine Go ?_; refine Gs [(4, _)] ?_; refine Gt ?_)
    all_goals (first
                | (refine ⟨⟨false, rfl, ⟨fun z => (by cases z), fun z => ?_⟩⟩, hx⟩
                   exfalso
                   simp only [Bk.pl, Prod.mk.injEq] at z
                   obtain ⟨z1, z2, z3, z4, z5, z6, z7, z8, z9, z10, z11⟩ := z
                   first | exact ht ⟨z3, z4, z5⟩ | exact q z1 | exact q z2 | exact q z6 | exact q z7 | exact ho z8 | exact hc z9 | exact hf z11)
                | (refine ⟨⟨_, rfl, ?_⟩, hx.trans hx3⟩
                   simp [Bk.pl, ho, hc, hf]))
end Go.Proofs.YtbokngiajfdanaaGreatDoor


/-
  REPLIES (layer 7): the document's compare and check, of any reply that is short.
-/
namespace Go.Proofs.YtbokngiajfdanaaGreatDoor
open Go Go.RK

/-- A server's kinds. -/
def KnownK (k : Int) : Prop := k = 82 ∨ k = 83 ∨ k = 75 ∨ k = 90 ∨ k = 49 ∨ k = 50 ∨ k = 51 ∨ k = 110 ∨ k = 115 ∨ k = 73 ∨ k = 67 ∨ k = 68 ∨ k = 84 ∨ k = 116 ∨ k = 69 ∨ k = 78
theorem known_iff (k : UInt8) : kindsB.contains k = true ↔ KnownK (k.toNat : Int) := by
  simp only [kindsB, List.contains_cons, List.contains_nil, Bool.or_eq_true, beq_iff_eq, ← UInt8.toNat_inj, KnownK, Bool.or_false]
  simp
  omega
set_option maxHeartbeats 2000000 in
set_option maxRecDepth 100000 in
theorem known_any {h : Heap} (k : Int) (h0 : 0 ≤ k ∧ k ≤ 255) : CallsH Tryz.prog 27 ⟨[.int .u8 k]⟩ h fun u h' => (∃ x, u = .bool x ∧ (x = true ↔ KnownK k)) ∧ Ext No h h' := by
  obtain ⟨c, rfl⟩ : ∃ c : UInt8, k = (c.toNat : Int) := ⟨UInt8.ofNat k.toNat, by rw [UInt8.toNat_ofNat']; omega⟩
  have e1 := Lib.contains_iff_indexByte [82, 83, 75, 90, 49, 50, 51, 110, 115, 73, 67, 68, 84, 116, 69, 78] c
  refine calls [(0, _)] Tryz.func27 rfl Tryz.ntmps27 rfl ⟨rfl, trivial⟩ ?_
  all_goals (refine WC.sr ?_; refine Go ?_; refine WC.sr ?_; refine WL.stepR (okE_buildSlice (vs := [_, _, _, _, _, _, _, _, _, _, _, _, _, _, _, _]) (cs := [_, _, _, _, _, _, _, _, _, _, _, _, _, _, _, _]) (fun | [a0, a1, a2, a3, a4, a5, a6, a7, a8, a9, a10, a11, a12, a13, a14, a15] => [a0, a1, a2, a3, a4, a5, a6, a7, a8, a9, a10, a11, a12, a13, a14, a15] | _ => []) Tryz.underlying85 rfl rfl (by kernel_rfl)) rfl rfl rfl ?_; rintro _ h1 ⟨b1, rfl, hg1, hb1, hx1⟩; refine WL.stepR (okE_convSS Tryz.underlying85 Tryz.underlying5 rfl (by assumption)) rfl rfl rfl ?_; rintro _ h2 ⟨rfl, ⟨z2, hb2⟩, hx2⟩; refine Go ?_; refine WL.call (vs := [_, _]) rfl (fun a w => Tryz.call60 a w) rfl (indexByte_bys [82, 83, 75, 90, 49, 50, 51, 110, 115, 73, 67, 68, 84, 116, 69, 78] c (rd_blk hb2 rfl) (by simp)) rfl rfl rfl ?_; rintro _ hz ⟨rfl, _⟩; subst hz; refine WL.step (ok_geq rfl rfl) rfl rfl rfl ?_; refine Go ?_; refine Gs [(2, _)] ?_; refine Gt ?_; exact ⟨⟨_, rfl, by rw [← e1]; exact known_iff c⟩, hx1.trans' hx2 (fun q hq e => by omega)⟩)
set_option maxHeartbeats 2000000 in
set_option maxRecDepth 100000 in
theorem clean07 {h : Heap} (s : List UInt8) (hm : s.length ≤ 1000000) : CallsH Tryz.prog 164 ⟨[St s]⟩ h fun u h' => u = .bool (cleanB s) ∧ h' = h := by
  have hci : cleanB s = true ↔ ∀ c ∈ s, c ≠ 0 := by
    unfold cleanB
    rw [Bool.not_eq_true', ← Bool.not_eq_true, List.contains_iff_mem]
    exact ⟨fun z c hc e => z (e ▸ hc), fun z hc => z 0 hc rfl⟩
  refine calls [(0, _)] Tryz.func164 rfl Tryz.ntmps164 rfl ⟨rfl, trivial⟩ ?_
  all_goals (refine WC.sr ?_; refine Go ?_; refine WC.seq ?_; refine WC.sr ?_; refine Go ?_; refine WC.block ?_)
  -- loop 0: slots that turn [3], that stay [0]
  all_goals (refine WC.loopG (X := Nat) (fun x => ([(3, In (x : Int))] : Fr)) [(0, _)] (fun k h' => h = h' ∧ k ≤ s.length ∧ ∀ c ∈ s.take k, c ≠ 0) (fun k => s.length - k) (0) ⟨rfl, rfl, trivial⟩ (by exact ⟨rfl, Nat.zero_le _, fun c hc => by cases hc⟩) ?_; rintro k h2 ⟨e, hk, hn⟩; subst e; refine WC.sub [(3, _), (0, _)] ⟨rfl, rfl, trivial⟩ ?_; refine WC.seq ?_; refine WC.sr ?_; refine Go ?_; refine goC 1 2 (Hb.mk fun hb => ?_) (Hb.mk fun hb => ?_))
  all_goals (first | (fail_if_success refine goB 1 ?_) | (
  refine goB 1 ?_
  all_goals (refine WC.skip ?_)
  skip))
  all_goals (first | (fail_if_success refine goB 2 ?_) | (
  refine goB 2 ?_
  all_goals (refine WC.exit ?_; repeat' (with_reducible first | refine thenP_x ?_ | refine blockP_miss rfl ?_ | refine blockP_hit ?_ | refine blockP_n ?_ | refine thenP_n ?_))
  all_goals (refine Br.out (i := 1000) ?_)
  skip))
  all_goals (refine Gn ?_; first | (refine Br.keep ?_) | (refine Gs [(0, _), (3, _)] ?_))
  all_goals (first | (refine Br.keep ?_) | (refine WC.seq ?_))
  all_goals (first | (refine Br.keep ?_) | (refine WC.block ?_))
  all_goals (first | (refine Br.keep ?_) | (refine WC.seq ?_))
  all_goals (first | (refine Br.keep ?_) | (obtain ⟨y, hy⟩ : ∃ y, s[k]? = some y := ⟨_, List.getElem?_eq_getElem (by omega)⟩))
  all_goals (first | (refine Br.keep ?_) | (refine WC.region ?_))
  all_goals (refine Go ?_; first | (refine Br.keep ?_) | (refine WL.step (ok_idxS Tryz.underlying9 rfl rfl (by omega) (by assumption)) rfl rfl rfl ?_))
  all_goals (refine Go ?_; first | (refine Br.keep ?_) | (refine goC 3 4 (Hb.mk fun hb => ?_) (Hb.mk fun hb => ?_)))
  all_goals (first | (fail_if_success refine goB 3 ?_) | (
  refine goB 3 ?_
  all_goals (refine WC.sr ?_; refine Go ?_; refine Gs [(2, _)] ?_; refine Gt ?_)
  all_goals (first
              | (refine ⟨congrArg Value.bool ?_, rfl⟩; symm; rw [hci]; rw [List.take_of_length_le (by omega)] at hn; exact hn)
              | (refine ⟨congrArg Value.bool ?_, rfl⟩; cases hq : cleanB s; rfl; exact absurd (UInt8.toNat_inj.1 (by simpa using hb)) (hci.1 hq _ (List.mem_of_getElem? hy))))
  skip))
  all_goals (first | (fail_if_success refine goB 4 ?_) | (
  refine goB 4 ?_
  all_goals (refine WC.skip ?_)
  skip))
  all_goals (refine Gn ?_; first | (refine Br.keep ?_) | (refine Gs [(0, _), (3, _)] ?_))
  all_goals (first | (refine Br.keep ?_) | (refine WC.region ?_))
  all_goals (refine Go ?_; first | (refine Br.keep ?_) | (exact ⟨k + 1, ⟨rfl, rfl, trivial⟩, (by exact ⟨rfl, by omega, fun c hc => by rw [List.take_add_one, hy] at hc; simp only [Option.toList_some, List.mem_append, List.mem_singleton] at hc; rcases hc with hc | rfl; exact hn c hc; exact (fun e => by subst e; simp at *)⟩), (by omega)⟩))
  all_goals (try (refine Br.mk (i := 1000) ?_))
  all_goals (refine Gn ?_; refine Gs [] ?_; refine WC.sr ?_; refine Go ?_; refine Gt ?_)
  all_goals (first
              | (refine ⟨congrArg Value.bool ?_, rfl⟩; symm; rw [hci]; rw [List.take_of_length_le (by omega)] at hn; exact hn)
              | (refine ⟨congrArg Value.bool ?_, rfl⟩; cases hq : cleanB s; rfl; exact absurd (UInt8.toNat_inj.1 (by simpa using hb)) (hci.1 hq _ (List.mem_of_getElem? hy))))
theorem all_take {α : Type} {p : α → Prop} {l : List α} {k : Nat} {y : α} (hy : l[k]? = some y) (hn : ∀ c ∈ l.take k, p c) (hp : p y) : ∀ c ∈ l.take (k + 1), p c := fun c hc => by
  rw [List.take_add_one, hy] at hc
  simp only [Option.toList_some, List.mem_append, List.mem_singleton] at hc
  rcases hc with hc | rfl
  · exact hn c hc
  · exact hp
set_option maxHeartbeats 2000000 in
set_option maxRecDepth 100000 in
theorem values07 {h : Heap} {v : Value} (l : List Cel) (hl : Cels h v l) (hm : l.length ≤ 65535) (ht : ∀ c ∈ l, c.bytes.length ≤ 1048576) :
    CallsH Tryz.prog 166 ⟨[v]⟩ h fun u h' => u = .bool (decide (∀ c ∈ l, c.okB)) ∧ h' = h := by
  obtain ⟨hr, ⟨_, A, c, rfl, _⟩, ho⟩ := hl
  refine calls [(0, _)] Tryz.func166 rfl Tryz.ntmps166 rfl ⟨rfl, trivial⟩ ?_
  all_goals (refine WC.sr ?_; refine Go ?_; refine WC.seq ?_; refine WC.sr ?_; refine Go ?_; refine goC 1 2 ?_ TT.mk; refine goB 2 ?_; refine WC.skip ?_; refine Gn ?_; refine Gs [(0, _)] ?_; refine WC.seq ?_; refine WC.sr ?_; refine Go ?_; refine WC.block ?_)
  -- loop 0: slots that turn [3], that stay [0]
  all_goals (refine WC.loopG (X := Nat) (fun x => ([(3, In (x : Int))] : Fr)) [(0, _)] (fun k h' => h' = h ∧ k ≤ l.length ∧ ∀ c ∈ l.take k, c.okB) (fun k => l.length - k) (0) ⟨rfl, rfl, trivial⟩ (by exact ⟨rfl, Nat.zero_le _, by simp⟩) ?_; rintro k h1 ⟨hz, hk, hn⟩; subst h1; refine WC.sub [(3, _), (0, _)] ⟨rfl, rfl, trivial⟩ ?_; refine WC.seq ?_; refine WC.sr ?_; refine Go ?_; refine goC 3 4 (Hb.mk fun hb => ?_) (Hb.mk fun hb => ?_))
  all_goals (first | (fail_if_success refine goB 3 ?_) | (
  refine goB 3 ?_
  all_goals (refine WC.skip ?_)
  skip))
  all_goals (first | (fail_if_success refine goB 4 ?_) | (
  refine goB 4 ?_
  all_goals (refine WC.exit ?_; repeat' (with_reducible first | refine thenP_x ?_ | refine blockP_miss rfl ?_ | refine blockP_hit ?_ | refine blockP_n ?_ | refine thenP_n ?_))
  all_goals (refine Br.out (i := 1000) ?_)
  skip))
  all_goals (refine Gn ?_; first | (refine Br.keep ?_) | (refine Gs [(0, _), (3, _)] ?_))
  all_goals (first | (refine Br.keep ?_) | (refine WC.seq ?_))
  all_goals (first | (refine Br.keep ?_) | (refine WC.block ?_))
  all_goals (first | (refine Br.keep ?_) | (refine WC.sr ?_))
  all_goals (first
               | (refine Br.keep ?_)
               | (obtain ⟨bL, oL, hA, hbL, hat⟩ := Rd.at_ hr (by omega)
                  obtain ⟨y, hy⟩ : ∃ y, l[k]? = some y := ⟨_, List.getElem?_eq_getElem (by omega)⟩
                  have hyl := ht y (List.mem_of_getElem? hy)
                  have hyo := (ho y (List.mem_of_getElem? hy)).1
                  have at1 : At h bL (oL + k * 2) y.cells := At.elem Cel.len hat hy
                  obtain ⟨yn, yv, yb⟩ := y
                  dsimp only [Cel.cells] at at1 hyl hyo
                  obtain ⟨yA, yc, rfl, _⟩ := id hyo
                  cases yn
                  all_goals by_cases c2 : yb.length = 0))
  all_goals (first | (refine Br.keep ?_) | (refine WL.step (ok_move rfl) rfl rfl rfl ?_))
  all_goals (refine Go ?_; first | (refine Br.keep ?_) | (refine WL.step (ok_idxAddrA Tryz.underlying30 (fun w => Tryz.sizeOf87 w) rfl rfl rfl (by omega) (by first | rfl | assumption)) rfl rfl rfl ?_))
  all_goals (refine Go ?_; first | (refine Br.keep ?_) | (refine WL.ld rfl (by first | exact at1.get 0 rfl rfl | assumption | exact cell_blk (by assumption) rfl) rfl rfl rfl ?_))
  all_goals (refine Go ?_; first | (refine Br.keep ?_) | (refine goP 18 ?_ TT.mk))
  all_goals (refine Gg ?_; first | (refine Br.keep ?_) | (first | (refine WL.pass rfl rfl rfl ?_) | (refine WL.step (ok_idxAddrA Tryz.underlying30 (fun w => Tryz.sizeOf87 w) rfl rfl rfl (by omega) (by first | rfl | assumption)) rfl rfl rfl ?_)))
  all_goals (refine Gg ?_; first | (refine Br.keep ?_) | (first | (refine WL.pass rfl rfl rfl ?_) | (refine WL.ld rfl (by first | exact at1.get 1 rfl rfl | assumption | exact cell_blk (by assumption) rfl) rfl rfl rfl ?_)))
  all_goals (refine Gg ?_; refine Go ?_; first | (refine Br.keep ?_) | (refine goP 27 ?_ TT.mk))
  all_goals (refine Gg ?_; first | (refine Br.keep ?_) | (first | (refine WL.pass rfl rfl rfl ?_) | (refine WL.step (ok_idxAddrA Tryz.underlying30 (fun w => Tryz.sizeOf87 w) rfl rfl rfl (by omega) (by first | rfl | assumption)) rfl rfl rfl ?_)))
  all_goals (refine Gg ?_; first | (refine Br.keep ?_) | (first | (refine WL.pass rfl rfl rfl ?_) | (refine WL.ld rfl (by first | exact at1.get 1 rfl rfl | assumption | exact cell_blk (by assumption) rfl) rfl rfl rfl ?_)))
  all_goals (refine Gg ?_; refine Go ?_; first | (refine Br.keep ?_) | (refine Gs [(0, _), (3, _), (35, _)] ?_))
  all_goals (first | (refine Br.keep ?_) | (refine goC 5 6 ?_ TT.mk))
  all_goals (first | (fail_if_success refine goB 5 ?_) | (
  refine goB 5 ?_
  all_goals (refine WC.sr ?_; refine Go ?_; refine Gt ?_)
  all_goals (first
              | exact ⟨congrArg Value.bool (decide_eq_true (by rw [List.take_of_length_le (by omega)] at hn; exact hn)).symm, rfl⟩
              | (refine ⟨congrArg Value.bool (decide_eq_false (fun z => ?_)).symm, rfl⟩
                 obtain ⟨d1, d2⟩ := z _ (List.mem_of_getElem? hy)
                 first | exact c2 (d1 rfl) | (exfalso; omega)))
  skip))
  all_goals (first | (fail_if_success refine goB 6 ?_) | (
  refine goB 6 ?_
  all_goals (refine WC.skip ?_)
  skip))
  all_goals (refine Gn ?_; first | (refine Br.keep ?_) | (refine WC.region ?_))
  all_goals (refine Go ?_; first | (refine Br.keep ?_) | (exact ⟨k + 1, ⟨rfl, rfl, trivial⟩, (by exact ⟨rfl, by omega, all_take hy hn ⟨(fun z => by first | exact c2 | cases z), hyl⟩⟩), (by omega)⟩))
  all_goals (try (refine Br.mk (i := 1000) ?_))
  all_goals (refine Gn ?_; refine Gs [] ?_; refine WC.sr ?_; refine Go ?_; refine Gt ?_)
  all_goals (first
              | exact ⟨congrArg Value.bool (decide_eq_true (by rw [List.take_of_length_le (by omega)] at hn; exact hn)).symm, rfl⟩
              | (refine ⟨congrArg Value.bool (decide_eq_false (fun z => ?_)).symm, rfl⟩
                 obtain ⟨d1, d2⟩ := z _ (List.mem_of_getElem? hy)
                 first | exact c2 (d1 rfl) | (exfalso; omega)))
end Go.Proofs.YtbokngiajfdanaaGreatDoor


/-
  REPLIES (layer 7): whether a reply may be, of any that is short: back.Check and the document's.
-/
namespace Go.Proofs.YtbokngiajfdanaaGreatDoor
open Go Go.RK

/-- Short, with room for names that were replaced. -/
structure Bk.mid (b : Bk) : Prop where
  oids : b.oids.length ≤ 100
  cols : b.cols.length ≤ 100
  row : b.row.length ≤ 100
  fields : b.fields.length ≤ 100
  names : ∀ c ∈ b.cols, c.nm.length ≤ 1000
  cells : ∀ c ∈ b.row, c.bytes.length ≤ 1000
  texts : ∀ f ∈ b.fields, f.t.length ≤ 200000
  tag : b.tag.length ≤ 1000
  name : b.name.length ≤ 1000
  value : b.value.length ≤ 1000
instance (b : Bk) : Decidable b.stOk := by unfold Bk.stOk; exact inferInstance
theorem st_cases (k st : Int) : k ≠ 90 ∨ (k = 90 ∧ st = 73) ∨ (k = 90 ∧ st = 84) ∨ (k = 90 ∧ st = 69) ∨ (k = 90 ∧ st ≠ 73 ∧ st ≠ 84 ∧ st ≠ 69) := by omega
set_option maxHeartbeats 2000000 in
set_option maxRecDepth 100000 in
theorem status_any {h : Heap} (b : Bk) : CallsH Tryz.prog 37 ⟨[.agg ⟨b.cells⟩]⟩ h fun u h' => u = .bool (decide b.stOk) ∧ Ext No h h' := by
  obtain ⟨k, st, t, n, v, x, y, vo, lo, vc, lc, vr, lr, vf, lf⟩ := b
  dsimp only [Bk.cells]
  rcases st_cases k st with q | ⟨q, q1⟩ | ⟨q, q1⟩ | ⟨q, q1⟩ | ⟨q, q1, q2, q3⟩
  all_goals
    refine calls [(0, _)] Tryz.func37 rfl Tryz.ntmps37 rfl ⟨rfl, trivial⟩ ?_
    all_goals (refine WC.sr ?_; refine WL.stepR (okE_box rfl) rfl rfl rfl ?_; rintro _ h1 ⟨b1, rfl, hg1, hb1, hx1⟩; refine Go ?_; refine WC.sr ?_; refine Go ?_; refine Ld ?_; refine Go ?_; refine goP 6 ?_ TT.mk; refine Gg ?_; first | (refine WL.pass rfl rfl rfl ?_) | (refine Ld ?_))
    all_goals (refine Gg ?_; refine Go ?_; refine goP 11 ?_ TT.mk; refine Gg ?_; first | (refine WL.pass rfl rfl rfl ?_) | (refine Ld ?_))
    all_goals (refine Gg ?_; refine Go ?_; refine goP 16 ?_ TT.mk; refine Gg ?_; first | (refine WL.pass rfl rfl rfl ?_) | (refine Ld ?_))
    all_goals (refine Gg ?_; refine Go ?_; refine Gs [(2, _)] ?_; refine Gt ?_)
    all_goals (refine ⟨congrArg Value.bool ?_, hx1⟩
               first
                | exact (decide_eq_true (p := Bk.stOk _) (by unfold Bk.stOk; simp only; omega)).symm
                | exact (decide_eq_false (p := Bk.stOk _) (by unfold Bk.stOk; simp only; omega)).symm)
theorem may_kind {k : Int} (h0 : 0 ≤ k ∧ k ≤ 255) : (∃ c : UInt8, Value.int .u8 k = By c ∧ kindsB.contains c = true) ↔ KnownK k := by
  obtain ⟨c, rfl⟩ : ∃ c : UInt8, k = (c.toNat : Int) := ⟨UInt8.ofNat k.toNat, by rw [UInt8.toNat_ofNat']; omega⟩
  rw [← known_iff]
  constructor
  · rintro ⟨d, e, hd⟩
    have : c = d := by simp only [By, Value.int.injEq, true_and] at e; exact UInt8.toNat_inj.1 (by omega)
    rw [this]; exact hd
  · exact fun hd => ⟨c, rfl, hd⟩
theorem all_dec {α : Type} {p : α → Prop} [DecidablePred p] {l : List α} : (l.all fun c => decide (p c)) = true ↔ ∀ c ∈ l, p c := by simp
theorem oids_ok {l : List Int} : l.all oidB = true ↔ ∀ n ∈ l, 0 ≤ n ∧ n ≤ 4294967295 := by simp [oidB]
theorem oidB_ok {n : Int} : oidB n = true ↔ 0 ≤ n ∧ n ≤ 4294967295 := by simp [oidB]
set_option maxHeartbeats 4000000 in
set_option maxRecDepth 100000 in
theorem checkA_back {h : Heap} (b : Bk) (hb : b.ok h) (hk0 : 0 ≤ b.kind ∧ b.kind ≤ 255) (hmd : b.mid) :
    CallsH Tryz.prog 15 ⟨[.agg ⟨b.cells⟩]⟩ h fun u h' => (∃ e, u = In e ∧ (e = 0 ↔ b.may)) ∧ Ext No h h' := by
  have hof := fun {h' : Heap} (hx : Ext No h h') => of_back (h := h') b (hb.ext0 hx)
  have hst := fun {h' : Heap} => (status_any (h := h') b).dec
  have hsa := fun {h' : Heap} (hx : Ext No h h') => sameA_back (h := h') b (ofB b) (hb.ext0 hx) (ofB_ok (hb.ext0 hx))
  have hmk := may_kind hk0
  have hyes : KnownK b.kind → cleanB b.tag = true → cleanB b.name = true → cleanB b.value = true → (∀ c ∈ b.cols, c.okB) → (∀ c ∈ b.fields, c.okB) → (∀ c ∈ b.row, c.okB) → (∀ n ∈ b.oids, 0 ≤ n ∧ n ≤ 4294967295) → (0 ≤ b.n ∧ b.n ≤ 4294967295) → (0 ≤ b.m ∧ b.m ≤ 4294967295) → b.stOk → b.pl = (ofB b).pl → b.may := fun a1 a2 a3 a4 a5 a6 a7 a8 a9 a10 a11 a12 =>
    ⟨hmk.2 a1, a2, a3, a4, ⟨by have := hmd.cols; omega, a5⟩, ⟨by have := hmd.fields; omega, a6⟩, ⟨by have := hmd.row; omega, a7⟩, ⟨by have := hmd.oids; omega, a8⟩, a9, a10, a11, a12.symm⟩
  have hnk : ¬ KnownK b.kind → ¬ b.may := fun a z => a (hmk.1 z.kind)
  have hn1 : cleanB b.tag = false → ¬ b.may := fun a z => by rw [z.tag] at a; cases a
  have hn2 : cleanB b.name = false → ¬ b.may := fun a z => by rw [z.name] at a; cases a
  have hn3 : cleanB b.value = false → ¬ b.may := fun a z => by rw [z.value] at a; cases a
  have hn4 : (b.cols.all fun c => decide c.okB) = false → ¬ b.may := fun a z => by rw [all_dec.2 z.cols.2] at a; cases a
  have hn5 : (b.fields.all fun c => decide c.okB) = false → ¬ b.may := fun a z => by rw [all_dec.2 z.fields.2] at a; cases a
  have hn6 : (b.row.all fun c => decide c.okB) = false → ¬ b.may := fun a z => by rw [all_dec.2 z.row.2] at a; cases a
  have hn7 : b.oids.all oidB = false → ¬ b.may := fun a z => by rw [oids_ok.2 z.oids.2] at a; cases a
  have hn8 : oidB b.n = false → ¬ b.may := fun a z => by rw [oidB_ok.2 z.n] at a; cases a
  have hn9 : oidB b.m = false → ¬ b.may := fun a z => by rw [oidB_ok.2 z.m] at a; cases a
  have hn10 : ¬ b.stOk → ¬ b.may := fun a z => a z.st
  have hn11 : ¬ b.pl = (ofB b).pl → ¬ b.may := fun a z => a z.own.symm
  generalize hob : ofB b = ob at hof hsa hyes hn11
  generalize b.may = BM at hyes hnk hn1 hn2 hn3 hn4 hn5 hn6 hn7 hn8 hn9 hn10 hn11 ⊢
  obtain ⟨ho, hc, hr, hf⟩ := hb
  obtain ⟨md1, md2, md3, md4, md5, md6, md7, md8, md9, md10⟩ := hmd
  generalize hPL : b.pl = PL at hsa hyes hn11
  generalize hST : b.stOk = ST at hst hyes hn10
  obtain ⟨k, st, t, n, v, x, y, vo, lo, vc, lc, vr, lr, vf, lf⟩ := b
  simp only at hk0 ho hc hr hf md1 md2 md3 md4 md5 md6 md7 md8 md9 md10 hyes hnk hn1 hn2 hn3 hn4 hn5 hn6 hn7 hn8 hn9
  dsimp only [Bk.cells] at hof hst hsa ⊢
  refine calls [(0, _)] Tryz.func15 rfl Tryz.ntmps15 rfl ⟨rfl, trivial⟩ ?_
  all_goals (refine WC.sr ?_; refine WL.stepR (okE_box rfl) rfl rfl rfl ?_; rintro _ g1 ⟨b1, rfl, hg1, hb1, hx1⟩; refine Go ?_; refine WC.seq ?_; refine WC.sr ?_; refine Go ?_; refine Ld ?_; refine WL.call (vs := [_]) rfl (fun a w => Tryz.call27 a w) rfl (known_any k hk0) rfl rfl rfl ?_; rintro _ g2 ⟨⟨kx, rfl, hkx⟩, hx2⟩; have hb2 := hx2.obj hb1 nos; have hX2 := hx1.trans hx2; cases kx)
  all_goals (refine Go ?_; refine Gs [(1, _), (8, _)] ?_; refine goC 1 2 ?_ TT.mk)
  all_goals (first | (fail_if_success refine goB 1 ?_) | (
  refine goB 1 ?_
  all_goals (refine WC.sr ?_; refine Go ?_; refine Gt ?_)
  all_goals (first
              | exact ⟨⟨0, rfl, ⟨fun _ => hyes (hkx.1 rfl) c1 c2 c3 (all_dec.1 c4) (all_dec.1 c5) (all_dec.1 c6) (oids_ok.1 c7) (oidB_ok.1 c8) (oidB_ok.1 c9) c10 (hsx.1 rfl), fun _ => rfl⟩⟩, hX8.trans hx9⟩
              | (refine ⟨⟨_, rfl, ⟨fun z => absurd z (by decide), fun z => absurd z ?_⟩⟩, ?_⟩
                 · first | exact hnk (fun z => Bool.false_ne_true (hkx.2 z)) | exact hn1 c1 | exact hn2 c2 | exact hn3 c3 | exact hn4 c4 | exact hn5 c5 | exact hn6 c6 | exact hn7 c7 | exact hn8 c8 | exact hn9 c9 | exact hn10 c10 | exact hn11 (fun z => Bool.false_ne_true (hsx.2 z))
                 · first | exact hX8.trans hx9 | exact hX7 | exact hX6 | exact hX5 | exact hX4 | exact hX3 | exact hX2))
  skip))
  all_goals (refine goB 2 ?_; refine WC.skip ?_; refine Gn ?_; refine WC.sr ?_; refine Go ?_; refine Ld ?_)
  all_goals (refine WL.call (vs := [_]) rfl (fun a w => Tryz.call28 a w) rfl ((clean_any t).bl) rfl rfl rfl ?_
             rintro _ h9 ⟨⟨rfl, c1⟩ | ⟨rfl, c1⟩, hz9⟩
             all_goals subst h9)
  all_goals (refine Go ?_; refine goP 12 ?_ TT.mk; refine Gg ?_; first | (refine WL.pass rfl rfl rfl ?_) | (refine Ld ?_))
  all_goals (first
               | (refine WL.pass rfl rfl rfl ?_)
               | (refine WL.call (vs := [_]) rfl (fun a w => Tryz.call28 a w) rfl ((clean_any n).bl) rfl rfl rfl ?_
                  rintro _ h9 ⟨⟨rfl, c2⟩ | ⟨rfl, c2⟩, hz9⟩
                  all_goals subst h9))
  all_goals (refine Go ?_; refine goP 17 ?_ TT.mk; refine Gg ?_; first | (refine WL.pass rfl rfl rfl ?_) | (refine Ld ?_))
  all_goals (first
               | (refine WL.pass rfl rfl rfl ?_)
               | (refine WL.call (vs := [_]) rfl (fun a w => Tryz.call28 a w) rfl ((clean_any v).bl) rfl rfl rfl ?_
                  rintro _ h9 ⟨⟨rfl, c3⟩ | ⟨rfl, c3⟩, hz9⟩
                  all_goals subst h9))
  all_goals (refine Go ?_; refine Gs [(1, _), (3, _)] ?_; refine WC.sr ?_; refine Go ?_; refine Ld ?_)
  all_goals (refine WL.call (vs := [_, _]) rfl (fun a w => Tryz.call29 a w) rfl ((everyA_col lc (fun c => decide c.okB) (hc.1.ext0 hX2) (by omega) (fun a w => Tryz.call30 a w) (fun c hc _ _ => column_any c)).bl) rfl rfl rfl ?_
             rintro _ g3 ⟨⟨rfl, c4⟩ | ⟨rfl, c4⟩, hx3⟩
             all_goals have hb3 := hx3.obj hb2 nos
             all_goals have hX3 := hX2.trans hx3)
  all_goals (refine Go ?_; refine goP 25 ?_ TT.mk; refine Gg ?_; first | (refine WL.pass rfl rfl rfl ?_) | (refine Ld ?_))
  all_goals (first
               | (refine WL.pass rfl rfl rfl ?_)
               | (refine WL.call (vs := [_, _]) rfl (fun a w => Tryz.call31 a w) rfl ((everyA_fld lf (fun c => decide c.okB) (hf.1.ext0 hX3) (by omega) (fun a w => Tryz.call32 a w) (fun c hc _ _ => field_any c)).bl) rfl rfl rfl ?_
                  rintro _ g4 ⟨⟨rfl, c5⟩ | ⟨rfl, c5⟩, hx4⟩
                  all_goals have hb4 := hx4.obj hb3 nos
                  all_goals have hX4 := hX3.trans hx4))
  all_goals (refine Go ?_; refine goP 30 ?_ TT.mk; refine Gg ?_; first | (refine WL.pass rfl rfl rfl ?_) | (refine Ld ?_))
  all_goals (first
               | (refine WL.pass rfl rfl rfl ?_)
               | (refine WL.call (vs := [_, _]) rfl (fun a w => Tryz.call33 a w) rfl ((everyA_cel lr (fun c => decide c.okB) (hr.1.ext0 hX4) (by omega) (fun a w => Tryz.call34 a w) (fun c hc _ _ => cell_any c (hr.2.2 c hc) (by have := md6 c hc; omega))).bl) rfl rfl rfl ?_
                  rintro _ g5 ⟨⟨rfl, c6⟩ | ⟨rfl, c6⟩, hx5⟩
                  all_goals have hb5 := hx5.obj hb4 nos
                  all_goals have hX5 := hX4.trans hx5))
  all_goals (refine Go ?_; refine goP 35 ?_ TT.mk; refine Gg ?_; first | (refine WL.pass rfl rfl rfl ?_) | (refine Ld ?_))
  all_goals (first
               | (refine WL.pass rfl rfl rfl ?_)
               | (refine WL.call (vs := [_, _]) rfl (fun a w => Tryz.call35 a w) rfl ((everyA_int lo (ho.1.ext0 hX5) (by omega)).bl) rfl rfl rfl ?_
                  rintro _ g6 ⟨⟨rfl, c7⟩ | ⟨rfl, c7⟩, hx6⟩
                  all_goals have hb6 := hx6.obj hb5 nos
                  all_goals have hX6 := hX5.trans hx6))
  all_goals (refine Go ?_; refine Gs [(1, _), (3, _), (4, _)] ?_; refine WC.seq ?_; refine WC.seq ?_; refine WC.drawH (fun h' => h'[b1]? = some (.cells ⟨[.int .u8 k, .int .u8 st, St t, St n, St v, In x, In y, vo, vc, vr, vf]⟩ 42 (0, 0))) 30 30 rfl fol ?_; refine WH.tk 0 rfl (fun hq hC => ok_move rfl) rfl rfl rfl ?_ (hC := (by first | exact hb9 | exact hb8 | exact hb7 | exact hb6 | exact hb5 | exact hb4 | exact hb3)); refine WH.tk 1 rfl (fun hq hC => ok_not rfl) rfl rfl rfl ?_ (hC := (by first | exact hb9 | exact hb8 | exact hb7 | exact hb6 | exact hb5 | exact hb4 | exact hb3)); refine WH.tk 2 rfl (fun hq hC => ok_move rfl) rfl rfl rfl ?_ (hC := (by first | exact hb9 | exact hb8 | exact hb7 | exact hb6 | exact hb5 | exact hb4 | exact hb3)); try ((fail_if_success (refine WH.part 42 (b := true) rfl (fun _ => ?_) (fun _ => ?_))); (fail_if_success (refine WH.part 42 (b := false) rfl (fun _ => ?_) (fun _ => ?_))); (refine WH.part 42 rfl (fun hb => ?_) (fun hb => ?_))))
  all_goals (first | (refine WH.ps 3 rfl rfl rfl rfl ?_ (hC := (by first | exact hb9 | exact hb8 | exact hb7 | exact hb6 | exact hb5 | exact hb4 | exact hb3))) | (refine WH.tk 3 rfl (fun hq hC => ok_move rfl) rfl rfl rfl ?_ (hC := (by first | exact hb9 | exact hb8 | exact hb7 | exact hb6 | exact hb5 | exact hb4 | exact hb3))))
  all_goals (first | (refine WH.ps 4 rfl rfl rfl rfl ?_ (hC := (by first | exact hb9 | exact hb8 | exact hb7 | exact hb6 | exact hb5 | exact hb4 | exact hb3))) | (refine WH.tk 4 rfl (fun hq hC => ok_not rfl) rfl rfl rfl ?_ (hC := (by first | exact hb9 | exact hb8 | exact hb7 | exact hb6 | exact hb5 | exact hb4 | exact hb3))))
  all_goals (first | (refine WH.tk 5 rfl (fun hq hC => ok_pick_t rfl rfl) rfl rfl rfl ?_ (hC := (by first | exact hb9 | exact hb8 | exact hb7 | exact hb6 | exact hb5 | exact hb4 | exact hb3))) | (refine WH.tk 5 rfl (fun hq hC => ok_pick_f rfl rfl) rfl rfl rfl ?_ (hC := (by first | exact hb9 | exact hb8 | exact hb7 | exact hb6 | exact hb5 | exact hb4 | exact hb3))))
  all_goals (refine WH.tk 6 rfl (fun hq hC => ok_move rfl) rfl rfl rfl ?_ (hC := (by first | exact hb9 | exact hb8 | exact hb7 | exact hb6 | exact hb5 | exact hb4 | exact hb3)); try ((fail_if_success (refine WH.part 46 (b := true) rfl (fun _ => ?_) (fun _ => ?_))); (fail_if_success (refine WH.part 46 (b := false) rfl (fun _ => ?_) (fun _ => ?_))); (refine WH.part 46 rfl (fun hb => ?_) (fun hb => ?_))))
  all_goals (first | (refine WH.ps 7 rfl rfl rfl rfl ?_ (hC := (by first | exact hb9 | exact hb8 | exact hb7 | exact hb6 | exact hb5 | exact hb4 | exact hb3))) | (refine WH.tk 7 rfl (fun hq hC => ok_fieldAddr rfl Tryz.underlying42 rfl (fun w => Tryz.sizeOf3 w)) rfl rfl rfl ?_ (hC := (by first | exact hb9 | exact hb8 | exact hb7 | exact hb6 | exact hb5 | exact hb4 | exact hb3))))
  all_goals (first | (refine WH.ps 8 rfl rfl rfl rfl ?_ (hC := (by first | exact hb9 | exact hb8 | exact hb7 | exact hb6 | exact hb5 | exact hb4 | exact hb3))) | (refine WH.tk 8 rfl (fun hq hC => ok_load (fun w => Tryz.isAgg3 w) rfl (cell_blk hC rfl)) rfl rfl rfl ?_ (hC := (by first | exact hb9 | exact hb8 | exact hb7 | exact hb6 | exact hb5 | exact hb4 | exact hb3))))
  all_goals (first
    | (refine WH.ps 9 rfl rfl rfl rfl ?_ (hC := (by first | exact hb9 | exact hb8 | exact hb7 | exact hb6 | exact hb5 | exact hb4 | exact hb3)))
    | (all_goals (refine WH.one 9 (by kernel_rfl) ?_)
       all_goals (refine Comes1.call (vs := [_]) rfl rfl (fun a w => Tryz.call36 a w) rfl ((oid_any x).bl) rfl rfl rfl ?_ (fun _ => by kernel_rfl)
                  rintro _ h9 ⟨⟨rfl, c8⟩ | ⟨rfl, c8⟩, hz9⟩
                  all_goals subst h9)
       all_goals (refine ⟨fun _ => by first | assumption | trivial, ?_⟩)
       skip))
  all_goals (first | (refine WH.ps 10 rfl rfl rfl rfl ?_ (hC := (by first | exact hb9 | exact hb8 | exact hb7 | exact hb6 | exact hb5 | exact hb4 | exact hb3))) | (refine WH.tk 10 rfl (fun hq hC => ok_not rfl) rfl rfl rfl ?_ (hC := (by first | exact hb9 | exact hb8 | exact hb7 | exact hb6 | exact hb5 | exact hb4 | exact hb3))))
  all_goals (first | (refine WH.tk 11 rfl (fun hq hC => ok_pick_t rfl rfl) rfl rfl rfl ?_ (hC := (by first | exact hb9 | exact hb8 | exact hb7 | exact hb6 | exact hb5 | exact hb4 | exact hb3))) | (refine WH.tk 11 rfl (fun hq hC => ok_pick_f rfl rfl) rfl rfl rfl ?_ (hC := (by first | exact hb9 | exact hb8 | exact hb7 | exact hb6 | exact hb5 | exact hb4 | exact hb3))))
  all_goals (refine WH.tk 12 rfl (fun hq hC => ok_move rfl) rfl rfl rfl ?_ (hC := (by first | exact hb9 | exact hb8 | exact hb7 | exact hb6 | exact hb5 | exact hb4 | exact hb3)); try ((fail_if_success (refine WH.part 52 (b := true) rfl (fun _ => ?_) (fun _ => ?_))); (fail_if_success (refine WH.part 52 (b := false) rfl (fun _ => ?_) (fun _ => ?_))); (refine WH.part 52 rfl (fun hb => ?_) (fun hb => ?_))))
  all_goals (first | (refine WH.ps 13 rfl rfl rfl rfl ?_ (hC := (by first | exact hb9 | exact hb8 | exact hb7 | exact hb6 | exact hb5 | exact hb4 | exact hb3))) | (refine WH.tk 13 rfl (fun hq hC => ok_fieldAddr rfl Tryz.underlying42 rfl (fun w => Tryz.sizeOf3 w)) rfl rfl rfl ?_ (hC := (by first | exact hb9 | exact hb8 | exact hb7 | exact hb6 | exact hb5 | exact hb4 | exact hb3))))
  all_goals (first | (refine WH.ps 14 rfl rfl rfl rfl ?_ (hC := (by first | exact hb9 | exact hb8 | exact hb7 | exact hb6 | exact hb5 | exact hb4 | exact hb3))) | (refine WH.tk 14 rfl (fun hq hC => ok_load (fun w => Tryz.isAgg3 w) rfl (cell_blk hC rfl)) rfl rfl rfl ?_ (hC := (by first | exact hb9 | exact hb8 | exact hb7 | exact hb6 | exact hb5 | exact hb4 | exact hb3))))
  all_goals (first
    | (refine WH.ps 15 rfl rfl rfl rfl ?_ (hC := (by first | exact hb9 | exact hb8 | exact hb7 | exact hb6 | exact hb5 | exact hb4 | exact hb3)))
    | (all_goals (refine WH.one 15 (by kernel_rfl) ?_)
       all_goals (refine Comes1.call (vs := [_]) rfl rfl (fun a w => Tryz.call36 a w) rfl ((oid_any y).bl) rfl rfl rfl ?_ (fun _ => by kernel_rfl)
                  rintro _ h9 ⟨⟨rfl, c9⟩ | ⟨rfl, c9⟩, hz9⟩
                  all_goals subst h9)
       all_goals (refine ⟨fun _ => by first | assumption | trivial, ?_⟩)
       skip))
  all_goals (first | (refine WH.ps 16 rfl rfl rfl rfl ?_ (hC := (by first | exact hb9 | exact hb8 | exact hb7 | exact hb6 | exact hb5 | exact hb4 | exact hb3))) | (refine WH.tk 16 rfl (fun hq hC => ok_not rfl) rfl rfl rfl ?_ (hC := (by first | exact hb9 | exact hb8 | exact hb7 | exact hb6 | exact hb5 | exact hb4 | exact hb3))))
  all_goals (first | (refine WH.tk 17 rfl (fun hq hC => ok_pick_t rfl rfl) rfl rfl rfl ?_ (hC := (by first | exact hb9 | exact hb8 | exact hb7 | exact hb6 | exact hb5 | exact hb4 | exact hb3))) | (refine WH.tk 17 rfl (fun hq hC => ok_pick_f rfl rfl) rfl rfl rfl ?_ (hC := (by first | exact hb9 | exact hb8 | exact hb7 | exact hb6 | exact hb5 | exact hb4 | exact hb3))))
  all_goals (refine WH.tk 18 rfl (fun hq hC => ok_move rfl) rfl rfl rfl ?_ (hC := (by first | exact hb9 | exact hb8 | exact hb7 | exact hb6 | exact hb5 | exact hb4 | exact hb3)); try ((fail_if_success (refine WH.part 58 (b := true) rfl (fun _ => ?_) (fun _ => ?_))); (fail_if_success (refine WH.part 58 (b := false) rfl (fun _ => ?_) (fun _ => ?_))); (refine WH.part 58 rfl (fun hb => ?_) (fun hb => ?_))))
  all_goals (first | (refine WH.ps 19 rfl rfl rfl rfl ?_ (hC := (by first | exact hb9 | exact hb8 | exact hb7 | exact hb6 | exact hb5 | exact hb4 | exact hb3))) | (refine WH.tk 19 rfl (fun hq hC => ok_loadN (fun w => Tryz.isAgg42 w) (fun w => Tryz.sizeOf42 w) rfl rfl (by exact At.of_block hC)) rfl rfl rfl ?_ (hC := (by first | exact hb9 | exact hb8 | exact hb7 | exact hb6 | exact hb5 | exact hb4 | exact hb3))))
  all_goals (first
    | (refine WH.ps 20 rfl rfl rfl rfl ?_ (hC := (by first | exact hb9 | exact hb8 | exact hb7 | exact hb6 | exact hb5 | exact hb4 | exact hb3)))
    | (all_goals (refine WH.one 20 (by kernel_rfl) ?_)
       all_goals (refine Comes1.call (vs := [_]) rfl rfl (fun a w => Tryz.call37 a w) rfl (hst) rfl rfl rfl ?_ (fun _ => by kernel_rfl)
                  rintro _ g7 ⟨⟨rfl, c10⟩ | ⟨rfl, c10⟩, hx7⟩
                  all_goals have hb7 := hx7.obj hb6 nos
                  all_goals have hX7 := hX6.trans hx7)
       all_goals (refine ⟨fun _ => hb7, ?_⟩)
       skip))
  all_goals (first | (refine WH.ps 21 rfl rfl rfl rfl ?_ (hC := (by first | exact hb9 | exact hb8 | exact hb7 | exact hb6 | exact hb5 | exact hb4 | exact hb3))) | (refine WH.tk 21 rfl (fun hq hC => ok_not rfl) rfl rfl rfl ?_ (hC := (by first | exact hb9 | exact hb8 | exact hb7 | exact hb6 | exact hb5 | exact hb4 | exact hb3))))
  all_goals (first | (refine WH.tk 22 rfl (fun hq hC => ok_pick_t rfl rfl) rfl rfl rfl ?_ (hC := (by first | exact hb9 | exact hb8 | exact hb7 | exact hb6 | exact hb5 | exact hb4 | exact hb3))) | (refine WH.tk 22 rfl (fun hq hC => ok_pick_f rfl rfl) rfl rfl rfl ?_ (hC := (by first | exact hb9 | exact hb8 | exact hb7 | exact hb6 | exact hb5 | exact hb4 | exact hb3))))
  all_goals (refine WH.tk 23 rfl (fun hq hC => ok_move rfl) rfl rfl rfl ?_ (hC := (by first | exact hb9 | exact hb8 | exact hb7 | exact hb6 | exact hb5 | exact hb4 | exact hb3)); try ((fail_if_success (refine WH.part 63 (b := true) rfl (fun _ => ?_) (fun _ => ?_))); (fail_if_success (refine WH.part 63 (b := false) rfl (fun _ => ?_) (fun _ => ?_))); (refine WH.part 63 rfl (fun hb => ?_) (fun hb => ?_))))
  all_goals (first | (refine WH.ps 24 rfl rfl rfl rfl ?_ (hC := (by first | exact hb9 | exact hb8 | exact hb7 | exact hb6 | exact hb5 | exact hb4 | exact hb3))) | (refine WH.tk 24 rfl (fun hq hC => ok_loadN (fun w => Tryz.isAgg42 w) (fun w => Tryz.sizeOf42 w) rfl rfl (by exact At.of_block hC)) rfl rfl rfl ?_ (hC := (by first | exact hb9 | exact hb8 | exact hb7 | exact hb6 | exact hb5 | exact hb4 | exact hb3))))
  all_goals (first | (refine WH.ps 25 rfl rfl rfl rfl ?_ (hC := (by first | exact hb9 | exact hb8 | exact hb7 | exact hb6 | exact hb5 | exact hb4 | exact hb3))) | (refine WH.tk 25 rfl (fun hq hC => ok_loadN (fun w => Tryz.isAgg42 w) (fun w => Tryz.sizeOf42 w) rfl rfl (by exact At.of_block hC)) rfl rfl rfl ?_ (hC := (by first | exact hb9 | exact hb8 | exact hb7 | exact hb6 | exact hb5 | exact hb4 | exact hb3))))
  all_goals (first
    | (refine WH.ps 26 rfl rfl rfl rfl ?_ (hC := (by first | exact hb9 | exact hb8 | exact hb7 | exact hb6 | exact hb5 | exact hb4 | exact hb3)))
    | (all_goals (refine WH.one 26 (by kernel_rfl) ?_)
       all_goals (refine Comes1.call (vs := [_]) rfl rfl (fun a w => Tryz.call39 a w) rfl (hof hX7) rfl rfl rfl ?_ (fun _ => by kernel_rfl); rintro _ g8 ⟨rfl, hx8⟩; have hb8 := hx8.obj hb7 nos; have hX8 := hX7.trans hx8; refine ⟨fun _ => hb8, ?_⟩)
       skip))
  all_goals (first
    | (refine WH.ps 27 rfl rfl rfl rfl ?_ (hC := (by first | exact hb9 | exact hb8 | exact hb7 | exact hb6 | exact hb5 | exact hb4 | exact hb3)))
    | (all_goals (refine WH.one 27 (by kernel_rfl) ?_)
       all_goals (refine Comes1.call (vs := [_, _]) rfl rfl (fun a w => Tryz.call38 a w) rfl (hsa hX8) rfl rfl rfl ?_ (fun _ => by kernel_rfl); rintro _ g9 ⟨⟨sx, rfl, hsx⟩, hx9⟩; have hb9 := hx9.obj hb8 nos; cases sx)
       all_goals (refine ⟨fun _ => hb9, ?_⟩)
       skip))
  all_goals (first | (refine WH.ps 28 rfl rfl rfl rfl ?_ (hC := (by first | exact hb9 | exact hb8 | exact hb7 | exact hb6 | exact hb5 | exact hb4 | exact hb3))) | (refine WH.tk 28 rfl (fun hq hC => ok_not rfl) rfl rfl rfl ?_ (hC := (by first | exact hb9 | exact hb8 | exact hb7 | exact hb6 | exact hb5 | exact hb4 | exact hb3))))
  all_goals (first | (refine WH.tk 29 rfl (fun hq hC => ok_pick_t rfl rfl) rfl rfl rfl ?_ (hC := (by first | exact hb9 | exact hb8 | exact hb7 | exact hb6 | exact hb5 | exact hb4 | exact hb3))) | (refine WH.tk 29 rfl (fun hq hC => ok_pick_f rfl rfl) rfl rfl rfl ?_ (hC := (by first | exact hb9 | exact hb8 | exact hb7 | exact hb6 | exact hb5 | exact hb4 | exact hb3))))
  all_goals (refine WH.done (by kernel_rfl) ?_; refine Gn ?_; refine Gs [(69, _)] ?_; refine goC 3 4 ?_ TT.mk)
  all_goals (first | (fail_if_success refine goB 3 ?_) | (
  refine goB 3 ?_
  all_goals (refine WC.sr ?_; refine Go ?_; refine Gt ?_)
  all_goals (first
              | exact ⟨⟨0, rfl, ⟨fun _ => hyes (hkx.1 rfl) c1 c2 c3 (all_dec.1 c4) (all_dec.1 c5) (all_dec.1 c6) (oids_ok.1 c7) (oidB_ok.1 c8) (oidB_ok.1 c9) c10 (hsx.1 rfl), fun _ => rfl⟩⟩, hX8.trans hx9⟩
              | (refine ⟨⟨_, rfl, ⟨fun z => absurd z (by decide), fun z => absurd z ?_⟩⟩, ?_⟩
                 · first | exact hnk (fun z => Bool.false_ne_true (hkx.2 z)) | exact hn1 c1 | exact hn2 c2 | exact hn3 c3 | exact hn4 c4 | exact hn5 c5 | exact hn6 c6 | exact hn7 c7 | exact hn8 c8 | exact hn9 c9 | exact hn10 c10 | exact hn11 (fun z => Bool.false_ne_true (hsx.2 z))
                 · first | exact hX8.trans hx9 | exact hX7 | exact hX6 | exact hX5 | exact hX4 | exact hX3 | exact hX2))
  skip))
  all_goals (refine goB 4 ?_; refine WC.skip ?_; refine Gn ?_; refine WC.sr ?_; refine Go ?_; refine Gt ?_)
  all_goals (first
              | exact ⟨⟨0, rfl, ⟨fun _ => hyes (hkx.1 rfl) c1 c2 c3 (all_dec.1 c4) (all_dec.1 c5) (all_dec.1 c6) (oids_ok.1 c7) (oidB_ok.1 c8) (oidB_ok.1 c9) c10 (hsx.1 rfl), fun _ => rfl⟩⟩, hX8.trans hx9⟩
              | (refine ⟨⟨_, rfl, ⟨fun z => absurd z (by decide), fun z => absurd z ?_⟩⟩, ?_⟩
                 · first | exact hnk (fun z => Bool.false_ne_true (hkx.2 z)) | exact hn1 c1 | exact hn2 c2 | exact hn3 c3 | exact hn4 c4 | exact hn5 c5 | exact hn6 c6 | exact hn7 c7 | exact hn8 c8 | exact hn9 c9 | exact hn10 c10 | exact hn11 (fun z => Bool.false_ne_true (hsx.2 z))
                 · first | exact hX8.trans hx9 | exact hX7 | exact hX6 | exact hX5 | exact hX4 | exact hX3 | exact hX2))
end Go.Proofs.YtbokngiajfdanaaGreatDoor


/-
  REPLIES (layer 7): whether a reply may be, as the document finds it.
-/
namespace Go.Proofs.YtbokngiajfdanaaGreatDoor
open Go Go.RK

end Go.Proofs.YtbokngiajfdanaaGreatDoor


/-
  SHIFTS; A MAP's ENTRY SET IN TWO STEPS. No program is named here.
-/
namespace Go.RK
open Go Go.MapKept Go.ChangeMaps

section
variable {P : Program} {f : Fr} {h : Heap} {d : Option Tmp} {ty : TypeId} {pos : String} {af : Array Edge} {g : Option (Nat × Bool)}
variable {t t2 : TypeId} {x y : Operand} {a b : Int}
end

/-! ### an entry in two steps -/
/-- Entry st of the map at block m is the one of key k; with its value set the map holds aput es k v. -/
def MpE {κ : Type} [DecidableEq κ] (dsc : TypeDesc) (enc : κ → Value) (h : Heap) (m : Nat) (es : List (κ × Value)) (k : κ) (st : Int) : Prop :=
  ∃ arr clock i, h[m]? = some (.map arr clock) ∧ arr.findIdx? (fun e => (e.born : Int) == st) = some i ∧
    ∀ v : Value, Stamped (arr.modify i fun e => { e with val := v }) clock ∧ ((arr.modify i fun e => { e with val := v }).toList.map (fun e => (e.key, e.val)) = (aput es k v).map fun p => (enc p.1, p.2))
section
variable {P : Program} {f : Fr} {h : Heap} {dd : Option Tmp} {ty : TypeId} {pos : String} {af : Array Edge} {g : Option (Nat × Bool)}
variable {κ : Type} [DecidableEq κ] {dsc : TypeDesc} {enc : κ → Value} {m : Nat} {es : List (κ × Value)} {k : κ}
theorem MpE.ext {S : Nat → Prop} {h' : Heap} {st : Int} (e : MpE dsc enc h m es k st) (a : Ext S h h') (hm : ¬ S m) : MpE dsc enc h' m es k st := by
  obtain ⟨arr, clock, i, hb, r⟩ := e
  exact ⟨arr, clock, i, a.obj hb hm, r⟩
end
end Go.RK

/-
  A TEXT APPENDED TO A ROW OF BYTES; unsafe.String of a row of which a text was taken before. No program is named here.
-/
namespace Go.RK
open Go

section
variable {P : Program} {f : Fr} {h : Heap} {d : Option Tmp} {ty : TypeId} {pos : String} {af : Array Edge} {g : Option (Nat × Bool)}
theorem okE_appendS {x y : Operand} {t u e : TypeId} {i : TypeInfo} {ts : Array TypeId} (hts : ts = #[t, u]) (ht : P.underlying t = some (.slice e)) (hu : P.underlying u = some .string) (hi : P.info? e = some i) (hz : i.zero = some (.int .u8 0)) (hsz : i.size = 1) (hby : i.bytes = 1)
    {v : Value} {n : Nat} {xs : List Value} {s : List UInt8} (hx : f.ev x = some v) (hy : f.ev y = some (St s)) (hown : Own h v e 1 n xs) (hm : n + s.length ≤ 140737488355328) :
    OkR P f ⟨d, .call { callee := .builtin .append, args := #[x, y], argTypes := ts }, ty, pos, af, g⟩ h
      (fun v' h' => Own h' v' e 1 (n + s.length) (xs ++ bys s) ∧ Ext (fun k => v.ownBlock = some k) h h' ∧ (∀ k, v'.ownBlock = some k → v.ownBlock = some k ∨ h.size ≤ k) ∧ (v' = .slice Option.none 0 0 ↔ v = .slice Option.none 0 0 ∧ s = [])) :=
  fun ρ w ha hw => by
    subst hw
    subst hts
    have hup := hown.up
    have e63 : n + (ByteArray.mk ⟨s⟩).size ≤ maxLen := by show n + s.length ≤ maxLen; unfold maxLen; omega
    obtain ⟨v', w', hr, ho', hgr, hiff⟩ := Lib.run_append_own_string (P := P) w 0 t u ty e i ht hu hi hz hsz hby v n xs hup ⟨⟨s⟩⟩ e63 hm (Nat.zero_le _)
    have hloc : ∀ k, v'.ownBlock = some k → v.ownBlock = some k ∨ w.heap.size ≤ k := by
      intro k hk
      obtain ⟨hl, ⟨rfl, hn0⟩ | ⟨g0, cap, cur, rfl, hg0, hn, hc, hs, htk⟩⟩ := hown
      · have hup2 : w.ownsRow w.heap.size e 1 (.slice Option.none 0 0) n xs := ⟨hl, .inl ⟨rfl, hn0⟩⟩
        obtain ⟨v2, w2, hr2, ho2, _, _⟩ := Lib.run_append_own_string (P := P) w w.heap.size t u ty e i ht hu hi hz hsz hby _ n xs hup2 ⟨⟨s⟩⟩ e63 hm (Nat.le_refl _)
        rw [hr] at hr2
        injection hr2 with e1 e2
        subst e1
        obtain ⟨_, ⟨rfl, _⟩ | ⟨g1, _, _, rfl, hb, _⟩⟩ := ho2
        · cases hk
        · simp only [Value.ownBlock, Option.some.injEq] at hk
          exact .inr (hk ▸ hb)
      · by_cases hroom : n + (ByteArray.mk ⟨s⟩).size ≤ cap
        · have hr2 := Lib.run_append_room_string (P := P) w t u ty e i ht hu hi hsz g0 n cap cur hg0 ⟨⟨s⟩⟩ hroom (by rw [hs]; simpa using hroom)
          rw [hr] at hr2
          injection hr2 with e1 e2
          subst e1
          exact .inl hk
        · have hxl : xs.length = n := by simpa using hl
          have holds := hup.cells (g := g0) rfl
          have hr2 := Lib.run_append_grow_string (P := P) w t u ty e i (.int .u8 0) ht hu hi hz ⟨g0, 0, Option.none⟩ n cap xs (by rw [hsz]; omega) holds ⟨⟨s⟩⟩ (by omega) (by unfold maxLen at e63; omega) (by rw [hby]; exact growslice_fits (by omega) (by show (n + s.length) * 1 ≤ 140737488355328; omega))
          rw [hr] at hr2
          injection hr2 with e1 e2
          subst e1
          simp only [Value.ownBlock, Option.some.injEq] at hk
          exact .inr (by omega)
    refine ⟨v', w', ⟨hgr.tape, hgr.os, hgr.output, trivial⟩, ⟨.down ho', ⟨hgr.size, fun k hk hS => hgr.block k hk (fun e => hS e.symm)⟩, hloc, ?_⟩, .inl ?_⟩
    · rw [hiff]
      constructor
      · rintro ⟨h1, h2⟩
        exact ⟨h1, List.eq_nil_of_length_eq_zero h2⟩
      · rintro ⟨h1, rfl⟩
        exact ⟨h1, rfl⟩
    · simp [execOp, resolve, invoke, builtin, ha _ _ hx, ha _ _ hy, hr]
end
end Go.RK

/-
  NUMBERS AS BYTES (layer 1): package num's Put, and the document's.
-/
namespace Go.Proofs.YtbokngiajfdanaaGreatDoor
open Go Go.RK

/-- Byte i (the last is 0) of a number. -/
def bI (n : Int) (i : Nat) : UInt8 := UInt8.ofNat ((n / 256 ^ i) % 256).toNat
/-- The first k of a number's s bytes. -/
def beK (n : Int) (s : Nat) : Nat → List UInt8
  | 0 => []
  | k + 1 => beK n s k ++ [bI n (s - 1 - k)]
def be (n : Int) (s : Nat) : List UInt8 := beK n s s
theorem beK_len (n : Int) (s k : Nat) : (beK n s k).length = k := by
  induction k with
  | zero => rfl
  | succ k ih => simp [beK, ih]
theorem be_len (n : Int) (s : Nat) : (be n s).length = s := beK_len n s s
theorem bI_val (n : Int) (i : Nat) : ((bI n i).toNat : Int) = (n / 256 ^ i) % 256 := by
  unfold bI
  have h1 : 0 ≤ (n / 256 ^ i) % 256 := Int.emod_nonneg _ (by decide)
  have h2 : (n / 256 ^ i) % 256 < 256 := Int.emod_lt_of_pos _ (by decide)
  have h3 : (UInt8.ofNat ((n / 256 ^ i) % 256).toNat).toNat = ((n / 256 ^ i) % 256).toNat := by simp; omega
  rw [h3, Int.toNat_of_nonneg h1]
/-- Of one size: 1, 2 or 4. -/
def Sz (s : Nat) : Prop := s = 1 ∨ s = 2 ∨ s = 4
def Rt (n : Int) (s : Nat) : Prop := -(256 ^ s / 2) ≤ n ∧ n < 256 ^ s
theorem By_bI {n x : Int} {i : Nat} (h : x % 256 = (n / 256 ^ i) % 256) : (.int .u8 (IntKind.u8.wrap x) : Value) = By (bI n i) := by
  unfold By
  rw [bI_val, ← h]
  congr 1
theorem pow_sz {s : Nat} (hs : Sz s) : (256 : Int) ^ s = 256 ∨ (256 : Int) ^ s = 65536 ∨ (256 : Int) ^ s = 4294967296 := by
  rcases hs with rfl | rfl | rfl
  · exact .inl rfl
  · exact .inr (.inl rfl)
  · exact .inr (.inr rfl)
set_option maxHeartbeats 2000000 in
set_option maxRecDepth 100000 in
theorem right01 {h : Heap} (n : Int) (s : Nat) (hs : Sz s) (hr : Rt n s) (kp : CallsH Tryz.prog 170 ⟨[In s]⟩ h fun u h' => u = In (256 ^ s) ∧ h' = h) (kz : CallsH Tryz.prog 201 ⟨[In s]⟩ h fun u h' => u = .bool true ∧ h' = h) :
    CallsH Tryz.prog 169 ⟨[In n, In s]⟩ h fun u h' => u = .bool true ∧ h' = h := by
  obtain ⟨r1, r2⟩ := hr
  have hq := pow_sz hs
  generalize (256 : Int) ^ s = q at r1 r2 kp hq
  rcases hq with rfl | rfl | rfl
  all_goals
    refine calls [(0, _), (1, _)] Tryz.func169 rfl Tryz.ntmps169 rfl ⟨rfl, rfl, trivial⟩ ?_
    all_goals (refine WC.sr ?_; refine Go ?_; refine WC.sr ?_; refine Go ?_; refine WL.call (vs := [_]) rfl (fun a w => Tryz.call201 a w) rfl (kz) rfl rfl rfl ?_; rintro _ hz ⟨rfl, _⟩; subst hz; refine Go ?_; refine goP 7 ?_ TT.mk; refine Gg ?_; refine WL.call (vs := [_]) rfl (fun a w => Tryz.call170 a w) rfl (kp) rfl rfl rfl ?_; rintro _ hz ⟨rfl, _⟩; subst hz; refine WL.step (ok_negI rfl (by omega)) rfl rfl rfl ?_; refine WL.step (ok_quoI rfl rfl (by decide) (tdiv_in (by omega) (by decide))) rfl rfl rfl ?_; first | rw [show (-256 : Int).tdiv 2 = -128 from rfl] | rw [show (-65536 : Int).tdiv 2 = -32768 from rfl] | rw [show (-4294967296 : Int).tdiv 2 = -2147483648 from rfl])
    all_goals (refine Gg ?_; refine Go ?_; refine goP 15 ?_ TT.mk; refine Gg ?_; refine WL.call (vs := [_]) rfl (fun a w => Tryz.call170 a w) rfl (kp) rfl rfl rfl ?_; rintro _ hz ⟨rfl, _⟩; subst hz; refine Gg ?_; refine Go ?_; refine Gs [(4, _)] ?_; refine Gt ?_; exact ⟨rfl, rfl⟩)
set_option maxHeartbeats 2000000 in
set_option maxRecDepth 100000 in
theorem sized01 {h : Heap} (s : Nat) (hs : Sz s) : CallsH Tryz.prog 201 ⟨[In s]⟩ h fun u h' => u = .bool true ∧ h' = h := by
  rcases hs with rfl | rfl | rfl
  all_goals
    refine calls [(0, _)] Tryz.func201 rfl Tryz.ntmps201 rfl ⟨rfl, trivial⟩ ?_
    all_goals (refine WC.sr ?_; refine Go ?_; refine WC.sr ?_; refine Go ?_; refine goP 5 ?_ TT.mk; refine Gg ?_; refine Go ?_; refine goP 9 ?_ TT.mk; refine Gg ?_; refine Go ?_; refine Gs [(2, _)] ?_; refine Gt ?_; exact ⟨rfl, rfl⟩)
theorem pow_le {k : Nat} (h : k ≤ 3) : 1 ≤ (256 : Int) ^ k ∧ (256 : Int) ^ k ≤ 16777216 := by
  have : k = 0 ∨ k = 1 ∨ k = 2 ∨ k = 3 := by omega
  rcases this with rfl | rfl | rfl | rfl <;> decide
set_option maxHeartbeats 2000000 in
set_option maxRecDepth 100000 in
theorem pow_v {h : Heap} (s : Nat) (hs : s ≤ 4) : CallsH Tryz.prog 170 ⟨[In s]⟩ h fun u h' => u = In (256 ^ s) ∧ h' = h := by
  refine calls [(0, _)] Tryz.func170 rfl Tryz.ntmps170 rfl ⟨rfl, trivial⟩ ?_
  all_goals (refine WC.sr ?_; refine Go ?_; refine WC.sr ?_; refine Go ?_; refine WC.seq ?_; refine WC.sr ?_; refine Go ?_; refine WC.block ?_)
  -- loop 0: slots that turn [3, 4], that stay [0]
  all_goals (refine WC.loopG (X := Nat × Int) (fun x => ([(3, In x.2), (4, In (x.1 : Int))] : Fr)) [(0, _)] (fun x h' => h' = h ∧ x.1 ≤ s ∧ x.2 = 256 ^ x.1) (fun x => s - x.1) ((0, 1)) ⟨rfl, rfl, rfl, trivial⟩ (by exact ⟨rfl, Nat.zero_le _, rfl⟩) ?_)
  all_goals (rintro ⟨k, p⟩ h9 ⟨hz, hk, hp⟩
             dsimp only at hk hp
             subst h9)
  all_goals (refine WC.sub [(3, _), (4, _), (0, _)] ⟨rfl, rfl, rfl, trivial⟩ ?_; dsimp only)
  all_goals (refine WC.seq ?_; refine WC.sr ?_; refine Go ?_; refine goC 1 2 (Hb.mk fun hb => ?_) (Hb.mk fun hb => ?_))
  all_goals (first | (fail_if_success refine goB 1 ?_) | (
  refine goB 1 ?_
  all_goals (refine WC.skip ?_)
  skip))
  all_goals (first | (fail_if_success refine goB 2 ?_) | (
  refine goB 2 ?_
  all_goals (refine WC.exit ?_; repeat' (with_reducible first | refine thenP_x ?_ | refine blockP_miss rfl ?_ | refine blockP_hit ?_ | refine blockP_n ?_ | refine thenP_n ?_))
  all_goals (refine Br.out (i := 1000) ?_)
  skip))
  all_goals (refine Gn ?_; first | (refine Br.keep ?_) | (refine WC.seq ?_))
  all_goals (first | (refine Br.keep ?_) | (refine WC.block ?_))
  all_goals (first | (refine Br.keep ?_) | (refine WC.region ?_))
  all_goals (first
               | (refine Br.keep ?_)
               | (have hpl := pow_le (show k ≤ 3 by omega)
                  rw [← hp] at hpl))
  all_goals (first | (refine Br.keep ?_) | (refine WL.step (ok_move rfl) rfl rfl rfl ?_))
  all_goals (first | (refine Br.keep ?_) | (refine WL.step (ok_mulI rfl rfl (by omega)) rfl rfl rfl ?_))
  all_goals (refine Go ?_; first | (refine Br.keep ?_) | (refine Gs [(0, _), (3, _), (4, _)] ?_))
  all_goals (first | (refine Br.keep ?_) | (refine WC.region ?_))
  all_goals (refine Go ?_; first | (refine Br.keep ?_) | (exact ⟨(k + 1, _), ⟨rfl, rfl, rfl, trivial⟩, (by exact ⟨rfl, by omega, by rw [hp]; rfl⟩), (by simp; omega)⟩))
  all_goals (try (refine Br.mk (i := 1000) ?_))
  all_goals (refine Gn ?_; refine Gs [(3, _)] ?_; refine WC.sr ?_; refine Go ?_; refine Gt ?_; exact ⟨by rw [hp, show k = s by omega], rfl⟩)
theorem bI_up {n : Int} {s i : Nat} (h : i < s) : bI (n + 256 ^ s) i = bI n i := by
  have h1 : (n + 256 ^ s) / 256 ^ i = n / 256 ^ i + 256 ^ (s - i) := by
    rw [show (256 : Int) ^ s = 256 ^ i * 256 ^ (s - i) by rw [← Int.pow_add, show i + (s - i) = s by omega]]
    rw [Int.add_mul_ediv_left _ _ (by have : (0 : Int) < 256 ^ i := Int.pow_pos (by decide); omega)]
  obtain ⟨j, hj⟩ : ∃ j, s - i = j + 1 := ⟨s - i - 1, by omega⟩
  have h2 : (256 : Int) ^ (s - i) = 256 ^ j * 256 := by rw [hj, Int.pow_succ]
  unfold bI
  rw [h1, h2, Int.add_mul_emod_self_right]
theorem beK_congr {m n : Int} {s : Nat} (h : ∀ i, i < s → bI m i = bI n i) (hs : 1 ≤ s) : ∀ k, beK m s k = beK n s k
  | 0 => rfl
  | k + 1 => by rw [beK, beK, beK_congr h hs k, h _ (by omega)]
theorem td_in {m p : Int} (h : 0 ≤ m ∧ m ≤ 4294967296) (hp : 1 ≤ p) : m.tdiv p = m / p ∧ 0 ≤ m / p ∧ m / p ≤ 4294967296 := by
  refine ⟨Int.tdiv_eq_ediv_of_nonneg h.1, Int.ediv_nonneg h.1 (by omega), ?_⟩
  have := Int.ediv_le_self p h.1
  omega
set_option maxHeartbeats 2000000 in
set_option maxRecDepth 100000 in
theorem put01 {h : Heap} {v : Value} (l : List UInt8) (n : Int) (s : Nat) (hs : Sz s) (hr : Rt n s) (hv : Rd h v 1 l.length (bys l)) (hl : l.length ≤ 100000000000000) :
    CallsH Tryz.prog 127 ⟨[v, In n, In s]⟩ h fun u h' => Own h' u 5 1 (l ++ be n s).length (bys (l ++ be n s)) ∧ Ext No h h' ∧ ∀ q, u.ownBlock = some q → h.size ≤ q := by
  obtain ⟨A, c, rfl, hc⟩ := id hv
  have hs4 : s ≤ 4 := by unfold Sz at hs; omega
  have hs1 : 1 ≤ s := by unfold Sz at hs; omega
  have hq := pow_sz hs
  obtain ⟨r1, r2⟩ := id hr
  have kp := fun h' => pow_v (h := h') s (by omega)
  have kr := fun h' => right01 (h := h') n s hs hr (kp h') (sized01 s hs)
  obtain ⟨m, hm0, hm1, hmb⟩ : ∃ m : Int, (if n < 0 then n + 256 ^ s else n) = m ∧ (0 ≤ m ∧ m ≤ 4294967296) ∧ ∀ i, i < s → bI m i = bI n i := by
    refine ⟨_, rfl, ?_, fun i hi => ?_⟩
    · generalize (256 : Int) ^ s = q at r1 r2 hq
      split <;> rcases hq with rfl | rfl | rfl <;> omega
    · split
      · exact bI_up hi
      · rfl
  rw [show be n s = be m s from (beK_congr hmb hs1 s).symm]
  generalize hqq : (256 : Int) ^ s = q at r1 r2 kp hq hm0
  refine calls [(0, _), (1, _), (2, _)] Tryz.func127 rfl Tryz.ntmps127 rfl ⟨rfl, rfl, rfl, trivial⟩ ?_
  all_goals (refine WC.sr ?_; refine Go ?_; refine WC.sr ?_; refine Go ?_; refine WL.stepR (ok_append (sz := 1) (bytes := 1) rfl Tryz.underlying85 (show Tryz.prog.info? 5 = some Tryz.t5 by kernel_rfl) rfl rfl rfl rfl (by decide) rfl rfl (Own.nil _ _ _) hv (by intro c hc; obtain ⟨b, _, rfl⟩ := List.mem_map.1 hc; rfl) (by simp only [maxLen]; omega) (by omega)) rfl rfl rfl ?_; rintro v2 h2 ⟨ho2, hx2, hl2⟩; have hf2 : ∀ q, v2.ownBlock = some q → h.size ≤ q := fresh_of hl2 (by simp [Value.ownBlock]) (Nat.le_refl _); have hX2 : Ext No h h2 := hx2.mono (fun q hq e => by simp [Value.ownBlock] at e); refine Go ?_; refine Gs [(1, _), (2, _), (7, _)] ?_; refine WC.seq ?_; refine WC.sr ?_; refine Go ?_; refine WL.call (vs := [_, _]) rfl (fun a w => Tryz.call169 a w) rfl (kr _) rfl rfl rfl ?_; rintro _ hz ⟨rfl, _⟩; subst hz; refine Go ?_; refine goC 1 2 ?_ TT.mk; refine goB 2 ?_; refine WC.skip ?_; refine Gn ?_; refine Gs [(1, _), (2, _), (7, _)] ?_; refine WC.seq ?_; refine WC.sr ?_; refine Go ?_; refine goC 3 4 (Hb.mk fun hb => ?_) (Hb.mk fun hb => ?_))
  all_goals (first | (fail_if_success refine goB 3 ?_) | (
  refine goB 3 ?_
  all_goals (refine WC.region ?_; refine Go ?_; refine WL.call (vs := [_]) rfl (fun a w => Tryz.call170 a w) rfl (kp _) rfl rfl rfl ?_; rintro _ hz ⟨rfl, _⟩; subst hz; refine Go ?_)
  skip))
  all_goals (first | (fail_if_success refine goB 4 ?_) | (
  refine goB 4 ?_
  all_goals (refine WC.skip ?_)
  skip))
  all_goals (refine Gn ?_; refine WC.seq ?_; refine WC.sr ?_)
  all_goals (first | rw [if_pos (by assumption)] at hm0 | rw [if_neg (by assumption)] at hm0
             rw [hm0])
  all_goals (refine WL.step (ok_move rfl) rfl rfl rfl ?_; refine Go ?_; refine Gs [(1, _), (7, _), (8, _)] ?_; refine WC.block ?_)
  -- loop 0: slots that turn [7, 8], that stay [1]
  all_goals (refine WC.loopG (X := Value × Int × Nat) (fun x => ([(7, x.1), (8, In x.2.1)] : Fr)) [(1, _)] (fun x h' => x.2.2 ≤ s ∧ x.2.1 = (s : Int) - 1 - x.2.2 ∧ Own h' x.1 5 1 (l ++ beK m s x.2.2).length (bys (l ++ beK m s x.2.2)) ∧ Ext No h h' ∧ ∀ q, x.1.ownBlock = some q → h.size ≤ q) (fun x => s - x.2.2) ((v2, _, 0)) ⟨rfl, rfl, rfl, trivial⟩ (by exact ⟨Nat.zero_le _, by simp, by simpa [beK] using ho2, hX2, hf2⟩) ?_)
  all_goals (rintro ⟨w, sh, k⟩ h3 ⟨hk, hsh, ho3, hx3, hf3⟩
             dsimp only at hk hsh ho3 hf3
             have hbl := beK_len m s k
             have hlen3 : (l ++ beK m s k).length = l.length + k := by rw [List.length_append, hbl])
  all_goals (refine WC.sub [(7, _), (8, _), (1, _)] ⟨rfl, rfl, rfl, trivial⟩ ?_; dsimp only)
  all_goals (refine WC.seq ?_; refine WC.sr ?_; refine Go ?_; refine goC 5 6 (Hb.mk fun hb => ?_) (Hb.mk fun hb => ?_))
  all_goals (first | (fail_if_success refine goB 5 ?_) | (
  refine goB 5 ?_
  all_goals (refine WC.skip ?_)
  skip))
  all_goals (first | (fail_if_success refine goB 6 ?_) | (
  refine goB 6 ?_
  all_goals (refine WC.exit ?_; repeat' (with_reducible first | refine thenP_x ?_ | refine blockP_miss rfl ?_ | refine blockP_hit ?_ | refine blockP_n ?_ | refine thenP_n ?_))
  all_goals (refine Br.out (i := 1000) ?_)
  skip))
  all_goals (refine Gn ?_; first | (refine Br.keep ?_) | (refine WC.seq ?_))
  all_goals (first | (refine Br.keep ?_) | (refine WC.block ?_))
  all_goals (first | (refine Br.keep ?_) | (refine WC.region ?_))
  all_goals (first
               | (refine Br.keep ?_)
               | (obtain ⟨j, rfl⟩ : ∃ j : Nat, sh = (j : Int) := ⟨sh.toNat, by omega⟩
                  have hpj := pow_le (show j ≤ 3 by omega)
                  have htd := td_in hm1 hpj.1))
  all_goals (first | (refine Br.keep ?_) | (refine WL.step (ok_move rfl) rfl rfl rfl ?_))
  all_goals (refine Go ?_)
  all_goals (first
               | (refine Br.keep ?_)
               | (refine WL.call (vs := [_]) rfl (fun a w => Tryz.call170 a w) rfl (pow_v j (by omega)) rfl rfl rfl ?_
                  rintro _ hz ⟨rfl, _⟩
                  subst hz))
  all_goals (first | (refine Br.keep ?_) | (refine WL.step (ok_quoI rfl rfl (by omega) (⟨by rw [htd.1]; omega, by rw [htd.1]; omega⟩)) rfl rfl rfl ?_))
  all_goals (first | (refine Br.keep ?_) | (refine WL.step (ok_rem rfl rfl (by decide)) rfl rfl rfl ?_))
  all_goals (first | (refine Br.keep ?_) | (refine WL.step (ok_conv Tryz.underlying3 Tryz.underlying5 rfl) rfl rfl rfl ?_))
  all_goals (first
               | (refine Br.keep ?_)
               | (refine WL.stepR (okE_buildSlice (vs := [_]) (cs := [_]) (fun | [a0] => [a0] | _ => []) Tryz.underlying85 rfl rfl (by kernel_rfl)) rfl rfl rfl ?_
                  rintro _ h4 ⟨b4, rfl, hg4, hb4, hx4⟩))
  all_goals (first
               | (refine Br.keep ?_)
               | (refine WL.stepR (ok_append (sz := 1) (bytes := 1) rfl Tryz.underlying85 (show Tryz.prog.info? 5 = some Tryz.t5 by kernel_rfl) rfl rfl rfl rfl (by decide) rfl rfl (ho3.ext hx4 (fun _ _ => nos)) (rd_blk hb4 rfl) (by simp [Value.oneCell']) (by simp only [maxLen]; omega) (by omega)) rfl rfl rfl ?_
                  rintro v5 h5 ⟨ho5, hx5, hl5⟩))
  all_goals (first
               | (refine Br.keep ?_)
               | (have hsb : ((m.tdiv (256 ^ j)).tmod 256) % 256 = (m / 256 ^ (s - 1 - k)) % 256 := by rw [htd.1, Int.tmod_eq_emod_of_nonneg htd.2.1, Int.emod_emod, show j = s - 1 - k by omega]
                  rw [By_bI hsb] at ho5
                  have hO : Own h5 v5 5 1 (l ++ beK m s (k + 1)).length (bys (l ++ beK m s (k + 1))) := by have e : l ++ beK m s (k + 1) = (l ++ beK m s k) ++ [bI m (s - 1 - k)] := (by simp [beK]); rw [e, bys, List.map_append, List.length_append]; exact ho5))
  all_goals (refine Go ?_; first | (refine Br.keep ?_) | (refine Gs [(1, _), (7, _), (8, _)] ?_))
  all_goals (first | (refine Br.keep ?_) | (refine WC.region ?_))
  all_goals (refine Go ?_; first | (refine Br.keep ?_) | (exact ⟨(_, _, k + 1), ⟨rfl, rfl, rfl, trivial⟩, (by exact ⟨by dsimp only; omega, by dsimp only; omega, hO, (hx3.trans hx4).trans' hx5 (fun q hq e => by have := hf3 q e; omega), fresh_of hl5 hf3 (by have := hx3.size; have := hx4.size; omega)⟩), (by simp; omega)⟩))
  all_goals (try (refine Br.mk (i := 1000) ?_))
  all_goals (refine Gn ?_; refine Gs [(7, _)] ?_; refine WC.sr ?_; refine Go ?_; refine Gt ?_; (obtain rfl : k = s := by omega); exact ⟨ho3, hx3, hf3⟩)
end Go.Proofs.YtbokngiajfdanaaGreatDoor


/-
  RANGES OVER MAPS: an iterator, what has come out of it so far, in whatever order. No program is named here.
-/
namespace Go.RK
open Go Go.MapKept Go.ChangeMaps

/-- Block r goes over the map in block m, that holds es; ds has come out so far. -/
structure ItA {κ : Type} (enc : κ → Value) (h : Heap) (r m : Nat) (es ds : List (κ × Value)) (arr : Array MapEntry) (clock since c0 : Nat) (seen : Array Nat) : Prop where
  it : h[r]? = some (.mapIter (some m) since seen c0)
  mp : h[m]? = some (.map arr clock)
  st : Stamped arr clock
  kv : arr.toList.map (fun e => (e.key, e.val)) = es.map fun p => (enc p.1, p.2)
  old : ∀ x ∈ arr.toList, x.born < since
  le : since ≤ c0
  le2 : since ≤ clock
  seen : ∀ x ∈ arr.toList, (seen.contains x.born = true ↔ ∃ p ∈ ds, (x.key, x.val) = (enc p.1, p.2))
  sub : ∀ p ∈ ds, p ∈ es
  nd : ds.Nodup
def It {κ : Type} (enc : κ → Value) (h : Heap) (r m : Nat) (es ds : List (κ × Value)) : Prop := ∃ arr clock since c0 seen, ItA enc h r m es ds arr clock since c0 seen
/-- p came out last. -/
def ItL {κ : Type} (enc : κ → Value) (h : Heap) (r m : Nat) (p : κ × Value) : Prop := ∃ arr clock since seen e, h[r]? = some (.mapIter (some m) since (Array.push seen e.born) clock) ∧ h[m]? = some (.map arr clock) ∧ (arr.toList.map (·.born)).Nodup ∧ e ∈ arr.toList ∧ e.key = enc p.1 ∧ e.val = p.2
/-- An iterator over no map. -/
def ItN (h : Heap) (r : Nat) : Prop := ∃ a s c, h[r]? = some (.mapIter Option.none a s c)
theorem key_inj {l : List MapEntry} (hn : (l.map (·.key)).Nodup) {x e : MapEntry} (hx : x ∈ l) (he : e ∈ l) (h : x.key = e.key) : x = e := by
  induction l with
  | nil => cases hx
  | cons a l ih =>
    simp only [List.map_cons, List.nodup_cons, List.mem_map, not_exists, not_and] at hn
    rcases List.mem_cons.1 hx with h1 | h1
    · rcases List.mem_cons.1 he with h2 | h2
      · rw [h1, h2]
      · exact absurd (h1 ▸ h).symm (hn.1 e h2)
    · rcases List.mem_cons.1 he with h2 | h2
      · exact absurd (h2 ▸ h) (hn.1 x h1)
      · exact ih hn.2 h1 h2

section
variable {P : Program} {f : Fr} {h h' : Heap} {d : Option Tmp} {ty : TypeId} {pos : String} {af : Array Edge} {g : Option (Nat × Bool)}
variable {κ : Type} {dsc : TypeDesc} {enc : κ → Value} {r m : Nat} {es ds : List (κ × Value)}
theorem It.ext {S : Nat → Prop} (i : It enc h r m es ds) (a : Ext S h h') (hr : ¬ S r) (hm : ¬ S m) : It enc h' r m es ds := by
  obtain ⟨arr, clock, since, c0, seen, k⟩ := i
  exact ⟨arr, clock, since, c0, seen, ⟨a.obj k.it hr, a.obj k.mp hm, k.st, k.kv, k.old, k.le, k.le2, k.seen, k.sub, k.nd⟩⟩
theorem ItL.ext {S : Nat → Prop} {p : κ × Value} (i : ItL enc h r m p) (a : Ext S h h') (hr : ¬ S r) (hm : ¬ S m) : ItL enc h' r m p := by
  obtain ⟨arr, clock, since, seen, e, h1, h2, h3⟩ := i
  exact ⟨arr, clock, since, seen, e, a.obj h1 hr, a.obj h2 hm, h3⟩
theorem It.map (i : It enc h r m es ds) : Mp dsc enc h m es := by
  obtain ⟨arr, clock, since, c0, seen, k⟩ := i
  exact ⟨arr, clock, k.mp, k.st, k.kv⟩
theorem It.lt (i : It enc h r m es ds) : r < h.size := by
  obtain ⟨arr, clock, since, c0, seen, k⟩ := i
  exact lt_of_some k.it
theorem It.sub (i : It enc h r m es ds) : ∀ p ∈ ds, p ∈ es := by
  obtain ⟨arr, clock, since, c0, seen, k⟩ := i
  exact k.sub
theorem It.nd (i : It enc h r m es ds) : ds.Nodup := by
  obtain ⟨arr, clock, since, c0, seen, k⟩ := i
  exact k.nd
theorem nodup_fst {α β : Type} {l : List (α × β)} (h : (l.map (·.1)).Nodup) : l.Nodup := by
  induction l with
  | nil => simp
  | cons a l ih =>
    simp only [List.map_cons, List.nodup_cons, List.mem_map, not_exists, not_and] at h ⊢
    exact ⟨fun ha => h.1 a ha rfl, ih h.2⟩
theorem sub_len {α : Type} {l m : List α} (h : l.Nodup) (hs : ∀ x ∈ l, x ∈ m) : l.length ≤ m.length := by
  have _inst : DecidableEq α := fun a b => Classical.propDecidable (a = b)
  induction l generalizing m with
  | nil => simp
  | cons a l ih =>
    have ha := hs a List.mem_cons_self
    have h1 := (List.nodup_cons.1 h)
    have := ih (m := m.erase a) h1.2 fun x hx => (List.mem_erase_of_ne (by intro e; subst e; exact h1.1 hx)).2 (hs x (List.mem_cons_of_mem _ hx))
    rw [List.length_erase_of_mem ha] at this
    have := List.length_pos_of_mem ha
    simp
    omega
theorem okE_range {t kt et : TypeId} {x : Operand} (hu : P.underlying t = some (.map kt et)) (hx : f.ev x = some (.map (some m))) (hm : Mp dsc enc h m es) :
    OkR P f ⟨d, .range t x, ty, pos, af, g⟩ h (fun v h' => ∃ r, v = .pointer (some ⟨r, 0, Option.none⟩) ∧ h.size ≤ r ∧ It enc h' r m es [] ∧ Ext No h h') := fun ρ w ha hw => by
  subst hw
  obtain ⟨arr, clock, hb, hs, hkv⟩ := hm
  have hr := run_range_map (P := P) w t kt et m arr clock hu hb
  refine ⟨_, w.alloc (.mapIter (some m) clock #[] clock), ⟨rfl, rfl, rfl, trivial⟩, ⟨w.heap.size, rfl, Nat.le_refl _, ⟨arr, clock, clock, clock, #[], ?_⟩, Ext.push _ _ _⟩, .inl ?_⟩
  · exact ⟨push_new _ _, (Ext.push No _ _).obj hb nos, hs, hkv, hs.1, Nat.le_refl _, Nat.le_refl _, fun x hx => by simp, by simp, by simp⟩
  · simp [execOp, ha _ _ hx, hr]
theorem okE_next (E : KeyEnc κ dsc enc) {x : Operand} (hx : f.ev x = some (.pointer (some ⟨r, 0, Option.none⟩))) (hi : It enc h r m es ds) :
    OkR P f ⟨d, .next x false, ty, pos, af, g⟩ h (fun v h' => (v = .tuple ⟨[.bool false]⟩ ∧ h' = h ∧ ds.Perm es) ∨ ∃ p, v = .tuple ⟨[.bool true, enc p.1, p.2]⟩ ∧ p ∈ es ∧ p ∉ ds ∧ It enc h' r m es (ds ++ [p]) ∧ ItL enc h' r m p ∧ Ext (fun k => k = r) h h') := fun ρ w ha hw => by
  subst hw
  obtain ⟨arr, clock, since, c0, seen, k⟩ := hi
  have hrm : r ≠ m := fun e => by have := k.it; rw [e, k.mp] at this; cases this
  have hes : es.Nodup := nodup_fst (Mp.nodup E ⟨arr, clock, k.mp, k.st, k.kv⟩)
  rcases run_next_at (P := P) w ty r m since c0 seen arr clock k.it k.mp k.old k.le with ⟨h0, hr⟩ | ⟨e, he, w1, hw1, hr⟩
  · refine ⟨_, w, .refl w, .inl ⟨rfl, rfl, ?_⟩, .inl (by simp [execOp, ha _ _ hx, hr])⟩
    refine (List.perm_ext_iff_of_nodup k.nd hes).2 fun p => ⟨k.sub p, fun hp => ?_⟩
    have : (enc p.1, p.2) ∈ arr.toList.map (fun e => (e.key, e.val)) := by rw [k.kv]; exact List.mem_map.2 ⟨p, hp, rfl⟩
    obtain ⟨x, hx1, hx2⟩ := List.mem_map.1 this
    obtain ⟨q, hq, hq2⟩ := (k.seen x hx1).1 (all_seen arr seen h0 x hx1)
    rw [hx2] at hq2
    simp only [Prod.mk.injEq] at hq2
    obtain rfl : p = q := Prod.ext (E.inj _ _ hq2.1) hq2.2
    exact hq
  · obtain ⟨he1, he2⟩ := mem_left he
    have : (e.key, e.val) ∈ es.map fun p => (enc p.1, p.2) := by rw [← k.kv]; exact List.mem_map.2 ⟨e, he1, rfl⟩
    obtain ⟨p, hp, hpe⟩ := List.mem_map.1 this
    simp only [Prod.mk.injEq] at hpe
    have hnp : p ∉ ds := fun hin => by
      have := (k.seen e he1).2 ⟨p, hin, by rw [hpe.1, hpe.2]⟩
      rw [he2] at this
      cases this
    have hheap : (setBlock w1 r (.mapIter (some m) since (seen.push e.born) clock)).heap = w.heap.setIfInBounds r (.mapIter (some m) since (seen.push e.born) clock) := by
      rcases hw1 with rfl | rfl <;> rfl
    have hlt := lt_of_some k.it
    have hit : (w.heap.setIfInBounds r (.mapIter (some m) since (seen.push e.born) clock))[r]? = some (.mapIter (some m) since (seen.push e.born) clock) := by simp [hlt]
    have hmp : (w.heap.setIfInBounds r (.mapIter (some m) since (seen.push e.born) clock))[m]? = some (.map arr clock) := by
      rw [Array.getElem?_setIfInBounds_ne hrm]
      exact k.mp
    refine ⟨_, setBlock w1 r (.mapIter (some m) since (seen.push e.born) clock), ?_, .inr ⟨p, rfl, hp, hnp, ?_, ?_, ?_⟩, .inl (by simp [execOp, ha _ _ hx, hr, hpe.1, hpe.2])⟩
    · rcases hw1 with rfl | rfl <;> exact ⟨rfl, rfl, rfl, trivial⟩
    · rw [hheap]
      refine ⟨arr, clock, since, clock, seen.push e.born, ⟨hit, hmp, k.st, k.kv, k.old, k.le2, k.le2, fun x hx1 => ?_, fun q hq => ?_, ?_⟩⟩
      · rw [contains_push]
        constructor
        · intro hc
          rw [Bool.or_eq_true] at hc
          rcases hc with hc | hc
          · obtain ⟨q, hq, hq2⟩ := (k.seen x hx1).1 hc
            exact ⟨q, List.mem_append_left _ hq, hq2⟩
          · obtain rfl := born_inj k.st.2.1 hx1 he1 (by simpa using hc)
            exact ⟨p, by simp, by rw [hpe.1, hpe.2]⟩
        · rintro ⟨q, hq, hq2⟩
          rw [Bool.or_eq_true]
          rcases List.mem_append.1 hq with hq | hq
          · exact .inl ((k.seen x hx1).2 ⟨q, hq, hq2⟩)
          · obtain rfl := List.mem_singleton.1 hq
            simp only [Prod.mk.injEq] at hq2
            obtain rfl := key_inj k.st.2.2 hx1 he1 (by rw [hq2.1, hpe.1])
            exact .inr (by simp)
      · rcases List.mem_append.1 hq with hq | hq
        · exact k.sub q hq
        · obtain rfl := List.mem_singleton.1 hq
          exact hp
      · exact List.nodup_append.2 ⟨k.nd, by simp, fun a ha b hb e => hnp (by simp at hb; subst hb; subst e; exact ha)⟩
    · rw [hheap]
      exact ⟨arr, clock, since, seen, e, hit, hmp, k.st.2.1, he1, hpe.1.symm, hpe.2.symm⟩
    · rw [hheap]
      exact Ext.set _ _ _ rfl
theorem ok_entry {x : Operand} {p : κ × Value} (hx : f.ev x = some (.pointer (some ⟨r, 0, Option.none⟩))) (hi : ItL enc h r m p) :
    OkP P f ⟨d, .entry x, ty, pos, af, g⟩ h (.tuple ⟨[enc p.1, p.2]⟩) := fun ρ w ha hw => by
  subst hw
  obtain ⟨arr, clock, since, seen, e, h1, h2, h3, h4, h5, h6⟩ := hi
  have hr := run_entry_at (P := P) w r m since seen arr clock e h1 h2 h4 h3
  simp [execOp, ha _ _ hx, hr, h5, h6]
end
end Go.RK

/-
  LISTS SORTED BY A TEXT, AND MAPS, in plain Lean: what is set, let go and found is alike in both; names sorted.
-/
namespace Go.Proofs.YtbokngiajfdanaaGreatDoor
open Go Go.RK

theorem lt_tri {a b : List UInt8} (h1 : ¬ a < b) (h2 : ¬ b < a) : a = b := List.le_antisymm (List.not_lt.1 h2) (List.not_lt.1 h1)

section
variable {α β : Type}
/-- Rising, each key once. -/
def Rise (L : List (List UInt8 × α)) : Prop := L.Pairwise fun a b => a.1 < b.1
def setL : List (List UInt8 × α) → List UInt8 → α → List (List UInt8 × α)
  | [], n, v => [(n, v)]
  | (m, w) :: L, n, v => if m < n then (m, w) :: setL L n v else if m = n then (n, v) :: L else (n, v) :: (m, w) :: L
def delL (L : List (List UInt8 × α)) (n : List UInt8) : List (List UInt8 × α) := L.filter fun p => decide (p.1 ≠ n)
def getL (L : List (List UInt8 × α)) (n : List UInt8) : Option α := (L.find? fun p => decide (p.1 = n)).map (·.2)
theorem Rise.nd {L : List (List UInt8 × α)} (h : Rise L) : (L.map (·.1)).Nodup := by
  refine List.pairwise_map.2 (h.imp fun {a b} hab e => ?_)
  rw [e] at hab
  exact List.lt_irrefl _ hab
theorem mem_setL {L : List (List UInt8 × α)} {n : List UInt8} {v : α} {p : List UInt8 × α} (h : p ∈ setL L n v) : p = (n, v) ∨ p ∈ L := by
  induction L with
  | nil => simpa [setL] using h
  | cons a L ih =>
    obtain ⟨m, w⟩ := a
    unfold setL at h
    split at h
    · rcases List.mem_cons.1 h with rfl | h
      · exact .inr List.mem_cons_self
      · exact (ih h).imp id (List.mem_cons_of_mem _)
    · split at h
      · rcases List.mem_cons.1 h with rfl | h
        · exact .inl rfl
        · exact .inr (List.mem_cons_of_mem _ h)
      · rcases List.mem_cons.1 h with rfl | h
        · exact .inl rfl
        · exact .inr h
theorem Rise.set {L : List (List UInt8 × α)} (h : Rise L) (n : List UInt8) (v : α) : Rise (setL L n v) := by
  induction L with
  | nil => simp [setL, Rise]
  | cons a L ih =>
    obtain ⟨m, w⟩ := a
    obtain ⟨h1, h2⟩ := List.pairwise_cons.1 h
    unfold setL
    split
    · rename_i hlt
      refine List.pairwise_cons.2 ⟨fun p hp => ?_, ih h2⟩
      rcases mem_setL hp with rfl | hp
      · exact hlt
      · exact h1 p hp
    · rename_i hlt
      split
      · rename_i he
        subst he
        exact List.pairwise_cons.2 ⟨h1, h2⟩
      · rename_i hne
        have hnm : n < m := by
          rcases Decidable.em (n < m) with h | h
          · exact h
          · exact absurd (lt_tri hlt h) hne
        refine List.pairwise_cons.2 ⟨fun p hp => ?_, h⟩
        rcases List.mem_cons.1 hp with rfl | hp
        · exact hnm
        · exact List.lt_trans hnm (h1 p hp)
/-! ### maps -/
def encE (f : α → Value) (E : List (List UInt8 × α)) : List (List UInt8 × Value) := E.map fun p => (p.1, f p.2)
/-- What the map has behind a set. -/
def putE (E : List (List UInt8 × α)) (n : List UInt8) (v : α) : List (List UInt8 × α) := if (getL E n).isSome = true then E.map (fun p => if p.1 = n then (n, v) else p) else E ++ [(n, v)]
/-- The names of a list, sorted. -/
def srtS (l : List (List UInt8)) : List (List UInt8) := l.mergeSort fun x y => decide (x ≤ y)
end
end Go.Proofs.YtbokngiajfdanaaGreatDoor


/-
  LISTS RISING BY A TEXT: where one is set, let go; rows of structs: a cell set, a part taken.
-/
namespace Go.Proofs.YtbokngiajfdanaaGreatDoor
open Go Go.RK

theorem At.tl {h : Heap} {b o : Nat} {x : Value} {xs : List Value} (a : At h b o (x :: xs)) : At h b (o + 1) xs := fun j v hj => by
  have := a (j + 1) v (by simpa using hj)
  rwa [show o + (j + 1) = o + 1 + j by omega] at this
section
variable {α : Type} {F : α → List Value} {sz : Nat} (hF : ∀ a, (F a).length = sz)
include hF
end
end Go.Proofs.YtbokngiajfdanaaGreatDoor


/-
  FRAMES (layer 4): a message's bytes, by the code and by the document.
-/
namespace Go.Proofs.YtbokngiajfdanaaGreatDoor
open Go Go.RK

theorem byKf {k : Int} (h0 : 0 ≤ k) (h1 : k ≤ 255) : By (UInt8.ofNat k.toNat) = .int .u8 k := by
  show Value.int .u8 ((UInt8.ofNat k.toNat).toNat : Int) = .int .u8 k
  rw [UInt8.toNat_ofNat']
  congr 1
  omega
theorem rtFf {n : Int} (h : 0 ≤ n ∧ n ≤ 4294967295) : Rt n 4 := by
  unfold Rt
  rw [show (256 : Int) ^ 4 = 4294967296 from rfl]
  omega
/-- A message's bytes. -/
def frB (k : Int) (l : List UInt8) : List UInt8 := [UInt8.ofNat k.toNat] ++ be (4 + (l.length : Int)) 4 ++ l
theorem bys_app (l m : List UInt8) : bys (l ++ m) = bys l ++ bys m := List.map_append ..
theorem bys_one {k : Int} (hk : 0 ≤ k ∧ k ≤ 255) : bys [UInt8.ofNat k.toNat] = [.int .u8 k] := congrArg (fun z => [z]) (byKf hk.1 hk.2)
set_option maxHeartbeats 4000000 in
set_option maxRecDepth 100000 in
theorem frame04 {h : Heap} {v : Value} (k : Int) (hk : 0 < k ∧ k ≤ 255) (l : List UInt8) (hv : Rd h v 1 l.length (bys l)) (hl : l.length ≤ 1000000000) :
    CallsH Tryz.prog 77 ⟨[.agg ⟨[.int .u8 k, v]⟩]⟩ h fun u h' => Own h' u 5 1 (frB k l).length (bys (frB k l)) ∧ Ext No h h' := by
  obtain ⟨A, c, rfl, _⟩ := id hv
  refine calls [(0, _)] Tryz.func77 rfl Tryz.ntmps77 rfl ⟨rfl, trivial⟩ ?_
  all_goals (refine WC.sr ?_; refine WL.stepR (okE_box rfl) rfl rfl rfl ?_; rintro _ h1 ⟨b1, rfl, hg1, hb1, hx1⟩; refine Go ?_; refine WC.sr ?_; refine Go ?_; refine WC.seq ?_; refine WC.sr ?_; refine Go ?_; refine Ld ?_; refine Go ?_; refine Gs [(1, _), (3, _), (6, _)] ?_; refine goC 1 2 ?_ TT.mk; refine goB 1 ?_; refine WC.region ?_; refine Go ?_; refine Ld ?_; refine WL.stepR (okE_buildSlice (vs := [_]) (cs := [_]) (fun | [a0] => [a0] | _ => []) Tryz.underlying85 rfl rfl (by kernel_rfl)) rfl rfl rfl ?_; rintro _ h2 ⟨b2, rfl, hg2, hb2, hx2⟩; refine WL.stepR (ok_append (sz := 1) (bytes := 1) rfl Tryz.underlying85 (show Tryz.prog.info? 5 = some Tryz.t5 by kernel_rfl) rfl rfl rfl rfl (by decide) rfl rfl (Own.nil _ 5 1) (rd_blk (len := 1) (sz := 1) (cs := [.int .u8 k]) hb2 rfl) (by simp [Value.oneCell']) (by simp only [maxLen]; omega) (by omega)) rfl rfl rfl ?_; rintro v3 h3 ⟨ho3, hx3, hl3⟩)
  all_goals (have hX3 : Ext No h h3 := (hx1.trans hx2).trans (hx3.mono fun _ _ e => by simp [Value.ownBlock] at e)
             have hb13 := (hx2.trans (hx3.mono fun _ _ e => by simp [Value.ownBlock] at e)).obj hb1 nos
             have hr3 : Rd h3 v3 1 ([UInt8.ofNat k.toNat] : List UInt8).length (bys [UInt8.ofNat k.toNat]) := by
              rw [bys_one ⟨Int.le_of_lt hk.1, hk.2⟩]
              exact ho3.rd
             clear ho3 hl3)
  all_goals (refine Go ?_; refine Gn ?_; refine WC.seq ?_; refine WC.drawH (fun h' => Ext No h3 h') 9 10 rfl fol ?_; refine WH.tk 0 rfl (fun hq hC => ok_move rfl) rfl rfl rfl ?_; refine WH.tk 1 rfl (fun hq hC => ok_fieldAddr rfl Tryz.underlying129 rfl (fun w => Tryz.sizeOf85 w)) rfl rfl rfl ?_; refine WH.tk 2 rfl (fun hq hC => ok_load (fun w => Tryz.isAgg85 w) rfl (by first | exact hC.cell (by first | exact cell_blk hb13 rfl | assumption | exact cell_blk (by assumption) rfl) nos)) rfl rfl rfl ?_; refine WH.tk 3 rfl (fun hq hC => ok_lenL rfl Tryz.underlying85 rfl) rfl rfl rfl ?_; refine WH.tk 4 rfl (fun hq hC => ok_addI rfl rfl (by omega)) rfl rfl rfl ?_; refine WH.tk 6 rfl (fun hq hC => ok_fieldAddr rfl Tryz.underlying129 rfl (fun w => Tryz.sizeOf85 w)) rfl rfl rfl ?_; refine WH.tk 7 rfl (fun hq hC => ok_load (fun w => Tryz.isAgg85 w) rfl (by first | exact hC.cell (by first | exact cell_blk hb13 rfl | assumption | exact cell_blk (by assumption) rfl) nos)) rfl rfl rfl ?_; refine WH.one 5 (by kernel_rfl) ?_; refine Comes1.call (vs := [_, _, _]) rfl rfl (fun a w => Tryz.call127 a w) rfl (put01 [UInt8.ofNat k.toNat] ((l.length : Int) + 4) 4 (.inr (.inr rfl)) (rtFf ⟨by omega, by omega⟩) hr3 (by simp)) rfl rfl rfl ?_ (fun _ => by kernel_rfl); rintro v5 h5 ⟨ho5, hx5, hf5⟩; rw [Int.add_comm] at ho5)
  all_goals (refine ⟨fun _ => hx5, ?_⟩; (have hbl : ([UInt8.ofNat k.toNat] ++ be (4 + (l.length : Int)) 4).length = 5 := by simp [be_len]); refine WH.one 8 (by kernel_rfl) ?_; refine Comes1.run rfl (ok_append (sz := 1) (bytes := 1) rfl Tryz.underlying85 (show Tryz.prog.info? 5 = some Tryz.t5 by kernel_rfl) rfl rfl rfl rfl (by decide) rfl rfl ho5 (hv.ext0 (hX3.trans hx5)) (by intro c hc; obtain ⟨b, _, rfl⟩ := List.mem_map.1 hc; rfl) (by simp only [maxLen]; omega) (by omega)) rfl rfl rfl ?_ (fun _ => by kernel_rfl); rintro v8 h8 ⟨ho8, hx8, hl8⟩; refine ⟨fun _ => hx5.trans' hx8 (fun q hq e => by have := hf5 q e; omega), ?_⟩; have hX8 := hx5.trans' hx8 (fun q hq e => by have := hf5 q e; omega); refine WH.one 9 (by kernel_rfl) ?_; refine Comes1.run rfl (OkP.r (ok_assign rfl)) rfl rfl rfl ?_ (fun _ => by kernel_rfl); rintro _ hz ⟨rfl, _⟩; subst hz; refine ⟨fun _ => hX8, ?_⟩; refine WH.done (by kernel_rfl) ?_; refine Gn ?_; refine Gs [(2, _)] ?_; refine Gt ?_; exact ⟨by unfold frB; rw [List.length_append (bs := l), bys_app _ l]; exact ho8, hX3.trans hX8⟩)
end Go.Proofs.YtbokngiajfdanaaGreatDoor


/-
  MESSAGES (layer 6): bytes, as the document writes them (of BkW.w and BkQ.w what needs no faults).
-/
namespace Go.Proofs.YtbokngiajfdanaaGreatDoor
open Go Go.RK

theorem rt2q {n : Int} (h : -32768 ≤ n ∧ n ≤ 65535) : Rt n 2 := by
  unfold Rt
  rw [show (256 : Int) ^ 2 = 65536 from rfl]
  omega
theorem rt4sq {n : Int} (h : -2147483648 ≤ n ∧ n ≤ 4294967295) : Rt n 4 := by
  unfold Rt
  rw [show (256 : Int) ^ 4 = 4294967296 from rfl]
  omega
theorem sz2q : Sz 2 := .inr (.inl rfl)
theorem sz4q : Sz 4 := .inr (.inr rfl)
theorem flat_lenq {α : Type} {f : α → List UInt8} {n : Nat} (l : List α) (h : ∀ x ∈ l, (f x).length ≤ n) : (l.flatMap f).length ≤ l.length * n := by
  induction l with
  | nil => simp
  | cons a l ih =>
    have h1 := ih (fun x hx => h x (by simp [hx]))
    have h2 := h a (by simp)
    simp only [List.flatMap_cons, List.length_append, List.length_cons, Nat.add_mul, Nat.one_mul]
    omega
theorem flat_takeq {α : Type} {f : α → List UInt8} {n : Nat} (l : List α) (k : Nat) (h : ∀ x ∈ l, (f x).length ≤ n) : ((l.take k).flatMap f).length ≤ l.length * n :=
  Nat.le_trans (flat_lenq _ fun x hx => h x (List.mem_of_mem_take hx)) (Nat.mul_le_mul_right n (by rw [List.length_take]; omega))
theorem flat_snocq {α : Type} {f : α → List UInt8} {l : List α} {k : Nat} {y : α} (hy : l[k]? = some y) : (l.take (k + 1)).flatMap f = (l.take k).flatMap f ++ f y := by
  rw [List.take_add_one, hy, List.flatMap_append]
  simp
def encColq (c : ColD) : List UInt8 := c.nm ++ [0] ++ be c.t 4 ++ be c.a 2 ++ be c.o 4 ++ be c.s 2 ++ be c.m 4 ++ be c.f 2
def encCelq (c : Cel) : List UInt8 := if c.null then be 4294967295 4 else be c.bytes.length 4 ++ c.bytes
theorem encCel_lenq {c : Cel} (h : c.bytes.length ≤ 1000) : (encCelq c).length ≤ 1100 := by unfold encCelq; split <;> simp [be_len] <;> omega
def RStepq (h : Heap) (v : Value) (h' : Heap) (v' : Value) : Prop := Ext (fun q => v.ownBlock = some q) h h' ∧ ∀ q, v'.ownBlock = some q → v.ownBlock = some q ∨ h.size ≤ q
theorem RStepq.fresh {g h h' : Heap} {v v' : Value} (a : RStepq h v h' v') (x : Ext No g h) (f : ∀ q, v.ownBlock = some q → g.size ≤ q) : Ext No g h' ∧ ∀ q, v'.ownBlock = some q → g.size ≤ q :=
  ⟨x.trans' a.1 (fun q hq e => by have := f q e; omega), fun q e => (a.2 q e).elim (f q) (fun z => by have := x.size; omega)⟩
set_option maxHeartbeats 2000000 in
set_option maxRecDepth 100000 in
theorem str06q {h : Heap} {v : Value} (l s : List UInt8) (hv : Own h v 5 1 l.length (bys l)) (hl : l.length + s.length ≤ 1000000000) :
    CallsH Tryz.prog 125 ⟨[v, St s]⟩ h fun u h' => Own h' u 5 1 (l ++ s ++ [0]).length (bys (l ++ s ++ [0])) ∧ RStepq h v h' u := by
  obtain ⟨A0, c0, rfl, _⟩ := id hv.slice
  refine calls [(0, _), (1, _)] Tryz.func125 rfl Tryz.ntmps125 rfl ⟨rfl, rfl, trivial⟩ ?_
  all_goals (refine WC.sr ?_; refine Go ?_; refine WC.sr ?_; refine Go ?_; refine WL.stepR (okE_appendS rfl Tryz.underlying85 Tryz.underlying9 (show Tryz.prog.info? 5 = some Tryz.t5 by kernel_rfl) rfl rfl rfl rfl rfl hv (by omega)) rfl rfl rfl ?_; rintro v1 h1 ⟨ho1, hx1, hl1, _⟩; refine WL.stepR (okE_buildSlice (vs := [_]) (cs := [_]) (fun | [a0] => [a0] | _ => []) Tryz.underlying85 rfl rfl (by kernel_rfl)) rfl rfl rfl ?_; rintro _ h2 ⟨b2, rfl, hg2, hb2, hx2⟩; refine WL.stepR (ok_append (sz := 1) (bytes := 1) rfl Tryz.underlying85 (show Tryz.prog.info? 5 = some Tryz.t5 by kernel_rfl) rfl rfl rfl rfl (by decide) rfl rfl (ho1.ext hx2 (fun _ _ => nos)) (rd_blk hb2 rfl) (by simp [Value.oneCell']) (by simp only [maxLen]; omega) (by omega)) rfl rfl rfl ?_; rintro v3 h3 ⟨ho3, hx3, hl3⟩; refine Go ?_; refine Gs [(4, _)] ?_; refine Gt ?_)
  all_goals (have hf1 : ∀ q, v1.ownBlock = some q → (Value.slice A0 l.length c0).ownBlock = some q ∨ h.size ≤ q := hl1
             have s1 := hx1.size
             have s2 := hx2.size
             refine ⟨?_, (hx1.trans (hx2.mono fun _ _ e => e.elim)).trans' hx3 (fun q hq e => (hf1 q e).elim id (fun z => by omega)), fun q hq => hl3.elim (fun e => hf1 q (e ▸ hq)) (fun e => .inr (by rw [e] at hq; cases hq; omega))⟩
             rw [show (l ++ s ++ [(0 : UInt8)]).length = l.length + s.length + 1 by simp [Nat.add_assoc], show bys (l ++ s ++ [0]) = bys l ++ bys s ++ [Value.int .u8 0] by simp only [bys, List.map_append, List.map_cons, List.map_nil]; rfl]
             exact ho3)
set_option maxHeartbeats 2000000 in
set_option maxRecDepth 100000 in
theorem list06q {h : Heap} {v w : Value} (l : List UInt8) (L : List Int) (hv : Rd h v 1 l.length (bys l)) (hw : Rd h w 1 L.length (ints L)) (hl : l.length ≤ 1000000) (hm : L.length ≤ 100) {s : Nat} (hs : Sz s) (h4 : s ≤ 4) (hn : ∀ n ∈ L, Rt n s) :
    CallsH Tryz.prog 124 ⟨[v, w, In s]⟩ h fun u h' => Own h' u 5 1 (l ++ be L.length 2 ++ L.flatMap fun n => be n s).length (bys (l ++ be L.length 2 ++ L.flatMap fun n => be n s)) ∧ Ext No h h' ∧ ∀ q, u.ownBlock = some q → h.size ≤ q := by
  obtain ⟨A0, c0, rfl, _⟩ := id hv
  obtain ⟨A, c, rfl, _⟩ := id hw
  have hfl : ∀ j, ((L.take j).flatMap fun n => be n s).length ≤ 1000 := fun j => Nat.le_trans (flat_takeq (n := s) L j fun x hx => by rw [be_len]; exact Nat.le_refl _) (Nat.le_trans (Nat.mul_le_mul hm h4) (by decide))
  refine calls [(0, _), (1, _), (2, _)] Tryz.func124 rfl Tryz.ntmps124 rfl ⟨rfl, rfl, rfl, trivial⟩ ?_
  all_goals (refine WC.sr ?_; refine Go ?_; refine WC.sr ?_; refine Go ?_; refine WL.call (vs := [_, _, _]) rfl (fun a w => Tryz.call127 a w) rfl (put01 l (L.length : Int) 2 sz2q (rt2q (by omega)) hv (by omega)) rfl rfl rfl ?_; rintro v1 h1 ⟨ho1, hx1, hf1⟩; refine Go ?_; refine Gs [(0, _), (1, _), (2, _)] ?_; refine WC.seq ?_; refine WC.sr ?_; refine Go ?_; refine WC.block ?_)
  -- loop 0: slots that turn [0, 7], that stay [1, 2]
  all_goals (refine WC.loopG (X := Nat × Value) (fun x => ([(7, In (x.1 : Int)), (0, x.2)] : Fr)) [(1, _), (2, _)] (fun y h' => y.1 ≤ L.length ∧ Own h' y.2 5 1 (l ++ be (L.length : Int) 2 ++ (L.take y.1).flatMap fun n => be n s).length (bys (l ++ be (L.length : Int) 2 ++ (L.take y.1).flatMap fun n => be n s)) ∧ Ext No h h' ∧ ∀ q, y.2.ownBlock = some q → h.size ≤ q) (fun y => L.length - y.1) ((0, v1)) ⟨rfl, rfl, rfl, rfl, trivial⟩ (by exact ⟨Nat.zero_le _, by simpa using ho1, hx1, hf1⟩) ?_; rintro ⟨k, u⟩ h2 ⟨hk, ho2, hx2, hf2⟩; dsimp only at hk ho2 hf2)
  all_goals (refine WC.sub [(0, _), (7, _), (1, _), (2, _)] ⟨rfl, rfl, rfl, rfl, trivial⟩ ?_; dsimp only)
  all_goals (refine WC.seq ?_; refine WC.sr ?_; refine Go ?_; refine goC 1 2 (Hb.mk fun hb => ?_) (Hb.mk fun hb => ?_))
  all_goals (first | (fail_if_success refine goB 1 ?_) | (
  refine goB 1 ?_
  all_goals (refine WC.skip ?_)
  skip))
  all_goals (first | (fail_if_success refine goB 2 ?_) | (
  refine goB 2 ?_
  all_goals (refine WC.exit ?_; repeat' (with_reducible first | refine thenP_x ?_ | refine blockP_miss rfl ?_ | refine blockP_hit ?_ | refine blockP_n ?_ | refine thenP_n ?_))
  all_goals (refine Br.out (i := 1000) ?_)
  skip))
  all_goals (refine Gn ?_; first | (refine Br.keep ?_) | (refine Gs [(0, _), (1, _), (2, _), (7, _)] ?_))
  all_goals (first | (refine Br.keep ?_) | (refine WC.seq ?_))
  all_goals (first | (refine Br.keep ?_) | (refine WC.block ?_))
  all_goals (first | (refine Br.keep ?_) | (refine WC.region ?_))
  all_goals (first
               | (refine Br.keep ?_)
               | (obtain ⟨bL, oL, hA, hbL, hat⟩ := Rd.at_ (hw.ext0 hx2) (by omega)
                  obtain ⟨yy, hy⟩ : ∃ y, L[k]? = some y := ⟨_, List.getElem?_eq_getElem (by omega)⟩
                  have hyo := hn _ (List.mem_of_getElem? hy)
                  have hcd : cell h2 ⟨bL, oL + k * 1, none⟩ = some (In yy) := hat.get k (get_int hy) (by omega)
                  have hlj := hfl k))
  all_goals (first | (refine Br.keep ?_) | (refine WL.step (ok_move rfl) rfl rfl rfl ?_))
  all_goals (refine Go ?_; first | (refine Br.keep ?_) | (refine WL.step (ok_idxAddrA Tryz.underlying29 (fun w => Tryz.sizeOf3 w) rfl rfl rfl (by omega) (by first | rfl | assumption)) rfl rfl rfl ?_))
  all_goals (first | (refine Br.keep ?_) | (refine WL.ld rfl (by first | exact hcd | assumption | exact cell_blk (by assumption) rfl) rfl rfl rfl ?_))
  all_goals (refine Go ?_)
  all_goals (first
               | (refine Br.keep ?_)
               | (refine WL.call (vs := [_, _, _]) rfl (fun a w => Tryz.call127 a w) rfl (put01 _ yy s hs hyo ho2.rd (by simp only [List.length_append, be_len]; omega)) rfl rfl rfl ?_
                  rintro v3 h3 ⟨ho3, hx3, hf3⟩))
  all_goals (refine Go ?_; first | (refine Br.keep ?_) | (refine Gs [(0, _), (1, _), (2, _), (7, _)] ?_))
  all_goals (first | (refine Br.keep ?_) | (refine WC.region ?_))
  all_goals (refine Go ?_; first | (refine Br.keep ?_) | (exact ⟨(k + 1, _), ⟨rfl, rfl, rfl, rfl, trivial⟩, (by exact ⟨by omega, by rw [flat_snocq hy, ← List.append_assoc]; exact ho3, hx2.trans hx3, fun q e => (by have := hf3 q e; have := hx2.size; omega)⟩), (by simp; omega)⟩))
  all_goals (try (refine Br.mk (i := 1000) ?_))
  all_goals (refine Gn ?_; refine Gs [(0, _)] ?_; refine WC.sr ?_; refine Go ?_; refine Gt ?_)
  all_goals (rw [List.take_of_length_le (by omega)] at ho2
             exact ⟨ho2, hx2, hf2⟩)
theorem be_neg1q : be (-1) 4 = be 4294967295 4 := by
  have h : ∀ i, i < 4 → bI (-1 + 256 ^ 4) i = bI (-1) i := fun i hi => bI_up hi
  exact (beK_congr (m := -1 + 256 ^ 4) (n := -1) h (by decide) 4).symm
set_option maxHeartbeats 2000000 in
set_option maxRecDepth 100000 in
theorem put06q {h : Heap} {v vr : Value} (l : List UInt8) (R : List Cel) (hv : Rd h v 1 l.length (bys l)) (hR : Cels h vr R) (hl : l.length ≤ 1000000) (hm : R.length ≤ 100) (hc : ∀ c ∈ R, c.bytes.length ≤ 1000) :
    CallsH Tryz.prog 126 ⟨[v, vr]⟩ h fun u h' => Own h' u 5 1 (l ++ be R.length 2 ++ R.flatMap encCelq).length (bys (l ++ be R.length 2 ++ R.flatMap encCelq)) ∧ Ext No h h' ∧ ∀ q, u.ownBlock = some q → h.size ≤ q := by
  obtain ⟨A0, c0, rfl, _⟩ := id hv
  obtain ⟨hr, ⟨_, A, cc, rfl, _⟩, hok⟩ := hR
  have hfl : ∀ k, ((R.take k).flatMap encCelq).length ≤ 110000 := fun k => Nat.le_trans (flat_takeq R k fun x hx => encCel_lenq (hc x hx)) (by omega)
  refine calls [(0, _), (1, _)] Tryz.func126 rfl Tryz.ntmps126 rfl ⟨rfl, rfl, trivial⟩ ?_
  all_goals (refine WC.sr ?_; refine Go ?_; refine WC.sr ?_; refine Go ?_; refine WL.call (vs := [_, _, _]) rfl (fun a w => Tryz.call127 a w) rfl (put01 l (R.length : Int) 2 sz2q (rt2q (by omega)) hv (by omega)) rfl rfl rfl ?_; rintro v1 h1 ⟨ho1, hx1, hf1⟩; refine Go ?_; refine Gs [(0, _), (1, _)] ?_; refine WC.seq ?_; refine WC.sr ?_; refine Go ?_; refine WC.block ?_)
  -- loop 0: slots that turn [0, 5], that stay [1]
  all_goals (refine WC.loopG (X := Nat × Value) (fun x => ([(5, In (x.1 : Int)), (0, x.2)] : Fr)) [(1, _)] (fun y h' => y.1 ≤ R.length ∧ Own h' y.2 5 1 (l ++ be (R.length : Int) 2 ++ (R.take y.1).flatMap encCelq).length (bys (l ++ be (R.length : Int) 2 ++ (R.take y.1).flatMap encCelq)) ∧ Ext No h h' ∧ ∀ q, y.2.ownBlock = some q → h.size ≤ q) (fun y => R.length - y.1) ((0, v1)) ⟨rfl, rfl, rfl, trivial⟩ (by exact ⟨Nat.zero_le _, by simpa using ho1, hx1, hf1⟩) ?_; rintro ⟨k, u⟩ h2 ⟨hk, ho2, hx2, hf2⟩; dsimp only at hk ho2 hf2)
  all_goals (refine WC.sub [(0, _), (5, _), (1, _)] ⟨rfl, rfl, rfl, trivial⟩ ?_; dsimp only)
  all_goals (refine WC.seq ?_; refine WC.sr ?_; refine Go ?_; refine goC 1 2 (Hb.mk fun hb => ?_) (Hb.mk fun hb => ?_))
  all_goals (first | (fail_if_success refine goB 1 ?_) | (
  refine goB 1 ?_
  all_goals (refine WC.skip ?_)
  skip))
  all_goals (first | (fail_if_success refine goB 2 ?_) | (
  refine goB 2 ?_
  all_goals (refine WC.exit ?_; repeat' (with_reducible first | refine thenP_x ?_ | refine blockP_miss rfl ?_ | refine blockP_hit ?_ | refine blockP_n ?_ | refine thenP_n ?_))
  all_goals (refine Br.out (i := 1000) ?_)
  skip))
  all_goals (refine Gn ?_; first | (refine Br.keep ?_) | (refine Gs [(0, _), (1, _), (5, _)] ?_))
  all_goals (first | (refine Br.keep ?_) | (refine WC.seq ?_))
  all_goals (first | (refine Br.keep ?_) | (refine WC.block ?_))
  all_goals (first | (refine Br.keep ?_) | (refine WC.sr ?_))
  all_goals (first
               | (refine Br.keep ?_)
               | (obtain ⟨bL, oL, hA, hbL, hat⟩ := Rd.at_ (hr.ext0 hx2) (by omega)
                  obtain ⟨⟨yn, yv, yb⟩, hy⟩ : ∃ y, R[k]? = some y := ⟨_, List.getElem?_eq_getElem (by omega)⟩
                  have hyo := (hok _ (List.mem_of_getElem? hy)).1
                  have hyc := hc _ (List.mem_of_getElem? hy)
                  dsimp only at hyo hyc
                  obtain ⟨yA, yc, rfl, _⟩ := id hyo
                  have hcd : At h2 bL (oL + k * 2) [.bool yn, .slice yA yb.length yc] := At.elem Cel.len hat hy
                  have hlk := hfl k
                  have hl2 : (l ++ be (R.length : Int) 2 ++ (R.take k).flatMap encCelq).length ≤ 2000000 := by simp only [List.length_append, be_len]; omega
                  have hx2' := hx2.size
                  have hl5 : (l ++ be (R.length : Int) 2 ++ (R.take k).flatMap encCelq ++ be (yb.length : Int) 4).length ≤ 3000000 := by rw [List.length_append, be_len]; omega
                  cases yn))
  all_goals (first | (refine Br.keep ?_) | (refine WL.step (ok_move rfl) rfl rfl rfl ?_))
  all_goals (refine Go ?_; first | (refine Br.keep ?_) | (refine WL.step (ok_idxAddrA Tryz.underlying30 (fun w => Tryz.sizeOf87 w) rfl rfl rfl (by omega) (by first | rfl | assumption)) rfl rfl rfl ?_))
  all_goals (refine Go ?_; first | (refine Br.keep ?_) | (refine WL.ld rfl (by first | exact hcd.get 0 rfl rfl | assumption | exact cell_blk (by assumption) rfl) rfl rfl rfl ?_))
  all_goals (refine Gn ?_; first | (refine Br.keep ?_) | (refine Gs [(0, _), (1, _), (5, _), (20, _)] ?_))
  all_goals (first | (refine Br.keep ?_) | (refine goC 3 4 ?_ TT.mk))
  all_goals (first | (fail_if_success refine goB 3 ?_) | (
  refine goB 3 ?_
  all_goals (refine WC.region ?_; refine Go ?_; refine WL.call (vs := [_, _, _]) rfl (fun a w => Tryz.call127 a w) rfl (put01 _ (-1) 4 sz4q (rt4sq (by omega)) ho2.rd (by omega)) rfl rfl rfl ?_; rintro v5 h5 ⟨ho5, hx5, hf5⟩; have hX5 := hx2.trans hx5; (have hF5 : ∀ q, v5.ownBlock = some q → h.size ≤ q := fun q e => by have := hf5 q e; omega); (have hO5 : Own h5 v5 5 1 (l ++ be (R.length : Int) 2 ++ (R.take (k + 1)).flatMap encCelq).length (bys (l ++ be (R.length : Int) 2 ++ (R.take (k + 1)).flatMap encCelq)) := by rw [flat_snocq hy, show encCelq ⟨true, .slice yA yb.length yc, yb⟩ = be 4294967295 4 from rfl, ← be_neg1q, ← List.append_assoc]; exact ho5); refine Go ?_)
  skip))
  all_goals (first | (fail_if_success refine goB 4 ?_) | (
  refine goB 4 ?_
  all_goals (refine WC.drawH (fun h' => Ext No h2 h') 14 15 rfl fol ?_; refine WH.tk 0 rfl (fun hq hC => ok_move rfl) rfl rfl rfl ?_; refine WH.tk 1 rfl (fun hq hC => ok_move rfl) rfl rfl rfl ?_; refine WH.tk 2 rfl (fun hq hC => ok_move rfl) rfl rfl rfl ?_; refine WH.tk 3 rfl (fun hq hC => ok_idxAddrA Tryz.underlying30 (fun w => Tryz.sizeOf87 w) rfl rfl rfl (by omega) (by first | rfl | assumption)) rfl rfl rfl ?_; refine WH.tk 4 rfl (fun hq hC => ok_fieldAddr rfl Tryz.underlying87 rfl (fun w => Tryz.sizeOf85 w)) rfl rfl rfl ?_; refine WH.tk 5 rfl (fun hq hC => ok_load (fun w => Tryz.isAgg85 w) rfl (by first | exact hC.cell (by first | exact hcd.get 1 rfl rfl | assumption | exact cell_blk (by assumption) rfl) nos)) rfl rfl rfl ?_; refine WH.tk 6 rfl (fun hq hC => ok_lenL rfl Tryz.underlying85 rfl) rfl rfl rfl ?_; refine WH.tk 8 rfl (fun hq hC => ok_move rfl) rfl rfl rfl ?_; refine WH.tk 9 rfl (fun hq hC => ok_move rfl) rfl rfl rfl ?_; refine WH.tk 10 rfl (fun hq hC => ok_idxAddrA Tryz.underlying30 (fun w => Tryz.sizeOf87 w) rfl rfl rfl (by omega) (by first | rfl | assumption)) rfl rfl rfl ?_; refine WH.tk 11 rfl (fun hq hC => ok_fieldAddr rfl Tryz.underlying87 rfl (fun w => Tryz.sizeOf85 w)) rfl rfl rfl ?_; refine WH.tk 12 rfl (fun hq hC => ok_load (fun w => Tryz.isAgg85 w) rfl (by first | exact hC.cell (by first | exact hcd.get 1 rfl rfl | assumption | exact cell_blk (by assumption) rfl) nos)) rfl rfl rfl ?_; refine WH.one 7 (by kernel_rfl) ?_; refine Comes1.call (vs := [_, _, _]) rfl rfl (fun a w => Tryz.call127 a w) rfl (put01 _ (yb.length : Int) 4 sz4q (rt4sq (by omega)) ho2.rd (by omega)) rfl rfl rfl ?_ (fun _ => by kernel_rfl); rintro v4 h4 ⟨ho4, hx4, hf4⟩; refine ⟨fun _ => hx4, ?_⟩; refine WH.one 13 (by kernel_rfl) ?_; refine Comes1.run rfl (ok_append (sz := 1) (bytes := 1) rfl Tryz.underlying85 (show Tryz.prog.info? 5 = some Tryz.t5 by kernel_rfl) rfl rfl rfl rfl (by decide) rfl rfl ho4 ((hyo.ext0 hx2).ext0 hx4) (by intro c hc; obtain ⟨b, _, rfl⟩ := List.mem_map.1 hc; rfl) (by simp only [maxLen]; omega) (by omega)) rfl rfl rfl ?_ (fun _ => by kernel_rfl); rintro v5 h5 ⟨ho5, hx5, hl5⟩; refine ⟨fun _ => hx4.trans' hx5 (fun q hq e => by have := hf4 q e; omega), ?_⟩; have hC5 : Ext No h2 h5 := hx4.trans' hx5 (fun q hq e => by have := hf4 q e; omega); have hX5 := hx2.trans hC5; (have hF5 : ∀ q, v5.ownBlock = some q → h.size ≤ q := fun q e => hl5.elim (fun z => by have := hf4 q (z ▸ e); omega) (fun z => by rw [z] at e; cases e; have := hx4.size; omega)); (have hO5 : Own h5 v5 5 1 (l ++ be (R.length : Int) 2 ++ (R.take (k + 1)).flatMap encCelq).length (bys (l ++ be (R.length : Int) 2 ++ (R.take (k + 1)).flatMap encCelq)) := by rw [flat_snocq hy, show encCelq ⟨false, .slice yA yb.length yc, yb⟩ = be yb.length 4 ++ yb from rfl, ← List.append_assoc, ← List.append_assoc, List.length_append (bs := yb), show ∀ m : List UInt8, bys (m ++ yb) = bys m ++ bys yb from fun m => List.map_append ..]; exact ho5); refine WH.one 14 (by kernel_rfl) ?_; refine Comes1.run rfl (OkP.r (ok_assign rfl)) rfl rfl rfl ?_ (fun _ => by kernel_rfl); rintro _ hz ⟨rfl, _⟩; subst hz)
  all_goals (refine ⟨fun _ => hx4.trans' hx5 (fun q hq e => by have := hf4 q e; omega), ?_⟩; refine WH.done (by kernel_rfl) ?_)
  skip))
  all_goals (refine Gn ?_; first | (refine Br.keep ?_) | (refine WC.region ?_))
  all_goals (refine Go ?_; first | (refine Br.keep ?_) | (exact ⟨(k + 1, _), ⟨rfl, rfl, rfl, trivial⟩, (by exact ⟨by omega, hO5, hX5, hF5⟩), (by simp; omega)⟩))
  all_goals (try (refine Br.mk (i := 1000) ?_))
  all_goals (refine Gn ?_; refine Gs [(0, _)] ?_; refine WC.sr ?_; refine Go ?_; refine Gt ?_)
  all_goals (rw [List.take_of_length_le (by omega)] at ho2
             exact ⟨ho2, hx2, hf2⟩)
end Go.Proofs.YtbokngiajfdanaaGreatDoor


