/-
  No cell of these rows narrows 'for every input' (looked for: loops, veiled, ifaces, maps, wideKeys, modest, calm, conditions, laid).
  DERIVED. THE GIVEN ROWS OF THIS SEAT. 11 by the template 'for every input the law returns true; each argument reads behind the call as it read before'; 0 by the template 'total and deterministic' (their statements: YtgfbilmlgibbfaaTotals.lean).
  GIVEN WITH THE SEED: the statements are not yours to turn. If you find one false, say at which input.
  Laid BY PROGRAM, IN A SANDBOX (cutbox-rows.mjs): the forced cells as the released guide's own fill.sh prints them over the translation 64e4d37c4356820a… (all of the seat's roots in one cut). By AI agents, Wed Nov 11 2026. No macro, syntax, notation, axiom, sorry.
-/
import Derived.Test.YtgfbilmlgibbfaaChecked
import GoSem.Claim
import GoSem.ClaimJoined
import GoSem.ClaimMapViews
import Derived.JoinedTies
import Derived.KernelRfl
namespace Go.Proofs.Ytgfbilmlgibbfaa
/- THE CELL 'sum', in the pinned program and in every row, IS THE sha256 OF THE DUMP (.gsa) THAT YtgfbilmlgibbfaaProg.lean LOADS. Nothing in Lean hashes anything: it is a label: what it is worth is what the hold of that sum in a sandbox is worth. -/
noncomputable def Try.pinned : Pinned := { name := "ytgfbilmlgibbfaa", sum := "64e4d37c4356820ad486b52817186f3a1592227b9db1fd1aca0b3ef048c81854", checked := Try.checked }
namespace Rows
def none {H : Type} : Left H := { results := [], args := [] }

/-- 'remudalaw15.TableKeeps': WHATEVER THE INPUT: true; the input reads as it did. -/
def tableKeepsSpec : ChangeSpec := { name := "tableKeeps", fn := fun _ => fun
  | [d1, d2, d3] => { results := [.lit (.bool true)], args := [d1, d2, d3] }
  | _ => none }
def tableKeepsRow : OpenClaim := { program := "ytgfbilmlgibbfaa", sum := "64e4d37c4356820ad486b52817186f3a1592227b9db1fd1aca0b3ef048c81854", func := "remuda/remudalaw15.TableKeeps", spec := "tableKeeps", apart := false }
def TableKeepsSaid : Prop := tableKeepsRow.holds Try.pinned (OpenSpec.ofChange tableKeepsSpec)

/-- ITS FALSE NEIGHBOUR: 'it returns false'. Refute it at one input. -/
def tableKeepsWrong : ChangeSpec := { name := "tableKeeps", fn := fun _ => fun
  | [d1, d2, d3] => { results := [.lit (.bool false)], args := [d1, d2, d3] }
  | _ => none }
def TableKeepsWrongFalsely : Prop := tableKeepsRow.holds Try.pinned (OpenSpec.ofChange tableKeepsWrong)

/-- 'remudalaw10.ColsTell': WHATEVER THE INPUT: true; the input reads as it did. -/
def colsTellSpec : ChangeSpec := { name := "colsTell", fn := fun _ => fun
  | [d1, d2] => { results := [.lit (.bool true)], args := [d1, d2] }
  | _ => none }
def colsTellRow : OpenClaim := { program := "ytgfbilmlgibbfaa", sum := "64e4d37c4356820ad486b52817186f3a1592227b9db1fd1aca0b3ef048c81854", func := "remuda/remudalaw10.ColsTell", spec := "colsTell", inPlace := ["internal/abi.NoEscape"], unfollowed := true, recurses := true, apart := false }
def ColsTellSaid : Prop := colsTellRow.holds Try.pinned (OpenSpec.ofChange colsTellSpec)

/-- ITS FALSE NEIGHBOUR: 'it returns false'. Refute it at one input. -/
def colsTellWrong : ChangeSpec := { name := "colsTell", fn := fun _ => fun
  | [d1, d2] => { results := [.lit (.bool false)], args := [d1, d2] }
  | _ => none }
def ColsTellWrongFalsely : Prop := colsTellRow.holds Try.pinned (OpenSpec.ofChange colsTellWrong)

/-- 'remudalaw28.PortalFetches': WHATEVER THE INPUT: true; the input reads as it did. -/
def portalFetchesSpec : ChangeSpec := { name := "portalFetches", fn := fun _ => fun
  | [d1, d2] => { results := [.lit (.bool true)], args := [d1, d2] }
  | _ => none }
def portalFetchesRow : OpenClaim := { program := "ytgfbilmlgibbfaa", sum := "64e4d37c4356820ad486b52817186f3a1592227b9db1fd1aca0b3ef048c81854", func := "remuda/remudalaw28.PortalFetches", spec := "portalFetches", unfollowed := true, recurses := true, apart := false }
def PortalFetchesSaid : Prop := portalFetchesRow.holds Try.pinned (OpenSpec.ofChange portalFetchesSpec)

/-- ITS FALSE NEIGHBOUR: 'it returns false'. Refute it at one input. -/
def portalFetchesWrong : ChangeSpec := { name := "portalFetches", fn := fun _ => fun
  | [d1, d2] => { results := [.lit (.bool false)], args := [d1, d2] }
  | _ => none }
def PortalFetchesWrongFalsely : Prop := portalFetchesRow.holds Try.pinned (OpenSpec.ofChange portalFetchesWrong)

/-- 'remudalaw17.LruLives': WHATEVER THE INPUT: true; the input reads as it did. -/
def lruLivesSpec : ChangeSpec := { name := "lruLives", fn := fun _ => fun
  | [d1, d2] => { results := [.lit (.bool true)], args := [d1, d2] }
  | _ => none }
def lruLivesRow : OpenClaim := { program := "ytgfbilmlgibbfaa", sum := "64e4d37c4356820ad486b52817186f3a1592227b9db1fd1aca0b3ef048c81854", func := "remuda/remudalaw17.LruLives", spec := "lruLives", apart := false }
def LruLivesSaid : Prop := lruLivesRow.holds Try.pinned (OpenSpec.ofChange lruLivesSpec)

/-- ITS FALSE NEIGHBOUR: 'it returns false'. Refute it at one input. -/
def lruLivesWrong : ChangeSpec := { name := "lruLives", fn := fun _ => fun
  | [d1, d2] => { results := [.lit (.bool false)], args := [d1, d2] }
  | _ => none }
def LruLivesWrongFalsely : Prop := lruLivesRow.holds Try.pinned (OpenSpec.ofChange lruLivesWrong)

/-- 'remudalaw17.LruNobody': WHATEVER THE INPUT: true; the input reads as it did. -/
def lruNobodySpec : ChangeSpec := { name := "lruNobody", fn := fun _ => fun
  | [d] => { results := [.lit (.bool true)], args := [d] }
  | _ => none }
def lruNobodyRow : OpenClaim := { program := "ytgfbilmlgibbfaa", sum := "64e4d37c4356820ad486b52817186f3a1592227b9db1fd1aca0b3ef048c81854", func := "remuda/remudalaw17.LruNobody", spec := "lruNobody", apart := false }
def LruNobodySaid : Prop := lruNobodyRow.holds Try.pinned (OpenSpec.ofChange lruNobodySpec)

/-- ITS FALSE NEIGHBOUR: 'it returns false'. Refute it at one input. -/
def lruNobodyWrong : ChangeSpec := { name := "lruNobody", fn := fun _ => fun
  | [d] => { results := [.lit (.bool false)], args := [d] }
  | _ => none }
def LruNobodyWrongFalsely : Prop := lruNobodyRow.holds Try.pinned (OpenSpec.ofChange lruNobodyWrong)

/-- 'remudalaw10.ColsMay': WHATEVER THE INPUT: true; the input reads as it did. -/
def colsMaySpec : ChangeSpec := { name := "colsMay", fn := fun _ => fun
  | [d] => { results := [.lit (.bool true)], args := [d] }
  | _ => none }
def colsMayRow : OpenClaim := { program := "ytgfbilmlgibbfaa", sum := "64e4d37c4356820ad486b52817186f3a1592227b9db1fd1aca0b3ef048c81854", func := "remuda/remudalaw10.ColsMay", spec := "colsMay", inPlace := ["internal/abi.NoEscape", "internal/bytealg.IndexByte", "internal/bytealg.IndexByteString"], unfollowed := true, recurses := true, apart := false }
def ColsMaySaid : Prop := colsMayRow.holds Try.pinned (OpenSpec.ofChange colsMaySpec)

/-- ITS FALSE NEIGHBOUR: 'it returns false'. Refute it at one input. -/
def colsMayWrong : ChangeSpec := { name := "colsMay", fn := fun _ => fun
  | [d] => { results := [.lit (.bool false)], args := [d] }
  | _ => none }
def ColsMayWrongFalsely : Prop := colsMayRow.holds Try.pinned (OpenSpec.ofChange colsMayWrong)

/-- 'remudalaw15.TableLives': WHATEVER THE INPUT: true; the input reads as it did. -/
def tableLivesSpec : ChangeSpec := { name := "tableLives", fn := fun _ => fun
  | [d1, d2] => { results := [.lit (.bool true)], args := [d1, d2] }
  | _ => none }
def tableLivesRow : OpenClaim := { program := "ytgfbilmlgibbfaa", sum := "64e4d37c4356820ad486b52817186f3a1592227b9db1fd1aca0b3ef048c81854", func := "remuda/remudalaw15.TableLives", spec := "tableLives", unfollowed := true, recurses := true, apart := false }
def TableLivesSaid : Prop := tableLivesRow.holds Try.pinned (OpenSpec.ofChange tableLivesSpec)

/-- ITS FALSE NEIGHBOUR: 'it returns false'. Refute it at one input. -/
def tableLivesWrong : ChangeSpec := { name := "tableLives", fn := fun _ => fun
  | [d1, d2] => { results := [.lit (.bool false)], args := [d1, d2] }
  | _ => none }
def TableLivesWrongFalsely : Prop := tableLivesRow.holds Try.pinned (OpenSpec.ofChange tableLivesWrong)

/-- 'remudalaw15.TableNobody': WHATEVER THE INPUT: true; the input reads as it did. -/
def tableNobodySpec : ChangeSpec := { name := "tableNobody", fn := fun _ => fun
  | [d1, d2] => { results := [.lit (.bool true)], args := [d1, d2] }
  | _ => none }
def tableNobodyRow : OpenClaim := { program := "ytgfbilmlgibbfaa", sum := "64e4d37c4356820ad486b52817186f3a1592227b9db1fd1aca0b3ef048c81854", func := "remuda/remudalaw15.TableNobody", spec := "tableNobody", unfollowed := true, recurses := true, apart := false }
def TableNobodySaid : Prop := tableNobodyRow.holds Try.pinned (OpenSpec.ofChange tableNobodySpec)

/-- ITS FALSE NEIGHBOUR: 'it returns false'. Refute it at one input. -/
def tableNobodyWrong : ChangeSpec := { name := "tableNobody", fn := fun _ => fun
  | [d1, d2] => { results := [.lit (.bool false)], args := [d1, d2] }
  | _ => none }
def TableNobodyWrongFalsely : Prop := tableNobodyRow.holds Try.pinned (OpenSpec.ofChange tableNobodyWrong)

/-- 'remudalaw28.PortalNobody': WHATEVER THE INPUT: true; the input reads as it did. -/
def portalNobodySpec : ChangeSpec := { name := "portalNobody", fn := fun _ => fun
  | [d1, d2] => { results := [.lit (.bool true)], args := [d1, d2] }
  | _ => none }
def portalNobodyRow : OpenClaim := { program := "ytgfbilmlgibbfaa", sum := "64e4d37c4356820ad486b52817186f3a1592227b9db1fd1aca0b3ef048c81854", func := "remuda/remudalaw28.PortalNobody", spec := "portalNobody", recurses := true, apart := false }
def PortalNobodySaid : Prop := portalNobodyRow.holds Try.pinned (OpenSpec.ofChange portalNobodySpec)

/-- ITS FALSE NEIGHBOUR: 'it returns false'. Refute it at one input. -/
def portalNobodyWrong : ChangeSpec := { name := "portalNobody", fn := fun _ => fun
  | [d1, d2] => { results := [.lit (.bool false)], args := [d1, d2] }
  | _ => none }
def PortalNobodyWrongFalsely : Prop := portalNobodyRow.holds Try.pinned (OpenSpec.ofChange portalNobodyWrong)

/-- 'remudalaw28.PortalLives': WHATEVER THE INPUT: true; the input reads as it did. -/
def portalLivesSpec : ChangeSpec := { name := "portalLives", fn := fun _ => fun
  | [d] => { results := [.lit (.bool true)], args := [d] }
  | _ => none }
def portalLivesRow : OpenClaim := { program := "ytgfbilmlgibbfaa", sum := "64e4d37c4356820ad486b52817186f3a1592227b9db1fd1aca0b3ef048c81854", func := "remuda/remudalaw28.PortalLives", spec := "portalLives", unfollowed := true, recurses := true, apart := false }
def PortalLivesSaid : Prop := portalLivesRow.holds Try.pinned (OpenSpec.ofChange portalLivesSpec)

/-- ITS FALSE NEIGHBOUR: 'it returns false'. Refute it at one input. -/
def portalLivesWrong : ChangeSpec := { name := "portalLives", fn := fun _ => fun
  | [d] => { results := [.lit (.bool false)], args := [d] }
  | _ => none }
def PortalLivesWrongFalsely : Prop := portalLivesRow.holds Try.pinned (OpenSpec.ofChange portalLivesWrong)

/-- 'remudalaw17.LruBounds': WHATEVER THE INPUT: true; the input reads as it did. -/
def lruBoundsSpec : ChangeSpec := { name := "lruBounds", fn := fun _ => fun
  | [d1, d2] => { results := [.lit (.bool true)], args := [d1, d2] }
  | _ => none }
def lruBoundsRow : OpenClaim := { program := "ytgfbilmlgibbfaa", sum := "64e4d37c4356820ad486b52817186f3a1592227b9db1fd1aca0b3ef048c81854", func := "remuda/remudalaw17.LruBounds", spec := "lruBounds", recurses := true, apart := false }
def LruBoundsSaid : Prop := lruBoundsRow.holds Try.pinned (OpenSpec.ofChange lruBoundsSpec)

/-- ITS FALSE NEIGHBOUR: 'it returns false'. Refute it at one input. -/
def lruBoundsWrong : ChangeSpec := { name := "lruBounds", fn := fun _ => fun
  | [d1, d2] => { results := [.lit (.bool false)], args := [d1, d2] }
  | _ => none }
def LruBoundsWrongFalsely : Prop := lruBoundsRow.holds Try.pinned (OpenSpec.ofChange lruBoundsWrong)

/- THE SECOND FORM. 'bulk': how many values and letters a reading holds, each counted each time it is reached (what is shared counts as often as it is met; a slice's spare places count too). A statement '..UptoSaid' is the law's where the arguments, and the package variables that the reading takes, are together of bulk at most 1048576: NARROWER than '..Said'. Prove '..Said' where nothing that the law and all that it calls make is longer than what came in: it says more and counts as full. Else prove '..UptoSaid'. A law counts once. -/
mutual
def uptoBulk {H : Type} : DataW H → Nat
  | .lit (.string bytes) => bytes.length + 1
  | .lit _ => 1
  | .nil => 1
  | .ptr d => uptoBulk d + 1
  | .slice elems spare => uptoBulkAll elems + uptoBulkAll spare + 1
  | .agg parts => uptoBulkAll parts + 1
  | .iface _ d => uptoBulk d + 1
  | .map entries => uptoBulkEntries entries + 1
  | .held _ => 1
def uptoBulkAll {H : Type} : List (DataW H) → Nat
  | [] => 0
  | d :: r => uptoBulk d + uptoBulkAll r
def uptoBulkEntries {H : Type} : List (Lit × DataW H) → Nat
  | [] => 0
  | x :: r => uptoBulkEntry x + uptoBulkEntries r
def uptoBulkEntry {H : Type} : Lit × DataW H → Nat
  | (.string bytes, d) => bytes.length + uptoBulk d + 1
  | (_, d) => uptoBulk d + 1
 end
def uptoSmall : (H : Type) → List (DataW H) → Bool := fun _ ds => decide (uptoBulkAll ds ≤ 1048576)
def OpenSpec.upto (s : _root_.Go.ChangeSpec) : _root_.Go.OpenSpec := { _root_.Go.OpenSpec.ofChange s with cond := some uptoSmall }

/-- 'remudalaw15.TableKeeps', WHERE WHAT IT READS IS OF BULK AT MOST 1048576: true; the input reads as it did. -/
def tableKeepsUptoRow : OpenClaim := { program := "ytgfbilmlgibbfaa", sum := "64e4d37c4356820ad486b52817186f3a1592227b9db1fd1aca0b3ef048c81854", func := "remuda/remudalaw15.TableKeeps", spec := "tableKeeps", apart := false, narrowed := true }
def TableKeepsUptoSaid : Prop := tableKeepsUptoRow.holds Try.pinned (OpenSpec.upto tableKeepsSpec)

/-- 'remudalaw10.ColsTell', WHERE WHAT IT READS IS OF BULK AT MOST 1048576: true; the input reads as it did. -/
def colsTellUptoRow : OpenClaim := { program := "ytgfbilmlgibbfaa", sum := "64e4d37c4356820ad486b52817186f3a1592227b9db1fd1aca0b3ef048c81854", func := "remuda/remudalaw10.ColsTell", spec := "colsTell", inPlace := ["internal/abi.NoEscape"], unfollowed := true, recurses := true, apart := false, narrowed := true }
def ColsTellUptoSaid : Prop := colsTellUptoRow.holds Try.pinned (OpenSpec.upto colsTellSpec)

/-- 'remudalaw28.PortalFetches', WHERE WHAT IT READS IS OF BULK AT MOST 1048576: true; the input reads as it did. -/
def portalFetchesUptoRow : OpenClaim := { program := "ytgfbilmlgibbfaa", sum := "64e4d37c4356820ad486b52817186f3a1592227b9db1fd1aca0b3ef048c81854", func := "remuda/remudalaw28.PortalFetches", spec := "portalFetches", unfollowed := true, recurses := true, apart := false, narrowed := true }
def PortalFetchesUptoSaid : Prop := portalFetchesUptoRow.holds Try.pinned (OpenSpec.upto portalFetchesSpec)

/-- 'remudalaw17.LruLives', WHERE WHAT IT READS IS OF BULK AT MOST 1048576: true; the input reads as it did. -/
def lruLivesUptoRow : OpenClaim := { program := "ytgfbilmlgibbfaa", sum := "64e4d37c4356820ad486b52817186f3a1592227b9db1fd1aca0b3ef048c81854", func := "remuda/remudalaw17.LruLives", spec := "lruLives", apart := false, narrowed := true }
def LruLivesUptoSaid : Prop := lruLivesUptoRow.holds Try.pinned (OpenSpec.upto lruLivesSpec)

/-- 'remudalaw17.LruNobody', WHERE WHAT IT READS IS OF BULK AT MOST 1048576: true; the input reads as it did. -/
def lruNobodyUptoRow : OpenClaim := { program := "ytgfbilmlgibbfaa", sum := "64e4d37c4356820ad486b52817186f3a1592227b9db1fd1aca0b3ef048c81854", func := "remuda/remudalaw17.LruNobody", spec := "lruNobody", apart := false, narrowed := true }
def LruNobodyUptoSaid : Prop := lruNobodyUptoRow.holds Try.pinned (OpenSpec.upto lruNobodySpec)

/-- 'remudalaw10.ColsMay', WHERE WHAT IT READS IS OF BULK AT MOST 1048576: true; the input reads as it did. -/
def colsMayUptoRow : OpenClaim := { program := "ytgfbilmlgibbfaa", sum := "64e4d37c4356820ad486b52817186f3a1592227b9db1fd1aca0b3ef048c81854", func := "remuda/remudalaw10.ColsMay", spec := "colsMay", inPlace := ["internal/abi.NoEscape", "internal/bytealg.IndexByte", "internal/bytealg.IndexByteString"], unfollowed := true, recurses := true, apart := false, narrowed := true }
def ColsMayUptoSaid : Prop := colsMayUptoRow.holds Try.pinned (OpenSpec.upto colsMaySpec)

/-- 'remudalaw15.TableLives', WHERE WHAT IT READS IS OF BULK AT MOST 1048576: true; the input reads as it did. -/
def tableLivesUptoRow : OpenClaim := { program := "ytgfbilmlgibbfaa", sum := "64e4d37c4356820ad486b52817186f3a1592227b9db1fd1aca0b3ef048c81854", func := "remuda/remudalaw15.TableLives", spec := "tableLives", unfollowed := true, recurses := true, apart := false, narrowed := true }
def TableLivesUptoSaid : Prop := tableLivesUptoRow.holds Try.pinned (OpenSpec.upto tableLivesSpec)

/-- 'remudalaw15.TableNobody', WHERE WHAT IT READS IS OF BULK AT MOST 1048576: true; the input reads as it did. -/
def tableNobodyUptoRow : OpenClaim := { program := "ytgfbilmlgibbfaa", sum := "64e4d37c4356820ad486b52817186f3a1592227b9db1fd1aca0b3ef048c81854", func := "remuda/remudalaw15.TableNobody", spec := "tableNobody", unfollowed := true, recurses := true, apart := false, narrowed := true }
def TableNobodyUptoSaid : Prop := tableNobodyUptoRow.holds Try.pinned (OpenSpec.upto tableNobodySpec)

/-- 'remudalaw28.PortalNobody', WHERE WHAT IT READS IS OF BULK AT MOST 1048576: true; the input reads as it did. -/
def portalNobodyUptoRow : OpenClaim := { program := "ytgfbilmlgibbfaa", sum := "64e4d37c4356820ad486b52817186f3a1592227b9db1fd1aca0b3ef048c81854", func := "remuda/remudalaw28.PortalNobody", spec := "portalNobody", recurses := true, apart := false, narrowed := true }
def PortalNobodyUptoSaid : Prop := portalNobodyUptoRow.holds Try.pinned (OpenSpec.upto portalNobodySpec)

/-- 'remudalaw28.PortalLives', WHERE WHAT IT READS IS OF BULK AT MOST 1048576: true; the input reads as it did. -/
def portalLivesUptoRow : OpenClaim := { program := "ytgfbilmlgibbfaa", sum := "64e4d37c4356820ad486b52817186f3a1592227b9db1fd1aca0b3ef048c81854", func := "remuda/remudalaw28.PortalLives", spec := "portalLives", unfollowed := true, recurses := true, apart := false, narrowed := true }
def PortalLivesUptoSaid : Prop := portalLivesUptoRow.holds Try.pinned (OpenSpec.upto portalLivesSpec)

/-- 'remudalaw17.LruBounds', WHERE WHAT IT READS IS OF BULK AT MOST 1048576: true; the input reads as it did. -/
def lruBoundsUptoRow : OpenClaim := { program := "ytgfbilmlgibbfaa", sum := "64e4d37c4356820ad486b52817186f3a1592227b9db1fd1aca0b3ef048c81854", func := "remuda/remudalaw17.LruBounds", spec := "lruBounds", recurses := true, apart := false, narrowed := true }
def LruBoundsUptoSaid : Prop := lruBoundsUptoRow.holds Try.pinned (OpenSpec.upto lruBoundsSpec)

end Rows
end Go.Proofs.Ytgfbilmlgibbfaa
