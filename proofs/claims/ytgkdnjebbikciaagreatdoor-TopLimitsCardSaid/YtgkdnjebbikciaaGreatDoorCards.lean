/-
  DERIVED. GIVEN WITH THE SEED: THE CARDS: each row of YtgkdnjebbikciaaGreatDoorRows.lean that lists a variable, with what it lists TIED to the program's text (the seventh form; the later family's looks); each row that meets fmt, with fmt's text TOLD by the authors' own Lean function (tested against real Go, not proved from fmt's source: count such statements apart). THE CARD IS WHAT COUNTS. Prove the row's statement (the work); the ties are given (YtgkdnjebbikciaaGreatDoorTie.lean); close each card by the builder's one call (the guide's Derived/Test/ToyasCard.lean, 'card_holds'). Laid BY PROGRAM, IN A SANDBOX (cutbox-door.mjs). By AI agents, Wed Nov 11 2026. No macro, syntax, notation, axiom, sorry.
-/
import Derived.Test.YtgkdnjebbikciaaGreatDoorRows
import GoSem.ClaimSeven
namespace Go.Proofs.YtgkdnjebbikciaaGreatDoor
namespace Rows

/-- THE TIED CARD OF 'remudatop.TopLimits'. -/
def topLimitsCard : Claim7 := { stood := { row := topLimitsRow, standIns := [], harness := (true, "8fc3e0aa499e975c0ffc3eff87f240cfbd95cac80733bf41ab75983ff26195f9"), looks := true }, kinds := [], alts := [], laidByText := true, laidKinds := [.pinned, .data, .handle], laidTests := true, laidLooks := .later }
def TopLimitsCardSaid : Prop := Claim7.holds Tryz.pinned (.plain (OpenSpec.ofChange topLimitsSpec)) topLimitsCard

/-- THE SECOND FORM's CARD OF 'remudatop.TopLimits'. -/
def topLimitsUptoCard : Claim7 := { stood := { row := topLimitsUptoRow, standIns := [], harness := (true, "8fc3e0aa499e975c0ffc3eff87f240cfbd95cac80733bf41ab75983ff26195f9"), looks := true }, kinds := [], alts := [], laidByText := true, laidKinds := [.pinned, .data, .handle], laidTests := true, laidLooks := .later }
def TopLimitsUptoCardSaid : Prop := Claim7.holds Tryz.pinned (.plain (OpenSpec.upto topLimitsSpec)) topLimitsUptoCard
end Rows
end Go.Proofs.YtgkdnjebbikciaaGreatDoor
