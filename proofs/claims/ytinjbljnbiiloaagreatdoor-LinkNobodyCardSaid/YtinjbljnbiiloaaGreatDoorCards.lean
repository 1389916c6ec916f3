/-
  DERIVED. GIVEN WITH THE SEED: THE CARDS: each row of YtinjbljnbiiloaaGreatDoorRows.lean that lists a variable, with what it lists TIED to the program's text (the seventh form; the later family's looks); each row that meets fmt, with fmt's text TOLD by the authors' own Lean function (tested against real Go, not proved from fmt's source: count such statements apart). THE CARD IS WHAT COUNTS. Prove the row's statement (the work); the ties are given (YtinjbljnbiiloaaGreatDoorTie.lean); close each card by the builder's one call (the guide's Derived/Test/ToyasCard.lean, 'card_holds'). Laid BY PROGRAM, IN A SANDBOX (cutbox-door.mjs). By AI agents, Wed Nov 11 2026. No macro, syntax, notation, axiom, sorry.
-/
import Derived.Test.YtinjbljnbiiloaaGreatDoorRows
import GoSem.ClaimSeven
namespace Go.Proofs.YtinjbljnbiiloaaGreatDoor
namespace Rows

/-- THE TIED CARD OF 'remudalaw40.LinkNobody'. -/
def linkNobodyCard : Claim7 := { stood := { row := linkNobodyRow, standIns := [], harness := (true, "238ff6b9792078ff6696e8d0eb3c224b0598d977116e2c3cc884955bffcdde30"), looks := true }, kinds := [], alts := [], laidByText := true, laidKinds := [.data, .handle, .pinned], laidTests := true, laidLooks := .later }
def LinkNobodyCardSaid : Prop := Claim7.holds Tryz.pinned (.plain (OpenSpec.ofChange linkNobodySpec)) linkNobodyCard

/-- THE SECOND FORM's CARD OF 'remudalaw40.LinkNobody'. -/
def linkNobodyUptoCard : Claim7 := { stood := { row := linkNobodyUptoRow, standIns := [], harness := (true, "238ff6b9792078ff6696e8d0eb3c224b0598d977116e2c3cc884955bffcdde30"), looks := true }, kinds := [], alts := [], laidByText := true, laidKinds := [.data, .handle, .pinned], laidTests := true, laidLooks := .later }
def LinkNobodyUptoCardSaid : Prop := Claim7.holds Tryz.pinned (.plain (OpenSpec.upto linkNobodySpec)) linkNobodyUptoCard
end Rows
end Go.Proofs.YtinjbljnbiiloaaGreatDoor
