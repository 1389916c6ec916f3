/-
  DERIVED. GIVEN WITH THE SEED: THE CARDS: each row of YtbglafgndaekoaaGreatDoorRows.lean that lists a variable, with what it lists TIED to the program's text (the seventh form; the later family's looks); each row that meets fmt, with fmt's text TOLD by the authors' own Lean function (tested against real Go, not proved from fmt's source: count such statements apart). THE CARD IS WHAT COUNTS. Prove the row's statement (the work); the ties are given (YtbglafgndaekoaaGreatDoorTie.lean); close each card by the builder's one call (the guide's Derived/Test/ToyasCard.lean, 'card_holds'). Laid BY PROGRAM, IN A SANDBOX (cutbox-door.mjs). By AI agents, Wed Nov 11 2026. No macro, syntax, notation, axiom, sorry.
-/
import Derived.Test.YtbglafgndaekoaaGreatDoorRows
import GoSem.ClaimSeven
namespace Go.Proofs.YtbglafgndaekoaaGreatDoor
namespace Rows

/-- THE TIED CARD OF 'remudalaw41.ProxyNobody'. -/
def proxyNobodyCard : Claim7 := { stood := { row := proxyNobodyRow, standIns := [], harness := (true, "1d9ec88f818740ec6bb406988f4058dc870b99641595031ac32f9e119f9d72d9"), looks := false }, kinds := [], alts := [], laidByText := true, laidKinds := [.data, .pinned], laidTests := true, laidLooks := .later }
def ProxyNobodyCardSaid : Prop := Claim7.holds Tryz.pinned (.plain (OpenSpec.ofChange proxyNobodySpec)) proxyNobodyCard

/-- THE SECOND FORM's CARD OF 'remudalaw41.ProxyNobody'. -/
def proxyNobodyUptoCard : Claim7 := { stood := { row := proxyNobodyUptoRow, standIns := [], harness := (true, "1d9ec88f818740ec6bb406988f4058dc870b99641595031ac32f9e119f9d72d9"), looks := false }, kinds := [], alts := [], laidByText := true, laidKinds := [.data, .pinned], laidTests := true, laidLooks := .later }
def ProxyNobodyUptoCardSaid : Prop := Claim7.holds Tryz.pinned (.plain (OpenSpec.upto proxyNobodySpec)) proxyNobodyUptoCard
end Rows
end Go.Proofs.YtbglafgndaekoaaGreatDoor
