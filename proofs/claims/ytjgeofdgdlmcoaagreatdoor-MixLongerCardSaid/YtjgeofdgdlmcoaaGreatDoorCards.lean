/-
  DERIVED. GIVEN WITH THE SEED: THE CARDS: each row of YtjgeofdgdlmcoaaGreatDoorRows.lean that lists a variable, with what it lists TIED to the program's text (the seventh form; the later family's looks); each row that meets fmt, with fmt's text TOLD by the authors' own Lean function (tested against real Go, not proved from fmt's source: count such statements apart). THE CARD IS WHAT COUNTS. Prove the row's statement (the work); the ties are given (YtjgeofdgdlmcoaaGreatDoorTie.lean); close each card by the builder's one call (the guide's Derived/Test/ToyasCard.lean, 'card_holds'). Laid BY PROGRAM, IN A SANDBOX (cutbox-door.mjs). By AI agents, Wed Nov 11 2026. No macro, syntax, notation, axiom, sorry.
-/
import Derived.Test.YtjgeofdgdlmcoaaGreatDoorRows
import GoSem.ClaimSeven
namespace Go.Proofs.YtjgeofdgdlmcoaaGreatDoor
namespace Rows

/-- THE TIED CARD OF 'remudalaw45.MixLonger'. -/
def mixLongerCard : Claim7 := { stood := { row := mixLongerRow, standIns := [], harness := (true, "2548a5e30c6236cf26adbd0d57519d96e105f66cb89436c3f54436bfb2d76d35"), looks := true }, kinds := [], alts := [], laidByText := true, laidKinds := [.data, .handle, .pinned], laidTests := true, laidLooks := .later }
def MixLongerCardSaid : Prop := Claim7.holds Tryz.pinned (.plain (OpenSpec.ofChange mixLongerSpec)) mixLongerCard

/-- THE SECOND FORM's CARD OF 'remudalaw45.MixLonger'. -/
def mixLongerUptoCard : Claim7 := { stood := { row := mixLongerUptoRow, standIns := [], harness := (true, "2548a5e30c6236cf26adbd0d57519d96e105f66cb89436c3f54436bfb2d76d35"), looks := true }, kinds := [], alts := [], laidByText := true, laidKinds := [.data, .handle, .pinned], laidTests := true, laidLooks := .later }
def MixLongerUptoCardSaid : Prop := Claim7.holds Tryz.pinned (.plain (OpenSpec.upto mixLongerSpec)) mixLongerUptoCard
end Rows
end Go.Proofs.YtjgeofdgdlmcoaaGreatDoor
