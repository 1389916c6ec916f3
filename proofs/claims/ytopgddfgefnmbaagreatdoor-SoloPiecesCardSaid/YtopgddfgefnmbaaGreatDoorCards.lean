/-
  DERIVED. GIVEN WITH THE SEED: THE CARDS: each row of YtopgddfgefnmbaaGreatDoorRows.lean that lists a variable, with what it lists TIED to the program's text (the seventh form; the later family's looks); each row that meets fmt, with fmt's text TOLD by the authors' own Lean function (tested against real Go, not proved from fmt's source: count such statements apart). THE CARD IS WHAT COUNTS. Prove the row's statement (the work); the ties are given (YtopgddfgefnmbaaGreatDoorTie.lean); close each card by the builder's one call (the guide's Derived/Test/ToyasCard.lean, 'card_holds'). Laid BY PROGRAM, IN A SANDBOX (cutbox-door.mjs). By AI agents, Wed Nov 11 2026. No macro, syntax, notation, axiom, sorry.
-/
import Derived.Test.YtopgddfgefnmbaaGreatDoorRows
import GoSem.ClaimSeven
namespace Go.Proofs.YtopgddfgefnmbaaGreatDoor
namespace Rows

/-- THE TIED CARD OF 'remudalaw31.ServePieces'. -/
def servePiecesCard : Claim7 := { stood := { row := servePiecesRow, standIns := [], harness := (true, "b92ef3b82494c27e3aa40f680306f28f3e90b8f5ed9d8caf95e4d319b1dd56f9"), looks := true }, kinds := [], alts := [], laidByText := true, laidKinds := [.data, .handle, .pinned], laidTests := true, laidLooks := .later }
def ServePiecesCardSaid : Prop := Claim7.holds Tryz.pinned (.plain (OpenSpec.ofChange servePiecesSpec)) servePiecesCard

/-- THE TIED CARD OF 'remudalaw44.SoloPieces'. -/
def soloPiecesCard : Claim7 := { stood := { row := soloPiecesRow, standIns := [], harness := (true, "b92ef3b82494c27e3aa40f680306f28f3e90b8f5ed9d8caf95e4d319b1dd56f9"), looks := true }, kinds := [], alts := [], laidByText := true, laidKinds := [.data, .handle, .pinned], laidTests := true, laidLooks := .later }
def SoloPiecesCardSaid : Prop := Claim7.holds Tryz.pinned (.plain (OpenSpec.ofChange soloPiecesSpec)) soloPiecesCard

/-- THE TIED CARD OF 'remudalaw45.MixLonger'. -/
def mixLongerCard : Claim7 := { stood := { row := mixLongerRow, standIns := [], harness := (true, "b92ef3b82494c27e3aa40f680306f28f3e90b8f5ed9d8caf95e4d319b1dd56f9"), looks := true }, kinds := [], alts := [], laidByText := true, laidKinds := [.data, .handle, .pinned], laidTests := true, laidLooks := .later }
def MixLongerCardSaid : Prop := Claim7.holds Tryz.pinned (.plain (OpenSpec.ofChange mixLongerSpec)) mixLongerCard

/-- THE SECOND FORM's CARD OF 'remudalaw31.ServePieces'. -/
def servePiecesUptoCard : Claim7 := { stood := { row := servePiecesUptoRow, standIns := [], harness := (true, "b92ef3b82494c27e3aa40f680306f28f3e90b8f5ed9d8caf95e4d319b1dd56f9"), looks := true }, kinds := [], alts := [], laidByText := true, laidKinds := [.data, .handle, .pinned], laidTests := true, laidLooks := .later }
def ServePiecesUptoCardSaid : Prop := Claim7.holds Tryz.pinned (.plain (OpenSpec.upto servePiecesSpec)) servePiecesUptoCard

/-- THE SECOND FORM's CARD OF 'remudalaw44.SoloPieces'. -/
def soloPiecesUptoCard : Claim7 := { stood := { row := soloPiecesUptoRow, standIns := [], harness := (true, "b92ef3b82494c27e3aa40f680306f28f3e90b8f5ed9d8caf95e4d319b1dd56f9"), looks := true }, kinds := [], alts := [], laidByText := true, laidKinds := [.data, .handle, .pinned], laidTests := true, laidLooks := .later }
def SoloPiecesUptoCardSaid : Prop := Claim7.holds Tryz.pinned (.plain (OpenSpec.upto soloPiecesSpec)) soloPiecesUptoCard

/-- THE SECOND FORM's CARD OF 'remudalaw45.MixLonger'. -/
def mixLongerUptoCard : Claim7 := { stood := { row := mixLongerUptoRow, standIns := [], harness := (true, "b92ef3b82494c27e3aa40f680306f28f3e90b8f5ed9d8caf95e4d319b1dd56f9"), looks := true }, kinds := [], alts := [], laidByText := true, laidKinds := [.data, .handle, .pinned], laidTests := true, laidLooks := .later }
def MixLongerUptoCardSaid : Prop := Claim7.holds Tryz.pinned (.plain (OpenSpec.upto mixLongerSpec)) mixLongerUptoCard
end Rows
end Go.Proofs.YtopgddfgefnmbaaGreatDoor
