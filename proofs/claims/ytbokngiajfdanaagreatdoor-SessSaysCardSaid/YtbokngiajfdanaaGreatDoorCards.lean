/-
  DERIVED. GIVEN WITH THE SEED: THE CARDS: each row of YtbokngiajfdanaaGreatDoorRows.lean that lists a variable, with what it lists TIED to the program's text (the seventh form; the later family's looks); each row that meets fmt, with fmt's text TOLD by the authors' own Lean function (tested against real Go, not proved from fmt's source: count such statements apart). THE CARD IS WHAT COUNTS. Prove the row's statement (the work); the ties are given (YtbokngiajfdanaaGreatDoorTie.lean); close each card by the builder's one call (the guide's Derived/Test/ToyasCard.lean, 'card_holds'). Laid BY PROGRAM, IN A SANDBOX (cutbox-door.mjs). By AI agents, Wed Nov 11 2026. No macro, syntax, notation, axiom, sorry.
-/
import Derived.Test.YtbokngiajfdanaaGreatDoorRows
import GoSem.ClaimSeven
namespace Go.Proofs.YtbokngiajfdanaaGreatDoor
namespace Rows

/-- THE TIED CARD OF 'remudalaw30.SessSkips'. -/
def sessSkipsCard : Claim7 := { stood := { row := sessSkipsRow, standIns := [], harness := (true, "500cdc26887e21d47202434bd282ee31ada69b8d94b53cc30fe599706579f56f"), looks := true }, kinds := [], alts := [], laidByText := true, laidKinds := [.data, .handle, .pinned], laidTests := true, laidLooks := .later }
def SessSkipsCardSaid : Prop := Claim7.holds Tryz.pinned (.plain (OpenSpec.ofChange sessSkipsSpec)) sessSkipsCard

/-- THE TIED CARD OF 'remudalaw30.SessSays'. -/
def sessSaysCard : Claim7 := { stood := { row := sessSaysRow, standIns := [], harness := (true, "500cdc26887e21d47202434bd282ee31ada69b8d94b53cc30fe599706579f56f"), looks := true }, kinds := [], alts := [], laidByText := true, laidKinds := [.data, .handle, .pinned], laidTests := true, laidLooks := .later }
def SessSaysCardSaid : Prop := Claim7.holds Tryz.pinned (.plain (OpenSpec.ofChange sessSaysSpec)) sessSaysCard

/-- THE SECOND FORM's CARD OF 'remudalaw30.SessSkips'. -/
def sessSkipsUptoCard : Claim7 := { stood := { row := sessSkipsUptoRow, standIns := [], harness := (true, "500cdc26887e21d47202434bd282ee31ada69b8d94b53cc30fe599706579f56f"), looks := true }, kinds := [], alts := [], laidByText := true, laidKinds := [.data, .handle, .pinned], laidTests := true, laidLooks := .later }
def SessSkipsUptoCardSaid : Prop := Claim7.holds Tryz.pinned (.plain (OpenSpec.upto sessSkipsSpec)) sessSkipsUptoCard

/-- THE SECOND FORM's CARD OF 'remudalaw30.SessSays'. -/
def sessSaysUptoCard : Claim7 := { stood := { row := sessSaysUptoRow, standIns := [], harness := (true, "500cdc26887e21d47202434bd282ee31ada69b8d94b53cc30fe599706579f56f"), looks := true }, kinds := [], alts := [], laidByText := true, laidKinds := [.data, .handle, .pinned], laidTests := true, laidLooks := .later }
def SessSaysUptoCardSaid : Prop := Claim7.holds Tryz.pinned (.plain (OpenSpec.upto sessSaysSpec)) sessSaysUptoCard
end Rows
end Go.Proofs.YtbokngiajfdanaaGreatDoor
