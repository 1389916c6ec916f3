/-
  DERIVED. GIVEN WITH THE SEED: THE CARDS: each row of YtfbekbkkklijiaaDoorRows.lean that lists a variable, with what it lists TIED to the program's text (the seventh form; the later family's looks); each row that meets fmt, with fmt's text TOLD by the authors' own Lean function (tested against real Go, not proved from fmt's source: count such statements apart). THE CARD IS WHAT COUNTS. Prove the row's statement (the work); the ties are given (YtfbekbkkklijiaaDoorTie.lean); close each card by the builder's one call (the guide's Derived/Test/ToyasCard.lean, 'card_holds'). Laid BY PROGRAM, IN A SANDBOX (cutbox-door.mjs). By AI agents, Wed Nov 11 2026. No macro, syntax, notation, axiom, sorry.
-/
import Derived.Test.YtfbekbkkklijiaaDoorRows
import GoSem.ClaimSeven
namespace Go.Proofs.YtfbekbkkklijiaaDoor
namespace Rows

/-- THE TIED CARD OF 'remudalaw52.HbaMatches'. -/
def hbaMatchesCard : Claim7 := { stood := { row := hbaMatchesRow, standIns := [], harness := (true, "4e9027bff4c0600d2c9e83087b76b918f40e85b81a3062e6b63c03378190c000"), looks := false }, kinds := [], alts := [], laidByText := true, laidKinds := [.data, .pinned], laidTests := true, laidLooks := .later }
def HbaMatchesCardSaid : Prop := Claim7.holds Tryd.pinned (.plain (OpenSpec.ofChange hbaMatchesSpec)) hbaMatchesCard

/-- THE TIED CARD OF 'remudalaw52.HbaFirst'. -/
def hbaFirstCard : Claim7 := { stood := { row := hbaFirstRow, standIns := [], harness := (true, "4e9027bff4c0600d2c9e83087b76b918f40e85b81a3062e6b63c03378190c000"), looks := false }, kinds := [], alts := [], laidByText := true, laidKinds := [.data, .pinned], laidTests := true, laidLooks := .later }
def HbaFirstCardSaid : Prop := Claim7.holds Tryd.pinned (.plain (OpenSpec.ofChange hbaFirstSpec)) hbaFirstCard

/-- THE TIED CARD OF 'remudalaw09.TellRenames'. -/
def tellRenamesCard : Claim7 := { stood := { row := tellRenamesRow, standIns := [], harness := (true, "4e9027bff4c0600d2c9e83087b76b918f40e85b81a3062e6b63c03378190c000"), looks := false }, kinds := [], alts := [], laidByText := true, laidKinds := [.data, .pinned], laidTests := true, laidLooks := .later }
def TellRenamesCardSaid : Prop := Claim7.holds Tryd.pinned (.plain (OpenSpec.ofChange tellRenamesSpec)) tellRenamesCard

/-- THE TIED CARD OF 'remudalaw09.TellSays'. -/
def tellSaysCard : Claim7 := { stood := { row := tellSaysRow, standIns := [], harness := (true, "4e9027bff4c0600d2c9e83087b76b918f40e85b81a3062e6b63c03378190c000"), looks := false }, kinds := [], alts := [], laidByText := true, laidKinds := [.data, .pinned], laidTests := true, laidLooks := .later }
def TellSaysCardSaid : Prop := Claim7.holds Tryd.pinned (.plain (OpenSpec.ofChange tellSaysSpec)) tellSaysCard

/-- THE TIED CARD OF 'remudalaw09.TellTells'. -/
def tellTellsCard : Claim7 := { stood := { row := tellTellsRow, standIns := [], harness := (true, "4e9027bff4c0600d2c9e83087b76b918f40e85b81a3062e6b63c03378190c000"), looks := false }, kinds := [], alts := [], laidByText := true, laidKinds := [.data, .pinned], laidTests := true, laidLooks := .later }
def TellTellsCardSaid : Prop := Claim7.holds Tryd.pinned (.plain (OpenSpec.ofChange tellTellsSpec)) tellTellsCard

/-- THE TIED CARD OF 'remudalaw52.HbaParses'. -/
def hbaParsesCard : Claim7 := { stood := { row := hbaParsesRow, standIns := [], harness := (true, "4e9027bff4c0600d2c9e83087b76b918f40e85b81a3062e6b63c03378190c000"), looks := false }, kinds := [], alts := [], laidByText := true, laidKinds := [.data, .pinned], laidTests := true, laidLooks := .later }
def HbaParsesCardSaid : Prop := Claim7.holds Tryd.pinned (.plain (OpenSpec.ofChange hbaParsesSpec)) hbaParsesCard

/-- THE TIED CARD OF 'remudalaw52.HbaBack'. -/
def hbaBackCard : Claim7 := { stood := { row := hbaBackRow, standIns := [], harness := (true, "4e9027bff4c0600d2c9e83087b76b918f40e85b81a3062e6b63c03378190c000"), looks := false }, kinds := [], alts := [], laidByText := true, laidKinds := [.data, .pinned], laidTests := true, laidLooks := .later }
def HbaBackCardSaid : Prop := Claim7.holds Tryd.pinned (.plain (OpenSpec.ofChange hbaBackSpec)) hbaBackCard

/-- THE SECOND FORM's CARD OF 'remudalaw52.HbaMatches'. -/
def hbaMatchesUptoCard : Claim7 := { stood := { row := hbaMatchesUptoRow, standIns := [], harness := (true, "4e9027bff4c0600d2c9e83087b76b918f40e85b81a3062e6b63c03378190c000"), looks := false }, kinds := [], alts := [], laidByText := true, laidKinds := [.data, .pinned], laidTests := true, laidLooks := .later }
def HbaMatchesUptoCardSaid : Prop := Claim7.holds Tryd.pinned (.plain (OpenSpec.upto hbaMatchesSpec)) hbaMatchesUptoCard

/-- THE SECOND FORM's CARD OF 'remudalaw52.HbaFirst'. -/
def hbaFirstUptoCard : Claim7 := { stood := { row := hbaFirstUptoRow, standIns := [], harness := (true, "4e9027bff4c0600d2c9e83087b76b918f40e85b81a3062e6b63c03378190c000"), looks := false }, kinds := [], alts := [], laidByText := true, laidKinds := [.data, .pinned], laidTests := true, laidLooks := .later }
def HbaFirstUptoCardSaid : Prop := Claim7.holds Tryd.pinned (.plain (OpenSpec.upto hbaFirstSpec)) hbaFirstUptoCard

/-- THE SECOND FORM's CARD OF 'remudalaw09.TellRenames'. -/
def tellRenamesUptoCard : Claim7 := { stood := { row := tellRenamesUptoRow, standIns := [], harness := (true, "4e9027bff4c0600d2c9e83087b76b918f40e85b81a3062e6b63c03378190c000"), looks := false }, kinds := [], alts := [], laidByText := true, laidKinds := [.data, .pinned], laidTests := true, laidLooks := .later }
def TellRenamesUptoCardSaid : Prop := Claim7.holds Tryd.pinned (.plain (OpenSpec.upto tellRenamesSpec)) tellRenamesUptoCard

/-- THE SECOND FORM's CARD OF 'remudalaw09.TellSays'. -/
def tellSaysUptoCard : Claim7 := { stood := { row := tellSaysUptoRow, standIns := [], harness := (true, "4e9027bff4c0600d2c9e83087b76b918f40e85b81a3062e6b63c03378190c000"), looks := false }, kinds := [], alts := [], laidByText := true, laidKinds := [.data, .pinned], laidTests := true, laidLooks := .later }
def TellSaysUptoCardSaid : Prop := Claim7.holds Tryd.pinned (.plain (OpenSpec.upto tellSaysSpec)) tellSaysUptoCard

/-- THE SECOND FORM's CARD OF 'remudalaw09.TellTells'. -/
def tellTellsUptoCard : Claim7 := { stood := { row := tellTellsUptoRow, standIns := [], harness := (true, "4e9027bff4c0600d2c9e83087b76b918f40e85b81a3062e6b63c03378190c000"), looks := false }, kinds := [], alts := [], laidByText := true, laidKinds := [.data, .pinned], laidTests := true, laidLooks := .later }
def TellTellsUptoCardSaid : Prop := Claim7.holds Tryd.pinned (.plain (OpenSpec.upto tellTellsSpec)) tellTellsUptoCard

/-- THE SECOND FORM's CARD OF 'remudalaw52.HbaParses'. -/
def hbaParsesUptoCard : Claim7 := { stood := { row := hbaParsesUptoRow, standIns := [], harness := (true, "4e9027bff4c0600d2c9e83087b76b918f40e85b81a3062e6b63c03378190c000"), looks := false }, kinds := [], alts := [], laidByText := true, laidKinds := [.data, .pinned], laidTests := true, laidLooks := .later }
def HbaParsesUptoCardSaid : Prop := Claim7.holds Tryd.pinned (.plain (OpenSpec.upto hbaParsesSpec)) hbaParsesUptoCard

/-- THE SECOND FORM's CARD OF 'remudalaw52.HbaBack'. -/
def hbaBackUptoCard : Claim7 := { stood := { row := hbaBackUptoRow, standIns := [], harness := (true, "4e9027bff4c0600d2c9e83087b76b918f40e85b81a3062e6b63c03378190c000"), looks := false }, kinds := [], alts := [], laidByText := true, laidKinds := [.data, .pinned], laidTests := true, laidLooks := .later }
def HbaBackUptoCardSaid : Prop := Claim7.holds Tryd.pinned (.plain (OpenSpec.upto hbaBackSpec)) hbaBackUptoCard
end Rows
end Go.Proofs.YtfbekbkkklijiaaDoor
