/-
  DERIVED. GIVEN WITH THE SEED: THE CARDS: each row of YtdjjpbbhcidaaaaGreatDoorRows.lean that lists a variable, with what it lists TIED to the program's text (the seventh form; the later family's looks); each row that meets fmt, with fmt's text TOLD by the authors' own Lean function (tested against real Go, not proved from fmt's source: count such statements apart). THE CARD IS WHAT COUNTS. Prove the row's statement (the work); the ties are given (YtdjjpbbhcidaaaaGreatDoorTie.lean); close each card by the builder's one call (the guide's Derived/Test/ToyasCard.lean, 'card_holds'). Laid BY PROGRAM, IN A SANDBOX (cutbox-door.mjs). By AI agents, Wed Nov 11 2026. No macro, syntax, notation, axiom, sorry.
-/
import Derived.Test.YtdjjpbbhcidaaaaGreatDoorRows
import GoSem.ClaimSeven
namespace Go.Proofs.YtdjjpbbhcidaaaaGreatDoor
namespace Rows

/-- THE TIED CARD OF 'remudalaw31.ServeNobody'. -/
def serveNobodyCard : Claim7 := { stood := { row := serveNobodyRow, standIns := [], harness := (true, "74415a0da42f4fb3ca51dbff5cfe395262d4753762b266d94ed04470cce81d8c"), looks := true }, kinds := [], alts := [], laidByText := true, laidKinds := [.data, .handle, .pinned], laidTests := true, laidLooks := .later }
def ServeNobodyCardSaid : Prop := Claim7.holds Tryz.pinned (.plain (OpenSpec.ofChange serveNobodySpec)) serveNobodyCard

/-- THE TIED CARD OF 'remudalaw44.SoloNobody'. -/
def soloNobodyCard : Claim7 := { stood := { row := soloNobodyRow, standIns := [], harness := (true, "74415a0da42f4fb3ca51dbff5cfe395262d4753762b266d94ed04470cce81d8c"), looks := true }, kinds := [], alts := [], laidByText := true, laidKinds := [.data, .handle, .pinned], laidTests := true, laidLooks := .later }
def SoloNobodyCardSaid : Prop := Claim7.holds Tryz.pinned (.plain (OpenSpec.ofChange soloNobodySpec)) soloNobodyCard

/-- THE TIED CARD OF 'remudalaw45.MixPrefix'. -/
def mixPrefixCard : Claim7 := { stood := { row := mixPrefixRow, standIns := [], harness := (true, "74415a0da42f4fb3ca51dbff5cfe395262d4753762b266d94ed04470cce81d8c"), looks := true }, kinds := [], alts := [], laidByText := true, laidKinds := [.data, .handle, .pinned], laidTests := true, laidLooks := .later }
def MixPrefixCardSaid : Prop := Claim7.holds Tryz.pinned (.plain (OpenSpec.ofChange mixPrefixSpec)) mixPrefixCard

/-- THE SECOND FORM's CARD OF 'remudalaw31.ServeNobody'. -/
def serveNobodyUptoCard : Claim7 := { stood := { row := serveNobodyUptoRow, standIns := [], harness := (true, "74415a0da42f4fb3ca51dbff5cfe395262d4753762b266d94ed04470cce81d8c"), looks := true }, kinds := [], alts := [], laidByText := true, laidKinds := [.data, .handle, .pinned], laidTests := true, laidLooks := .later }
def ServeNobodyUptoCardSaid : Prop := Claim7.holds Tryz.pinned (.plain (OpenSpec.upto serveNobodySpec)) serveNobodyUptoCard

/-- THE SECOND FORM's CARD OF 'remudalaw44.SoloNobody'. -/
def soloNobodyUptoCard : Claim7 := { stood := { row := soloNobodyUptoRow, standIns := [], harness := (true, "74415a0da42f4fb3ca51dbff5cfe395262d4753762b266d94ed04470cce81d8c"), looks := true }, kinds := [], alts := [], laidByText := true, laidKinds := [.data, .handle, .pinned], laidTests := true, laidLooks := .later }
def SoloNobodyUptoCardSaid : Prop := Claim7.holds Tryz.pinned (.plain (OpenSpec.upto soloNobodySpec)) soloNobodyUptoCard

/-- THE SECOND FORM's CARD OF 'remudalaw45.MixPrefix'. -/
def mixPrefixUptoCard : Claim7 := { stood := { row := mixPrefixUptoRow, standIns := [], harness := (true, "74415a0da42f4fb3ca51dbff5cfe395262d4753762b266d94ed04470cce81d8c"), looks := true }, kinds := [], alts := [], laidByText := true, laidKinds := [.data, .handle, .pinned], laidTests := true, laidLooks := .later }
def MixPrefixUptoCardSaid : Prop := Claim7.holds Tryz.pinned (.plain (OpenSpec.upto mixPrefixSpec)) mixPrefixUptoCard
end Rows
end Go.Proofs.YtdjjpbbhcidaaaaGreatDoor
