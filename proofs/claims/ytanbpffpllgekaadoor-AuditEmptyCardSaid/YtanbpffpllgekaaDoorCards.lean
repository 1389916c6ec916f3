/-
  DERIVED. GIVEN WITH THE SEED: THE CARDS: each row of YtanbpffpllgekaaDoorRows.lean that lists a variable, with what it lists TIED to the program's text (the seventh form; the later family's looks); each row that meets fmt, with fmt's text TOLD by the authors' own Lean function (tested against real Go, not proved from fmt's source: count such statements apart). THE CARD IS WHAT COUNTS. Prove the row's statement (the work); the ties are given (YtanbpffpllgekaaDoorTie.lean); close each card by the builder's one call (the guide's Derived/Test/ToyasCard.lean, 'card_holds'). Laid BY PROGRAM, IN A SANDBOX (cutbox-door.mjs). By AI agents, Wed Nov 11 2026. No macro, syntax, notation, axiom, sorry.
-/
import Derived.Test.YtanbpffpllgekaaDoorRows
import GoSem.ClaimSeven
namespace Go.Proofs.YtanbpffpllgekaaDoor
namespace Rows

/-- THE TIED CARD OF 'remudalaw47.AuditChecks'. -/
def auditChecksCard : Claim7 := { stood := { row := auditChecksRow, standIns := [], harness := (true, "5ffff0d22f270b7a5f16432d0e1fb5ccf054f2447d2c099d0873fd495aa34ecc"), looks := true }, kinds := [], alts := [], laidByText := true, laidKinds := [.handle], laidTests := true, laidLooks := .later }
def AuditChecksCardSaid : Prop := Claim7.holds Tryd.pinned (.plain (OpenSpec.ofChange auditChecksSpec)) auditChecksCard

/-- THE TIED CARD OF 'remudalaw47.AuditEmpty'. -/
def auditEmptyCard : Claim7 := { stood := { row := auditEmptyRow, standIns := [], harness := (true, "5ffff0d22f270b7a5f16432d0e1fb5ccf054f2447d2c099d0873fd495aa34ecc"), looks := true }, kinds := [], alts := [], laidByText := true, laidKinds := [.handle], laidTests := true, laidLooks := .later }
def AuditEmptyCardSaid : Prop := Claim7.holds Tryd.pinned (.plain (OpenSpec.ofChange auditEmptySpec)) auditEmptyCard

/-- THE TIED CARD OF 'remudalaw47.AuditHolds'. -/
def auditHoldsCard : Claim7 := { stood := { row := auditHoldsRow, standIns := [], harness := (true, "5ffff0d22f270b7a5f16432d0e1fb5ccf054f2447d2c099d0873fd495aa34ecc"), looks := true }, kinds := [], alts := [], laidByText := true, laidKinds := [.handle], laidTests := true, laidLooks := .later }
def AuditHoldsCardSaid : Prop := Claim7.holds Tryd.pinned (.plain (OpenSpec.ofChange auditHoldsSpec)) auditHoldsCard

/-- THE SECOND FORM's CARD OF 'remudalaw47.AuditChecks'. -/
def auditChecksUptoCard : Claim7 := { stood := { row := auditChecksUptoRow, standIns := [], harness := (true, "5ffff0d22f270b7a5f16432d0e1fb5ccf054f2447d2c099d0873fd495aa34ecc"), looks := true }, kinds := [], alts := [], laidByText := true, laidKinds := [.handle], laidTests := true, laidLooks := .later }
def AuditChecksUptoCardSaid : Prop := Claim7.holds Tryd.pinned (.plain (OpenSpec.upto auditChecksSpec)) auditChecksUptoCard

/-- THE SECOND FORM's CARD OF 'remudalaw47.AuditEmpty'. -/
def auditEmptyUptoCard : Claim7 := { stood := { row := auditEmptyUptoRow, standIns := [], harness := (true, "5ffff0d22f270b7a5f16432d0e1fb5ccf054f2447d2c099d0873fd495aa34ecc"), looks := true }, kinds := [], alts := [], laidByText := true, laidKinds := [.handle], laidTests := true, laidLooks := .later }
def AuditEmptyUptoCardSaid : Prop := Claim7.holds Tryd.pinned (.plain (OpenSpec.upto auditEmptySpec)) auditEmptyUptoCard

/-- THE SECOND FORM's CARD OF 'remudalaw47.AuditHolds'. -/
def auditHoldsUptoCard : Claim7 := { stood := { row := auditHoldsUptoRow, standIns := [], harness := (true, "5ffff0d22f270b7a5f16432d0e1fb5ccf054f2447d2c099d0873fd495aa34ecc"), looks := true }, kinds := [], alts := [], laidByText := true, laidKinds := [.handle], laidTests := true, laidLooks := .later }
def AuditHoldsUptoCardSaid : Prop := Claim7.holds Tryd.pinned (.plain (OpenSpec.upto auditHoldsSpec)) auditHoldsUptoCard
end Rows
end Go.Proofs.YtanbpffpllgekaaDoor
