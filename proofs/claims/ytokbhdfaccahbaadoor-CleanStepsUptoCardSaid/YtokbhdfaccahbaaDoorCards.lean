/-
  DERIVED. GIVEN WITH THE SEED: THE CARDS: each row of YtokbhdfaccahbaaDoorRows.lean that lists a variable, with what it lists TIED to the program's text (the seventh form; the later family's looks); each row that meets fmt, with fmt's text TOLD by the authors' own Lean function (tested against real Go, not proved from fmt's source: count such statements apart). THE CARD IS WHAT COUNTS. Prove the row's statement (the work); the ties are given (YtokbhdfaccahbaaDoorTie.lean); close each card by the builder's one call (the guide's Derived/Test/ToyasCard.lean, 'card_holds'). Laid BY PROGRAM, IN A SANDBOX (cutbox-door.mjs). By AI agents, Wed Nov 11 2026. No macro, syntax, notation, axiom, sorry.
-/
import Derived.Test.YtokbhdfaccahbaaDoorRows
import GoSem.ClaimSeven
namespace Go.Proofs.YtokbhdfaccahbaaDoor
namespace Rows

/-- THE TIED CARD OF 'skolemlaw13.CleanTruth'. -/
def cleanTruthCard : Claim7 := { stood := { row := cleanTruthRow, standIns := [], harness := (true, "a57a948637022da56b6d0b79ca1bb9f9dd58c09dda9d2000a866046ae3005a99"), looks := false }, kinds := [], alts := [], laidByText := true, laidKinds := [.data], laidTests := true, laidLooks := .later }
def CleanTruthCardSaid : Prop := Claim7.holds Tryd.pinned (.plain (OpenSpec.ofChange cleanTruthSpec)) cleanTruthCard

/-- THE TIED CARD OF 'skolemlaw13.CleanLone'. -/
def cleanLoneCard : Claim7 := { stood := { row := cleanLoneRow, standIns := [], harness := (true, "a57a948637022da56b6d0b79ca1bb9f9dd58c09dda9d2000a866046ae3005a99"), looks := false }, kinds := [], alts := [], laidByText := true, laidKinds := [.data], laidTests := true, laidLooks := .later }
def CleanLoneCardSaid : Prop := Claim7.holds Tryd.pinned (.plain (OpenSpec.ofChange cleanLoneSpec)) cleanLoneCard

/-- THE TIED CARD OF 'skolemlaw13.CleanSteps'. -/
def cleanStepsCard : Claim7 := { stood := { row := cleanStepsRow, standIns := [], harness := (true, "a57a948637022da56b6d0b79ca1bb9f9dd58c09dda9d2000a866046ae3005a99"), looks := false }, kinds := [], alts := [], laidByText := true, laidKinds := [.data], laidTests := true, laidLooks := .later }
def CleanStepsCardSaid : Prop := Claim7.holds Tryd.pinned (.plain (OpenSpec.ofChange cleanStepsSpec)) cleanStepsCard

/-- THE SECOND FORM's CARD OF 'skolemlaw13.CleanTruth'. -/
def cleanTruthUptoCard : Claim7 := { stood := { row := cleanTruthUptoRow, standIns := [], harness := (true, "a57a948637022da56b6d0b79ca1bb9f9dd58c09dda9d2000a866046ae3005a99"), looks := false }, kinds := [], alts := [], laidByText := true, laidKinds := [.data], laidTests := true, laidLooks := .later }
def CleanTruthUptoCardSaid : Prop := Claim7.holds Tryd.pinned (.plain (OpenSpec.upto cleanTruthSpec)) cleanTruthUptoCard

/-- THE SECOND FORM's CARD OF 'skolemlaw13.CleanLone'. -/
def cleanLoneUptoCard : Claim7 := { stood := { row := cleanLoneUptoRow, standIns := [], harness := (true, "a57a948637022da56b6d0b79ca1bb9f9dd58c09dda9d2000a866046ae3005a99"), looks := false }, kinds := [], alts := [], laidByText := true, laidKinds := [.data], laidTests := true, laidLooks := .later }
def CleanLoneUptoCardSaid : Prop := Claim7.holds Tryd.pinned (.plain (OpenSpec.upto cleanLoneSpec)) cleanLoneUptoCard

/-- THE SECOND FORM's CARD OF 'skolemlaw13.CleanSteps'. -/
def cleanStepsUptoCard : Claim7 := { stood := { row := cleanStepsUptoRow, standIns := [], harness := (true, "a57a948637022da56b6d0b79ca1bb9f9dd58c09dda9d2000a866046ae3005a99"), looks := false }, kinds := [], alts := [], laidByText := true, laidKinds := [.data], laidTests := true, laidLooks := .later }
def CleanStepsUptoCardSaid : Prop := Claim7.holds Tryd.pinned (.plain (OpenSpec.upto cleanStepsSpec)) cleanStepsUptoCard
end Rows
end Go.Proofs.YtokbhdfaccahbaaDoor
