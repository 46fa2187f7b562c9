/-
  DERIVED. GIVEN WITH THE SEED: THE CARDS: each row of YtokbhdfaccahbaaGreatDoorRows.lean that lists a variable, with what it lists TIED to the program's text (the seventh form; the later family's looks); each row that meets fmt, with fmt's text TOLD by the authors' own Lean function (tested against real Go, not proved from fmt's source: count such statements apart). THE CARD IS WHAT COUNTS. Prove the row's statement (the work); the ties are given (YtokbhdfaccahbaaGreatDoorTie.lean); close each card by the builder's one call (the guide's Derived/Test/ToyasCard.lean, 'card_holds'). Laid BY PROGRAM, IN A SANDBOX (cutbox-door.mjs). By AI agents, Wed Nov 11 2026. No macro, syntax, notation, axiom, sorry.
-/
import Derived.Test.YtokbhdfaccahbaaGreatDoorRows
import GoSem.ClaimSeven
namespace Go.Proofs.YtokbhdfaccahbaaGreatDoor
namespace Rows

/-- THE TIED CARD OF 'skolemlaw13.CleanMakes'. -/
def cleanMakesCard : Claim7 := { stood := { row := cleanMakesRow, standIns := [], harness := (true, "1974f6b69bb7151cf7446a2b48308c137b35fa87bac8f575ae99a5a8994bab1c"), looks := false }, kinds := [], alts := [], laidByText := true, laidKinds := [.data], laidTests := true, laidLooks := .later }
def CleanMakesCardSaid : Prop := Claim7.holds Tryz.pinned (.plain (OpenSpec.ofChange cleanMakesSpec)) cleanMakesCard

/-- THE TIED CARD OF 'skolemlaw13.CleanNext'. -/
def cleanNextCard : Claim7 := { stood := { row := cleanNextRow, standIns := [], harness := (true, "1974f6b69bb7151cf7446a2b48308c137b35fa87bac8f575ae99a5a8994bab1c"), looks := false }, kinds := [], alts := [], laidByText := true, laidKinds := [.data], laidTests := true, laidLooks := .later }
def CleanNextCardSaid : Prop := Claim7.holds Tryz.pinned (.plain (OpenSpec.ofChange cleanNextSpec)) cleanNextCard

/-- THE TIED CARD OF 'skolemlaw13.CleanDecides'. -/
def cleanDecidesCard : Claim7 := { stood := { row := cleanDecidesRow, standIns := [], harness := (true, "1974f6b69bb7151cf7446a2b48308c137b35fa87bac8f575ae99a5a8994bab1c"), looks := false }, kinds := [], alts := [], laidByText := true, laidKinds := [.data], laidTests := true, laidLooks := .later }
def CleanDecidesCardSaid : Prop := Claim7.holds Tryz.pinned (.plain (OpenSpec.ofChange cleanDecidesSpec)) cleanDecidesCard

/-- THE SECOND FORM's CARD OF 'skolemlaw13.CleanMakes'. -/
def cleanMakesUptoCard : Claim7 := { stood := { row := cleanMakesUptoRow, standIns := [], harness := (true, "1974f6b69bb7151cf7446a2b48308c137b35fa87bac8f575ae99a5a8994bab1c"), looks := false }, kinds := [], alts := [], laidByText := true, laidKinds := [.data], laidTests := true, laidLooks := .later }
def CleanMakesUptoCardSaid : Prop := Claim7.holds Tryz.pinned (.plain (OpenSpec.upto cleanMakesSpec)) cleanMakesUptoCard

/-- THE SECOND FORM's CARD OF 'skolemlaw13.CleanNext'. -/
def cleanNextUptoCard : Claim7 := { stood := { row := cleanNextUptoRow, standIns := [], harness := (true, "1974f6b69bb7151cf7446a2b48308c137b35fa87bac8f575ae99a5a8994bab1c"), looks := false }, kinds := [], alts := [], laidByText := true, laidKinds := [.data], laidTests := true, laidLooks := .later }
def CleanNextUptoCardSaid : Prop := Claim7.holds Tryz.pinned (.plain (OpenSpec.upto cleanNextSpec)) cleanNextUptoCard

/-- THE SECOND FORM's CARD OF 'skolemlaw13.CleanDecides'. -/
def cleanDecidesUptoCard : Claim7 := { stood := { row := cleanDecidesUptoRow, standIns := [], harness := (true, "1974f6b69bb7151cf7446a2b48308c137b35fa87bac8f575ae99a5a8994bab1c"), looks := false }, kinds := [], alts := [], laidByText := true, laidKinds := [.data], laidTests := true, laidLooks := .later }
def CleanDecidesUptoCardSaid : Prop := Claim7.holds Tryz.pinned (.plain (OpenSpec.upto cleanDecidesSpec)) cleanDecidesUptoCard
end Rows
end Go.Proofs.YtokbhdfaccahbaaGreatDoor
