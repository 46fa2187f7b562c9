/-
  NARROWER THAN 'FOR EVERY INPUT', by the rows' own cells (each row's printed sentence says how): CleanMakes: laid · CleanNext: laid · CleanDecides: laid.
  DERIVED. THE GIVEN ROWS OF THIS SEAT. 3 by the template 'for every input the law returns true; each argument reads behind the call as it read before'; 0 by the template 'total and deterministic' (their statements: YtokbhdfaccahbaaGreatDoorTotals.lean).
  GIVEN WITH THE SEED: the statements are not yours to turn. If you find one false, say at which input.
  Laid BY PROGRAM, IN A SANDBOX (cutbox-rows.mjs): the forced cells as the released guide's own fill.sh prints them over the translation 0f7bd3ab949862ab… (all of the seat's roots in one cut). By AI agents, Wed Nov 11 2026. No macro, syntax, notation, axiom, sorry.
-/
import Derived.Test.YtokbhdfaccahbaaGreatDoorChecked
import GoSem.Claim
import GoSem.ClaimJoined
import GoSem.ClaimMapViews
import Derived.JoinedTies
import Derived.KernelRfl
namespace Go.Proofs.YtokbhdfaccahbaaGreatDoor
/- THE CELL 'sum', in the pinned program and in every row, IS THE sha256 OF THE DUMP (.gsa) THAT YtokbhdfaccahbaaGreatDoorProg.lean LOADS. Nothing in Lean hashes anything: it is a label: what it is worth is what the hold of that sum in a sandbox is worth. -/
noncomputable def Tryz.pinned : Pinned := { name := "ytokbhdfaccahbaagreatdoor", sum := "0f7bd3ab949862abf7eabec00c6275a95ddd152744ad8369aa996dfdb42a0c00", checked := Tryz.checked }
namespace Rows
def none {H : Type} : Left H := { results := [], args := [] }

/- WHAT THE LISTED PACKAGE-LEVEL VARIABLES READ AS WHEN THE CALL BEGINS. Each datum BY PROGRAM (the guide's laid-datum.mjs) off the statement by which the dump's own 'gosem.cut.vars' lays the variable. In a bare row this is a premise. The card (YtokbhdfaccahbaaGreatDoorCards.lean) ties it to the program's text. -/
def laid_skolem_clean_order {H : Type} : DataW H := .agg [.lit (.int .u8 1), .lit (.int .u8 3), .lit (.int .u8 2), .lit (.int .u8 4), .lit (.int .u8 5)]

/-- 'skolemlaw13.CleanMakes': WHATEVER THE INPUT: true; the input reads as it did. -/
def cleanMakesSpec : ChangeSpec := { name := "cleanMakes", fn := fun _ => fun
  | [d1, d2] => { results := [.lit (.bool true)], args := [d1, d2] }
  | _ => none }
def cleanMakesRow : OpenClaim := { program := "ytokbhdfaccahbaagreatdoor", sum := "0f7bd3ab949862abf7eabec00c6275a95ddd152744ad8369aa996dfdb42a0c00", func := "skolem/skolemlaw13.CleanMakes", spec := "cleanMakes", unfollowed := true, recurses := true, named := ["skolem/clean.order"], apart := false, laid := [("skolem/clean.order", laid_skolem_clean_order)] }
def CleanMakesSaid : Prop := cleanMakesRow.holds Tryz.pinned (OpenSpec.ofChange cleanMakesSpec)

/-- ITS FALSE NEIGHBOUR: 'it returns false'. Refute it at one input. -/
def cleanMakesWrong : ChangeSpec := { name := "cleanMakes", fn := fun _ => fun
  | [d1, d2] => { results := [.lit (.bool false)], args := [d1, d2] }
  | _ => none }
def CleanMakesWrongFalsely : Prop := cleanMakesRow.holds Tryz.pinned (OpenSpec.ofChange cleanMakesWrong)

/-- 'skolemlaw13.CleanNext': WHATEVER THE INPUT: true; the input reads as it did. -/
def cleanNextSpec : ChangeSpec := { name := "cleanNext", fn := fun _ => fun
  | [d1, d2] => { results := [.lit (.bool true)], args := [d1, d2] }
  | _ => none }
def cleanNextRow : OpenClaim := { program := "ytokbhdfaccahbaagreatdoor", sum := "0f7bd3ab949862abf7eabec00c6275a95ddd152744ad8369aa996dfdb42a0c00", func := "skolem/skolemlaw13.CleanNext", spec := "cleanNext", unfollowed := true, recurses := true, named := ["skolem/clean.order"], apart := false, laid := [("skolem/clean.order", laid_skolem_clean_order)] }
def CleanNextSaid : Prop := cleanNextRow.holds Tryz.pinned (OpenSpec.ofChange cleanNextSpec)

/-- ITS FALSE NEIGHBOUR: 'it returns false'. Refute it at one input. -/
def cleanNextWrong : ChangeSpec := { name := "cleanNext", fn := fun _ => fun
  | [d1, d2] => { results := [.lit (.bool false)], args := [d1, d2] }
  | _ => none }
def CleanNextWrongFalsely : Prop := cleanNextRow.holds Tryz.pinned (OpenSpec.ofChange cleanNextWrong)

/-- 'skolemlaw13.CleanDecides': WHATEVER THE INPUT: true; the input reads as it did. -/
def cleanDecidesSpec : ChangeSpec := { name := "cleanDecides", fn := fun _ => fun
  | [d] => { results := [.lit (.bool true)], args := [d] }
  | _ => none }
def cleanDecidesRow : OpenClaim := { program := "ytokbhdfaccahbaagreatdoor", sum := "0f7bd3ab949862abf7eabec00c6275a95ddd152744ad8369aa996dfdb42a0c00", func := "skolem/skolemlaw13.CleanDecides", spec := "cleanDecides", unfollowed := true, recurses := true, named := ["skolem/clean.order"], apart := false, laid := [("skolem/clean.order", laid_skolem_clean_order)] }
def CleanDecidesSaid : Prop := cleanDecidesRow.holds Tryz.pinned (OpenSpec.ofChange cleanDecidesSpec)

/-- ITS FALSE NEIGHBOUR: 'it returns false'. Refute it at one input. -/
def cleanDecidesWrong : ChangeSpec := { name := "cleanDecides", fn := fun _ => fun
  | [d] => { results := [.lit (.bool false)], args := [d] }
  | _ => none }
def CleanDecidesWrongFalsely : Prop := cleanDecidesRow.holds Tryz.pinned (OpenSpec.ofChange cleanDecidesWrong)

/- THE SECOND FORM. 'bulk': how many values and letters a reading holds, each counted each time it is reached (what is shared counts as often as it is met; a slice's spare places count too). A statement '..UptoSaid' is the law's where the arguments, and the package variables that the reading takes, are together of bulk at most 1048576: NARROWER than '..Said'. Prove '..Said' where nothing that the law and all that it calls make is longer than what came in: it says more and counts as full. Else prove '..UptoSaid'. A law counts once. -/
mutual
def uptoBulk {H : Type} : DataW H → Nat
  | .lit (.string bytes) => bytes.length + 1
  | .lit _ => 1
  | .nil => 1
  | .ptr d => uptoBulk d + 1
  | .slice elems spare => uptoBulkAll elems + uptoBulkAll spare + 1
  | .agg parts => uptoBulkAll parts + 1
  | .iface _ d => uptoBulk d + 1
  | .map entries => uptoBulkEntries entries + 1
  | .held _ => 1
def uptoBulkAll {H : Type} : List (DataW H) → Nat
  | [] => 0
  | d :: r => uptoBulk d + uptoBulkAll r
def uptoBulkEntries {H : Type} : List (Lit × DataW H) → Nat
  | [] => 0
  | x :: r => uptoBulkEntry x + uptoBulkEntries r
def uptoBulkEntry {H : Type} : Lit × DataW H → Nat
  | (.string bytes, d) => bytes.length + uptoBulk d + 1
  | (_, d) => uptoBulk d + 1
 end
def uptoSmall : (H : Type) → List (DataW H) → Bool := fun _ ds => decide (uptoBulkAll ds ≤ 1048576)
def OpenSpec.upto (s : _root_.Go.ChangeSpec) : _root_.Go.OpenSpec := { _root_.Go.OpenSpec.ofChange s with cond := some uptoSmall }

/-- 'skolemlaw13.CleanMakes', WHERE WHAT IT READS IS OF BULK AT MOST 1048576: true; the input reads as it did. -/
def cleanMakesUptoRow : OpenClaim := { program := "ytokbhdfaccahbaagreatdoor", sum := "0f7bd3ab949862abf7eabec00c6275a95ddd152744ad8369aa996dfdb42a0c00", func := "skolem/skolemlaw13.CleanMakes", spec := "cleanMakes", unfollowed := true, recurses := true, named := ["skolem/clean.order"], apart := false, laid := [("skolem/clean.order", laid_skolem_clean_order)], narrowed := true }
def CleanMakesUptoSaid : Prop := cleanMakesUptoRow.holds Tryz.pinned (OpenSpec.upto cleanMakesSpec)

/-- 'skolemlaw13.CleanNext', WHERE WHAT IT READS IS OF BULK AT MOST 1048576: true; the input reads as it did. -/
def cleanNextUptoRow : OpenClaim := { program := "ytokbhdfaccahbaagreatdoor", sum := "0f7bd3ab949862abf7eabec00c6275a95ddd152744ad8369aa996dfdb42a0c00", func := "skolem/skolemlaw13.CleanNext", spec := "cleanNext", unfollowed := true, recurses := true, named := ["skolem/clean.order"], apart := false, laid := [("skolem/clean.order", laid_skolem_clean_order)], narrowed := true }
def CleanNextUptoSaid : Prop := cleanNextUptoRow.holds Tryz.pinned (OpenSpec.upto cleanNextSpec)

/-- 'skolemlaw13.CleanDecides', WHERE WHAT IT READS IS OF BULK AT MOST 1048576: true; the input reads as it did. -/
def cleanDecidesUptoRow : OpenClaim := { program := "ytokbhdfaccahbaagreatdoor", sum := "0f7bd3ab949862abf7eabec00c6275a95ddd152744ad8369aa996dfdb42a0c00", func := "skolem/skolemlaw13.CleanDecides", spec := "cleanDecides", unfollowed := true, recurses := true, named := ["skolem/clean.order"], apart := false, laid := [("skolem/clean.order", laid_skolem_clean_order)], narrowed := true }
def CleanDecidesUptoSaid : Prop := cleanDecidesUptoRow.holds Tryz.pinned (OpenSpec.upto cleanDecidesSpec)

end Rows
end Go.Proofs.YtokbhdfaccahbaaGreatDoor
