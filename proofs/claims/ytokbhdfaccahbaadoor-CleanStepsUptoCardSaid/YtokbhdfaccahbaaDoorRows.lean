/-
  NARROWER THAN 'FOR EVERY INPUT', by the rows' own cells (each row's printed sentence says how): CleanTruth: laid · CleanLone: laid · CleanSteps: laid.
  DERIVED. THE GIVEN ROWS OF THIS SEAT. 3 by the template 'for every input the law returns true; each argument reads behind the call as it read before'; 0 by the template 'total and deterministic' (their statements: YtokbhdfaccahbaaDoorTotals.lean).
  GIVEN WITH THE SEED: the statements are not yours to turn. If you find one false, say at which input.
  Laid BY PROGRAM, IN A SANDBOX (cutbox-rows.mjs): the forced cells as the released guide's own fill.sh prints them over the translation ec3d9d6187f2172b… (all of the seat's roots in one cut). By AI agents, Wed Nov 11 2026. No macro, syntax, notation, axiom, sorry.
-/
import Derived.Test.YtokbhdfaccahbaaDoorChecked
import GoSem.Claim
import GoSem.ClaimJoined
import GoSem.ClaimMapViews
import Derived.JoinedTies
import Derived.KernelRfl
namespace Go.Proofs.YtokbhdfaccahbaaDoor
/- THE CELL 'sum', in the pinned program and in every row, IS THE sha256 OF THE DUMP (.gsa) THAT YtokbhdfaccahbaaDoorProg.lean LOADS. Nothing in Lean hashes anything: it is a label: what it is worth is what the hold of that sum in a sandbox is worth. -/
noncomputable def Tryd.pinned : Pinned := { name := "ytokbhdfaccahbaadoor", sum := "ec3d9d6187f2172b1c2811c9e200d0944b428db881e9235a87ff77b33e01dbbc", checked := Tryd.checked }
namespace Rows
def none {H : Type} : Left H := { results := [], args := [] }

/- WHAT THE LISTED PACKAGE-LEVEL VARIABLES READ AS WHEN THE CALL BEGINS. Each datum BY PROGRAM (the guide's laid-datum.mjs) off the statement by which the dump's own 'gosem.cut.vars' lays the variable. In a bare row this is a premise. The card (YtokbhdfaccahbaaDoorCards.lean) ties it to the program's text. -/
def laid_skolem_clean_order {H : Type} : DataW H := .agg [.lit (.int .u8 1), .lit (.int .u8 3), .lit (.int .u8 2), .lit (.int .u8 4), .lit (.int .u8 5)]

/-- 'skolemlaw13.CleanTruth': WHATEVER THE INPUT: true; the input reads as it did. -/
def cleanTruthSpec : ChangeSpec := { name := "cleanTruth", fn := fun _ => fun
  | [d1, d2] => { results := [.lit (.bool true)], args := [d1, d2] }
  | _ => none }
def cleanTruthRow : OpenClaim := { program := "ytokbhdfaccahbaadoor", sum := "ec3d9d6187f2172b1c2811c9e200d0944b428db881e9235a87ff77b33e01dbbc", func := "skolem/skolemlaw13.CleanTruth", spec := "cleanTruth", unfollowed := true, recurses := true, named := ["skolem/clean.order"], apart := false, laid := [("skolem/clean.order", laid_skolem_clean_order)] }
def CleanTruthSaid : Prop := cleanTruthRow.holds Tryd.pinned (OpenSpec.ofChange cleanTruthSpec)

/-- ITS FALSE NEIGHBOUR: 'it returns false'. Refute it at one input. -/
def cleanTruthWrong : ChangeSpec := { name := "cleanTruth", fn := fun _ => fun
  | [d1, d2] => { results := [.lit (.bool false)], args := [d1, d2] }
  | _ => none }
def CleanTruthWrongFalsely : Prop := cleanTruthRow.holds Tryd.pinned (OpenSpec.ofChange cleanTruthWrong)

/-- 'skolemlaw13.CleanLone': WHATEVER THE INPUT: true; the input reads as it did. -/
def cleanLoneSpec : ChangeSpec := { name := "cleanLone", fn := fun _ => fun
  | [d] => { results := [.lit (.bool true)], args := [d] }
  | _ => none }
def cleanLoneRow : OpenClaim := { program := "ytokbhdfaccahbaadoor", sum := "ec3d9d6187f2172b1c2811c9e200d0944b428db881e9235a87ff77b33e01dbbc", func := "skolem/skolemlaw13.CleanLone", spec := "cleanLone", unfollowed := true, recurses := true, named := ["skolem/clean.order"], apart := false, laid := [("skolem/clean.order", laid_skolem_clean_order)] }
def CleanLoneSaid : Prop := cleanLoneRow.holds Tryd.pinned (OpenSpec.ofChange cleanLoneSpec)

/-- ITS FALSE NEIGHBOUR: 'it returns false'. Refute it at one input. -/
def cleanLoneWrong : ChangeSpec := { name := "cleanLone", fn := fun _ => fun
  | [d] => { results := [.lit (.bool false)], args := [d] }
  | _ => none }
def CleanLoneWrongFalsely : Prop := cleanLoneRow.holds Tryd.pinned (OpenSpec.ofChange cleanLoneWrong)

/-- 'skolemlaw13.CleanSteps': WHATEVER THE INPUT: true; the input reads as it did. -/
def cleanStepsSpec : ChangeSpec := { name := "cleanSteps", fn := fun _ => fun
  | [d1, d2] => { results := [.lit (.bool true)], args := [d1, d2] }
  | _ => none }
def cleanStepsRow : OpenClaim := { program := "ytokbhdfaccahbaadoor", sum := "ec3d9d6187f2172b1c2811c9e200d0944b428db881e9235a87ff77b33e01dbbc", func := "skolem/skolemlaw13.CleanSteps", spec := "cleanSteps", unfollowed := true, recurses := true, named := ["skolem/clean.order"], apart := false, laid := [("skolem/clean.order", laid_skolem_clean_order)] }
def CleanStepsSaid : Prop := cleanStepsRow.holds Tryd.pinned (OpenSpec.ofChange cleanStepsSpec)

/-- ITS FALSE NEIGHBOUR: 'it returns false'. Refute it at one input. -/
def cleanStepsWrong : ChangeSpec := { name := "cleanSteps", fn := fun _ => fun
  | [d1, d2] => { results := [.lit (.bool false)], args := [d1, d2] }
  | _ => none }
def CleanStepsWrongFalsely : Prop := cleanStepsRow.holds Tryd.pinned (OpenSpec.ofChange cleanStepsWrong)

/- THE SECOND FORM. 'bulk': how many values and letters a reading holds, each counted each time it is reached (what is shared counts as often as it is met; a slice's spare places count too). A statement '..UptoSaid' is the law's where the arguments, and the package variables that the reading takes, are together of bulk at most 1048576: NARROWER than '..Said'. Prove '..Said' where nothing that the law and all that it calls make is longer than what came in: it says more and counts as full. Else prove '..UptoSaid'. A law counts once. -/
mutual
def uptoBulk {H : Type} : DataW H → Nat
  | .lit (.string bytes) => bytes.length + 1
  | .lit _ => 1
  | .nil => 1
  | .ptr d => uptoBulk d + 1
  | .slice elems spare => uptoBulkAll elems + uptoBulkAll spare + 1
  | .agg parts => uptoBulkAll parts + 1
  | .iface _ d => uptoBulk d + 1
  | .map entries => uptoBulkEntries entries + 1
  | .held _ => 1
def uptoBulkAll {H : Type} : List (DataW H) → Nat
  | [] => 0
  | d :: r => uptoBulk d + uptoBulkAll r
def uptoBulkEntries {H : Type} : List (Lit × DataW H) → Nat
  | [] => 0
  | x :: r => uptoBulkEntry x + uptoBulkEntries r
def uptoBulkEntry {H : Type} : Lit × DataW H → Nat
  | (.string bytes, d) => bytes.length + uptoBulk d + 1
  | (_, d) => uptoBulk d + 1
 end
def uptoSmall : (H : Type) → List (DataW H) → Bool := fun _ ds => decide (uptoBulkAll ds ≤ 1048576)
def OpenSpec.upto (s : _root_.Go.ChangeSpec) : _root_.Go.OpenSpec := { _root_.Go.OpenSpec.ofChange s with cond := some uptoSmall }

/-- 'skolemlaw13.CleanTruth', WHERE WHAT IT READS IS OF BULK AT MOST 1048576: true; the input reads as it did. -/
def cleanTruthUptoRow : OpenClaim := { program := "ytokbhdfaccahbaadoor", sum := "ec3d9d6187f2172b1c2811c9e200d0944b428db881e9235a87ff77b33e01dbbc", func := "skolem/skolemlaw13.CleanTruth", spec := "cleanTruth", unfollowed := true, recurses := true, named := ["skolem/clean.order"], apart := false, laid := [("skolem/clean.order", laid_skolem_clean_order)], narrowed := true }
def CleanTruthUptoSaid : Prop := cleanTruthUptoRow.holds Tryd.pinned (OpenSpec.upto cleanTruthSpec)

/-- 'skolemlaw13.CleanLone', WHERE WHAT IT READS IS OF BULK AT MOST 1048576: true; the input reads as it did. -/
def cleanLoneUptoRow : OpenClaim := { program := "ytokbhdfaccahbaadoor", sum := "ec3d9d6187f2172b1c2811c9e200d0944b428db881e9235a87ff77b33e01dbbc", func := "skolem/skolemlaw13.CleanLone", spec := "cleanLone", unfollowed := true, recurses := true, named := ["skolem/clean.order"], apart := false, laid := [("skolem/clean.order", laid_skolem_clean_order)], narrowed := true }
def CleanLoneUptoSaid : Prop := cleanLoneUptoRow.holds Tryd.pinned (OpenSpec.upto cleanLoneSpec)

/-- 'skolemlaw13.CleanSteps', WHERE WHAT IT READS IS OF BULK AT MOST 1048576: true; the input reads as it did. -/
def cleanStepsUptoRow : OpenClaim := { program := "ytokbhdfaccahbaadoor", sum := "ec3d9d6187f2172b1c2811c9e200d0944b428db881e9235a87ff77b33e01dbbc", func := "skolem/skolemlaw13.CleanSteps", spec := "cleanSteps", unfollowed := true, recurses := true, named := ["skolem/clean.order"], apart := false, laid := [("skolem/clean.order", laid_skolem_clean_order)], narrowed := true }
def CleanStepsUptoSaid : Prop := cleanStepsUptoRow.holds Tryd.pinned (OpenSpec.upto cleanStepsSpec)

end Rows
end Go.Proofs.YtokbhdfaccahbaaDoor
