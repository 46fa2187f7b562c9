/-
  No cell of these rows narrows 'for every input' (looked for: loops, veiled, ifaces, maps, wideKeys, modest, calm, conditions, laid).
  DERIVED. THE GIVEN ROWS OF THIS SEAT. 9 by the template 'for every input the law returns true; each argument reads behind the call as it read before'; 0 by the template 'total and deterministic' (their statements: YtehfobeocanbfaaTotals.lean).
  GIVEN WITH THE SEED: the statements are not yours to turn. If you find one false, say at which input.
  Laid BY PROGRAM, IN A SANDBOX (cutbox-rows.mjs): the forced cells as the released guide's own fill.sh prints them over the translation 2d3f8e8150332171… (all of the seat's roots in one cut). By AI agents, Wed Nov 11 2026. No macro, syntax, notation, axiom, sorry.
-/
import Derived.Test.YtehfobeocanbfaaChecked
import GoSem.Claim
import GoSem.ClaimJoined
import GoSem.ClaimMapViews
import Derived.JoinedTies
import Derived.KernelRfl
namespace Go.Proofs.Ytehfobeocanbfaa
/- THE CELL 'sum', in the pinned program and in every row, IS THE sha256 OF THE DUMP (.gsa) THAT YtehfobeocanbfaaProg.lean LOADS. Nothing in Lean hashes anything: it is a label: what it is worth is what the hold of that sum in a sandbox is worth. -/
noncomputable def Try.pinned : Pinned := { name := "ytehfobeocanbfaa", sum := "2d3f8e8150332171cd29d4e3d3ff7aeaa47b9d0480063372f346b8ff9325055f", checked := Try.checked }
namespace Rows
def none {H : Type} : Left H := { results := [], args := [] }

/-- 'skolemlaw10.ProofChecks': WHATEVER THE INPUT: true; the input reads as it did. -/
def proofChecksSpec : ChangeSpec := { name := "proofChecks", fn := fun _ => fun
  | [d1, d2] => { results := [.lit (.bool true)], args := [d1, d2] }
  | _ => none }
def proofChecksRow : OpenClaim := { program := "ytehfobeocanbfaa", sum := "2d3f8e8150332171cd29d4e3d3ff7aeaa47b9d0480063372f346b8ff9325055f", func := "skolem/skolemlaw10.ProofChecks", spec := "proofChecks", unfollowed := true, recurses := true, apart := false }
def ProofChecksSaid : Prop := proofChecksRow.holds Try.pinned (OpenSpec.ofChange proofChecksSpec)

/-- ITS FALSE NEIGHBOUR: 'it returns false'. Refute it at one input. -/
def proofChecksWrong : ChangeSpec := { name := "proofChecks", fn := fun _ => fun
  | [d1, d2] => { results := [.lit (.bool false)], args := [d1, d2] }
  | _ => none }
def ProofChecksWrongFalsely : Prop := proofChecksRow.holds Try.pinned (OpenSpec.ofChange proofChecksWrong)

/-- 'skolemlaw10.ProofRestricts': WHATEVER THE INPUT: true; the input reads as it did. -/
def proofRestrictsSpec : ChangeSpec := { name := "proofRestricts", fn := fun _ => fun
  | [d1, d2, d3] => { results := [.lit (.bool true)], args := [d1, d2, d3] }
  | _ => none }
def proofRestrictsRow : OpenClaim := { program := "ytehfobeocanbfaa", sum := "2d3f8e8150332171cd29d4e3d3ff7aeaa47b9d0480063372f346b8ff9325055f", func := "skolem/skolemlaw10.ProofRestricts", spec := "proofRestricts", unfollowed := true, recurses := true, apart := false }
def ProofRestrictsSaid : Prop := proofRestrictsRow.holds Try.pinned (OpenSpec.ofChange proofRestrictsSpec)

/-- ITS FALSE NEIGHBOUR: 'it returns false'. Refute it at one input. -/
def proofRestrictsWrong : ChangeSpec := { name := "proofRestricts", fn := fun _ => fun
  | [d1, d2, d3] => { results := [.lit (.bool false)], args := [d1, d2, d3] }
  | _ => none }
def ProofRestrictsWrongFalsely : Prop := proofRestrictsRow.holds Try.pinned (OpenSpec.ofChange proofRestrictsWrong)

/-- 'skolemlaw10.ProofHolds': WHATEVER THE INPUT: true; the input reads as it did. -/
def proofHoldsSpec : ChangeSpec := { name := "proofHolds", fn := fun _ => fun
  | [d1, d2, d3] => { results := [.lit (.bool true)], args := [d1, d2, d3] }
  | _ => none }
def proofHoldsRow : OpenClaim := { program := "ytehfobeocanbfaa", sum := "2d3f8e8150332171cd29d4e3d3ff7aeaa47b9d0480063372f346b8ff9325055f", func := "skolem/skolemlaw10.ProofHolds", spec := "proofHolds", unfollowed := true, recurses := true, apart := false }
def ProofHoldsSaid : Prop := proofHoldsRow.holds Try.pinned (OpenSpec.ofChange proofHoldsSpec)

/-- ITS FALSE NEIGHBOUR: 'it returns false'. Refute it at one input. -/
def proofHoldsWrong : ChangeSpec := { name := "proofHolds", fn := fun _ => fun
  | [d1, d2, d3] => { results := [.lit (.bool false)], args := [d1, d2, d3] }
  | _ => none }
def ProofHoldsWrongFalsely : Prop := proofHoldsRow.holds Try.pinned (OpenSpec.ofChange proofHoldsWrong)

/-- 'skolemlaw10.ProofLess': WHATEVER THE INPUT: true; the input reads as it did. -/
def proofLessSpec : ChangeSpec := { name := "proofLess", fn := fun _ => fun
  | [d1, d2] => { results := [.lit (.bool true)], args := [d1, d2] }
  | _ => none }
def proofLessRow : OpenClaim := { program := "ytehfobeocanbfaa", sum := "2d3f8e8150332171cd29d4e3d3ff7aeaa47b9d0480063372f346b8ff9325055f", func := "skolem/skolemlaw10.ProofLess", spec := "proofLess", unfollowed := true, recurses := true, apart := false }
def ProofLessSaid : Prop := proofLessRow.holds Try.pinned (OpenSpec.ofChange proofLessSpec)

/-- ITS FALSE NEIGHBOUR: 'it returns false'. Refute it at one input. -/
def proofLessWrong : ChangeSpec := { name := "proofLess", fn := fun _ => fun
  | [d1, d2] => { results := [.lit (.bool false)], args := [d1, d2] }
  | _ => none }
def ProofLessWrongFalsely : Prop := proofLessRow.holds Try.pinned (OpenSpec.ofChange proofLessWrong)

/-- 'skolemlaw10.ProofLifts': WHATEVER THE INPUT: true; the input reads as it did. -/
def proofLiftsSpec : ChangeSpec := { name := "proofLifts", fn := fun _ => fun
  | [d1, d2, d3] => { results := [.lit (.bool true)], args := [d1, d2, d3] }
  | _ => none }
def proofLiftsRow : OpenClaim := { program := "ytehfobeocanbfaa", sum := "2d3f8e8150332171cd29d4e3d3ff7aeaa47b9d0480063372f346b8ff9325055f", func := "skolem/skolemlaw10.ProofLifts", spec := "proofLifts", unfollowed := true, recurses := true, apart := false }
def ProofLiftsSaid : Prop := proofLiftsRow.holds Try.pinned (OpenSpec.ofChange proofLiftsSpec)

/-- ITS FALSE NEIGHBOUR: 'it returns false'. Refute it at one input. -/
def proofLiftsWrong : ChangeSpec := { name := "proofLifts", fn := fun _ => fun
  | [d1, d2, d3] => { results := [.lit (.bool false)], args := [d1, d2, d3] }
  | _ => none }
def ProofLiftsWrongFalsely : Prop := proofLiftsRow.holds Try.pinned (OpenSpec.ofChange proofLiftsWrong)

/-- 'skolemlaw10.ProofUnder': WHATEVER THE INPUT: true; the input reads as it did. -/
def proofUnderSpec : ChangeSpec := { name := "proofUnder", fn := fun _ => fun
  | [d1, d2, d3] => { results := [.lit (.bool true)], args := [d1, d2, d3] }
  | _ => none }
def proofUnderRow : OpenClaim := { program := "ytehfobeocanbfaa", sum := "2d3f8e8150332171cd29d4e3d3ff7aeaa47b9d0480063372f346b8ff9325055f", func := "skolem/skolemlaw10.ProofUnder", spec := "proofUnder", unfollowed := true, recurses := true, apart := false }
def ProofUnderSaid : Prop := proofUnderRow.holds Try.pinned (OpenSpec.ofChange proofUnderSpec)

/-- ITS FALSE NEIGHBOUR: 'it returns false'. Refute it at one input. -/
def proofUnderWrong : ChangeSpec := { name := "proofUnder", fn := fun _ => fun
  | [d1, d2, d3] => { results := [.lit (.bool false)], args := [d1, d2, d3] }
  | _ => none }
def ProofUnderWrongFalsely : Prop := proofUnderRow.holds Try.pinned (OpenSpec.ofChange proofUnderWrong)

/-- 'skolemlaw10.ProofJoins': WHATEVER THE INPUT: true; the input reads as it did. -/
def proofJoinsSpec : ChangeSpec := { name := "proofJoins", fn := fun _ => fun
  | [d1, d2, d3] => { results := [.lit (.bool true)], args := [d1, d2, d3] }
  | _ => none }
def proofJoinsRow : OpenClaim := { program := "ytehfobeocanbfaa", sum := "2d3f8e8150332171cd29d4e3d3ff7aeaa47b9d0480063372f346b8ff9325055f", func := "skolem/skolemlaw10.ProofJoins", spec := "proofJoins", unfollowed := true, recurses := true, apart := false }
def ProofJoinsSaid : Prop := proofJoinsRow.holds Try.pinned (OpenSpec.ofChange proofJoinsSpec)

/-- ITS FALSE NEIGHBOUR: 'it returns false'. Refute it at one input. -/
def proofJoinsWrong : ChangeSpec := { name := "proofJoins", fn := fun _ => fun
  | [d1, d2, d3] => { results := [.lit (.bool false)], args := [d1, d2, d3] }
  | _ => none }
def ProofJoinsWrongFalsely : Prop := proofJoinsRow.holds Try.pinned (OpenSpec.ofChange proofJoinsWrong)

/-- 'skolemlaw10.ProofBytes': WHATEVER THE INPUT: true; the input reads as it did. -/
def proofBytesSpec : ChangeSpec := { name := "proofBytes", fn := fun _ => fun
  | [d1, d2] => { results := [.lit (.bool true)], args := [d1, d2] }
  | _ => none }
def proofBytesRow : OpenClaim := { program := "ytehfobeocanbfaa", sum := "2d3f8e8150332171cd29d4e3d3ff7aeaa47b9d0480063372f346b8ff9325055f", func := "skolem/skolemlaw10.ProofBytes", spec := "proofBytes", unfollowed := true, recurses := true, apart := false }
def ProofBytesSaid : Prop := proofBytesRow.holds Try.pinned (OpenSpec.ofChange proofBytesSpec)

/-- ITS FALSE NEIGHBOUR: 'it returns false'. Refute it at one input. -/
def proofBytesWrong : ChangeSpec := { name := "proofBytes", fn := fun _ => fun
  | [d1, d2] => { results := [.lit (.bool false)], args := [d1, d2] }
  | _ => none }
def ProofBytesWrongFalsely : Prop := proofBytesRow.holds Try.pinned (OpenSpec.ofChange proofBytesWrong)

/-- 'skolemlaw10.ProofBack': WHATEVER THE INPUT: true; the input reads as it did. -/
def proofBackSpec : ChangeSpec := { name := "proofBack", fn := fun _ => fun
  | [d1, d2] => { results := [.lit (.bool true)], args := [d1, d2] }
  | _ => none }
def proofBackRow : OpenClaim := { program := "ytehfobeocanbfaa", sum := "2d3f8e8150332171cd29d4e3d3ff7aeaa47b9d0480063372f346b8ff9325055f", func := "skolem/skolemlaw10.ProofBack", spec := "proofBack", unfollowed := true, recurses := true, apart := false }
def ProofBackSaid : Prop := proofBackRow.holds Try.pinned (OpenSpec.ofChange proofBackSpec)

/-- ITS FALSE NEIGHBOUR: 'it returns false'. Refute it at one input. -/
def proofBackWrong : ChangeSpec := { name := "proofBack", fn := fun _ => fun
  | [d1, d2] => { results := [.lit (.bool false)], args := [d1, d2] }
  | _ => none }
def ProofBackWrongFalsely : Prop := proofBackRow.holds Try.pinned (OpenSpec.ofChange proofBackWrong)

/- THE SECOND FORM. 'bulk': how many values and letters a reading holds, each counted each time it is reached (what is shared counts as often as it is met; a slice's spare places count too). A statement '..UptoSaid' is the law's where the arguments, and the package variables that the reading takes, are together of bulk at most 1048576: NARROWER than '..Said'. Prove '..Said' where nothing that the law and all that it calls make is longer than what came in: it says more and counts as full. Else prove '..UptoSaid'. A law counts once. -/
mutual
def uptoBulk {H : Type} : DataW H → Nat
  | .lit (.string bytes) => bytes.length + 1
  | .lit _ => 1
  | .nil => 1
  | .ptr d => uptoBulk d + 1
  | .slice elems spare => uptoBulkAll elems + uptoBulkAll spare + 1
  | .agg parts => uptoBulkAll parts + 1
  | .iface _ d => uptoBulk d + 1
  | .map entries => uptoBulkEntries entries + 1
  | .held _ => 1
def uptoBulkAll {H : Type} : List (DataW H) → Nat
  | [] => 0
  | d :: r => uptoBulk d + uptoBulkAll r
def uptoBulkEntries {H : Type} : List (Lit × DataW H) → Nat
  | [] => 0
  | x :: r => uptoBulkEntry x + uptoBulkEntries r
def uptoBulkEntry {H : Type} : Lit × DataW H → Nat
  | (.string bytes, d) => bytes.length + uptoBulk d + 1
  | (_, d) => uptoBulk d + 1
 end
def uptoSmall : (H : Type) → List (DataW H) → Bool := fun _ ds => decide (uptoBulkAll ds ≤ 1048576)
def OpenSpec.upto (s : _root_.Go.ChangeSpec) : _root_.Go.OpenSpec := { _root_.Go.OpenSpec.ofChange s with cond := some uptoSmall }

/-- 'skolemlaw10.ProofChecks', WHERE WHAT IT READS IS OF BULK AT MOST 1048576: true; the input reads as it did. -/
def proofChecksUptoRow : OpenClaim := { program := "ytehfobeocanbfaa", sum := "2d3f8e8150332171cd29d4e3d3ff7aeaa47b9d0480063372f346b8ff9325055f", func := "skolem/skolemlaw10.ProofChecks", spec := "proofChecks", unfollowed := true, recurses := true, apart := false, narrowed := true }
def ProofChecksUptoSaid : Prop := proofChecksUptoRow.holds Try.pinned (OpenSpec.upto proofChecksSpec)

/-- 'skolemlaw10.ProofRestricts', WHERE WHAT IT READS IS OF BULK AT MOST 1048576: true; the input reads as it did. -/
def proofRestrictsUptoRow : OpenClaim := { program := "ytehfobeocanbfaa", sum := "2d3f8e8150332171cd29d4e3d3ff7aeaa47b9d0480063372f346b8ff9325055f", func := "skolem/skolemlaw10.ProofRestricts", spec := "proofRestricts", unfollowed := true, recurses := true, apart := false, narrowed := true }
def ProofRestrictsUptoSaid : Prop := proofRestrictsUptoRow.holds Try.pinned (OpenSpec.upto proofRestrictsSpec)

/-- 'skolemlaw10.ProofHolds', WHERE WHAT IT READS IS OF BULK AT MOST 1048576: true; the input reads as it did. -/
def proofHoldsUptoRow : OpenClaim := { program := "ytehfobeocanbfaa", sum := "2d3f8e8150332171cd29d4e3d3ff7aeaa47b9d0480063372f346b8ff9325055f", func := "skolem/skolemlaw10.ProofHolds", spec := "proofHolds", unfollowed := true, recurses := true, apart := false, narrowed := true }
def ProofHoldsUptoSaid : Prop := proofHoldsUptoRow.holds Try.pinned (OpenSpec.upto proofHoldsSpec)

/-- 'skolemlaw10.ProofLess', WHERE WHAT IT READS IS OF BULK AT MOST 1048576: true; the input reads as it did. -/
def proofLessUptoRow : OpenClaim := { program := "ytehfobeocanbfaa", sum := "2d3f8e8150332171cd29d4e3d3ff7aeaa47b9d0480063372f346b8ff9325055f", func := "skolem/skolemlaw10.ProofLess", spec := "proofLess", unfollowed := true, recurses := true, apart := false, narrowed := true }
def ProofLessUptoSaid : Prop := proofLessUptoRow.holds Try.pinned (OpenSpec.upto proofLessSpec)

/-- 'skolemlaw10.ProofLifts', WHERE WHAT IT READS IS OF BULK AT MOST 1048576: true; the input reads as it did. -/
def proofLiftsUptoRow : OpenClaim := { program := "ytehfobeocanbfaa", sum := "2d3f8e8150332171cd29d4e3d3ff7aeaa47b9d0480063372f346b8ff9325055f", func := "skolem/skolemlaw10.ProofLifts", spec := "proofLifts", unfollowed := true, recurses := true, apart := false, narrowed := true }
def ProofLiftsUptoSaid : Prop := proofLiftsUptoRow.holds Try.pinned (OpenSpec.upto proofLiftsSpec)

/-- 'skolemlaw10.ProofUnder', WHERE WHAT IT READS IS OF BULK AT MOST 1048576: true; the input reads as it did. -/
def proofUnderUptoRow : OpenClaim := { program := "ytehfobeocanbfaa", sum := "2d3f8e8150332171cd29d4e3d3ff7aeaa47b9d0480063372f346b8ff9325055f", func := "skolem/skolemlaw10.ProofUnder", spec := "proofUnder", unfollowed := true, recurses := true, apart := false, narrowed := true }
def ProofUnderUptoSaid : Prop := proofUnderUptoRow.holds Try.pinned (OpenSpec.upto proofUnderSpec)

/-- 'skolemlaw10.ProofJoins', WHERE WHAT IT READS IS OF BULK AT MOST 1048576: true; the input reads as it did. -/
def proofJoinsUptoRow : OpenClaim := { program := "ytehfobeocanbfaa", sum := "2d3f8e8150332171cd29d4e3d3ff7aeaa47b9d0480063372f346b8ff9325055f", func := "skolem/skolemlaw10.ProofJoins", spec := "proofJoins", unfollowed := true, recurses := true, apart := false, narrowed := true }
def ProofJoinsUptoSaid : Prop := proofJoinsUptoRow.holds Try.pinned (OpenSpec.upto proofJoinsSpec)

/-- 'skolemlaw10.ProofBytes', WHERE WHAT IT READS IS OF BULK AT MOST 1048576: true; the input reads as it did. -/
def proofBytesUptoRow : OpenClaim := { program := "ytehfobeocanbfaa", sum := "2d3f8e8150332171cd29d4e3d3ff7aeaa47b9d0480063372f346b8ff9325055f", func := "skolem/skolemlaw10.ProofBytes", spec := "proofBytes", unfollowed := true, recurses := true, apart := false, narrowed := true }
def ProofBytesUptoSaid : Prop := proofBytesUptoRow.holds Try.pinned (OpenSpec.upto proofBytesSpec)

/-- 'skolemlaw10.ProofBack', WHERE WHAT IT READS IS OF BULK AT MOST 1048576: true; the input reads as it did. -/
def proofBackUptoRow : OpenClaim := { program := "ytehfobeocanbfaa", sum := "2d3f8e8150332171cd29d4e3d3ff7aeaa47b9d0480063372f346b8ff9325055f", func := "skolem/skolemlaw10.ProofBack", spec := "proofBack", unfollowed := true, recurses := true, apart := false, narrowed := true }
def ProofBackUptoSaid : Prop := proofBackUptoRow.holds Try.pinned (OpenSpec.upto proofBackSpec)

end Rows
end Go.Proofs.Ytehfobeocanbfaa
