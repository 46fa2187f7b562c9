/-
  No cell of these rows narrows 'for every input' (looked for: loops, veiled, ifaces, maps, wideKeys, modest, calm, conditions, laid).
  DERIVED. THE GIVEN ROWS OF THIS SEAT. 6 by the template 'for every input the law returns true; each argument reads behind the call as it read before'; 0 by the template 'total and deterministic' (their statements: YtppmnjikhealeaaTotals.lean).
  GIVEN WITH THE SEED: the statements are not yours to turn. If you find one false, say at which input.
  Laid BY PROGRAM, IN A SANDBOX (cutbox-rows.mjs): the forced cells as the released guide's own fill.sh prints them over the translation 7cecab1ec99954ed… (all of the seat's roots in one cut). By AI agents, Wed Nov 11 2026. No macro, syntax, notation, axiom, sorry.
-/
import Derived.Test.YtppmnjikhealeaaChecked
import GoSem.Claim
import GoSem.ClaimJoined
import GoSem.ClaimMapViews
import Derived.JoinedTies
import Derived.KernelRfl
namespace Go.Proofs.Ytppmnjikhealeaa
/- THE CELL 'sum', in the pinned program and in every row, IS THE sha256 OF THE DUMP (.gsa) THAT YtppmnjikhealeaaProg.lean LOADS. Nothing in Lean hashes anything: it is a label: what it is worth is what the hold of that sum in a sandbox is worth. -/
noncomputable def Try.pinned : Pinned := { name := "ytppmnjikhealeaa", sum := "7cecab1ec99954ed4067f35275d38df2fd5d4519ff314e357d01684c0fe7a114", checked := Try.checked }
namespace Rows
def none {H : Type} : Left H := { results := [], args := [] }

/-- 'skolemlaw04.TruthQbf': WHATEVER THE INPUT: true; the input reads as it did. -/
def truthQbfSpec : ChangeSpec := { name := "truthQbf", fn := fun _ => fun
  | [d] => { results := [.lit (.bool true)], args := [d] }
  | _ => none }
def truthQbfRow : OpenClaim := { program := "ytppmnjikhealeaa", sum := "7cecab1ec99954ed4067f35275d38df2fd5d4519ff314e357d01684c0fe7a114", func := "skolem/skolemlaw04.TruthQbf", spec := "truthQbf", unfollowed := true, recurses := true, apart := false }
def TruthQbfSaid : Prop := truthQbfRow.holds Try.pinned (OpenSpec.ofChange truthQbfSpec)

/-- ITS FALSE NEIGHBOUR: 'it returns false'. Refute it at one input. -/
def truthQbfWrong : ChangeSpec := { name := "truthQbf", fn := fun _ => fun
  | [d] => { results := [.lit (.bool false)], args := [d] }
  | _ => none }
def TruthQbfWrongFalsely : Prop := truthQbfRow.holds Try.pinned (OpenSpec.ofChange truthQbfWrong)

/-- 'skolemlaw04.TruthDqbf': WHATEVER THE INPUT: true; the input reads as it did. -/
def truthDqbfSpec : ChangeSpec := { name := "truthDqbf", fn := fun _ => fun
  | [d] => { results := [.lit (.bool true)], args := [d] }
  | _ => none }
def truthDqbfRow : OpenClaim := { program := "ytppmnjikhealeaa", sum := "7cecab1ec99954ed4067f35275d38df2fd5d4519ff314e357d01684c0fe7a114", func := "skolem/skolemlaw04.TruthDqbf", spec := "truthDqbf", unfollowed := true, recurses := true, apart := false }
def TruthDqbfSaid : Prop := truthDqbfRow.holds Try.pinned (OpenSpec.ofChange truthDqbfSpec)

/-- ITS FALSE NEIGHBOUR: 'it returns false'. Refute it at one input. -/
def truthDqbfWrong : ChangeSpec := { name := "truthDqbf", fn := fun _ => fun
  | [d] => { results := [.lit (.bool false)], args := [d] }
  | _ => none }
def TruthDqbfWrongFalsely : Prop := truthDqbfRow.holds Try.pinned (OpenSpec.ofChange truthDqbfWrong)

/-- 'skolemlaw04.TruthHerbrand': WHATEVER THE INPUT: true; the input reads as it did. -/
def truthHerbrandSpec : ChangeSpec := { name := "truthHerbrand", fn := fun _ => fun
  | [d] => { results := [.lit (.bool true)], args := [d] }
  | _ => none }
def truthHerbrandRow : OpenClaim := { program := "ytppmnjikhealeaa", sum := "7cecab1ec99954ed4067f35275d38df2fd5d4519ff314e357d01684c0fe7a114", func := "skolem/skolemlaw04.TruthHerbrand", spec := "truthHerbrand", unfollowed := true, recurses := true, apart := false }
def TruthHerbrandSaid : Prop := truthHerbrandRow.holds Try.pinned (OpenSpec.ofChange truthHerbrandSpec)

/-- ITS FALSE NEIGHBOUR: 'it returns false'. Refute it at one input. -/
def truthHerbrandWrong : ChangeSpec := { name := "truthHerbrand", fn := fun _ => fun
  | [d] => { results := [.lit (.bool false)], args := [d] }
  | _ => none }
def TruthHerbrandWrongFalsely : Prop := truthHerbrandRow.holds Try.pinned (OpenSpec.ofChange truthHerbrandWrong)

/-- 'skolemlaw04.TruthMore': WHATEVER THE INPUT: true; the input reads as it did. -/
def truthMoreSpec : ChangeSpec := { name := "truthMore", fn := fun _ => fun
  | [d1, d2, d3, d4] => { results := [.lit (.bool true)], args := [d1, d2, d3, d4] }
  | _ => none }
def truthMoreRow : OpenClaim := { program := "ytppmnjikhealeaa", sum := "7cecab1ec99954ed4067f35275d38df2fd5d4519ff314e357d01684c0fe7a114", func := "skolem/skolemlaw04.TruthMore", spec := "truthMore", unfollowed := true, recurses := true, apart := false }
def TruthMoreSaid : Prop := truthMoreRow.holds Try.pinned (OpenSpec.ofChange truthMoreSpec)

/-- ITS FALSE NEIGHBOUR: 'it returns false'. Refute it at one input. -/
def truthMoreWrong : ChangeSpec := { name := "truthMore", fn := fun _ => fun
  | [d1, d2, d3, d4] => { results := [.lit (.bool false)], args := [d1, d2, d3, d4] }
  | _ => none }
def TruthMoreWrongFalsely : Prop := truthMoreRow.holds Try.pinned (OpenSpec.ofChange truthMoreWrong)

/-- 'skolemlaw04.TruthLeast': WHATEVER THE INPUT: true; the input reads as it did. -/
def truthLeastSpec : ChangeSpec := { name := "truthLeast", fn := fun _ => fun
  | [d1, d2] => { results := [.lit (.bool true)], args := [d1, d2] }
  | _ => none }
def truthLeastRow : OpenClaim := { program := "ytppmnjikhealeaa", sum := "7cecab1ec99954ed4067f35275d38df2fd5d4519ff314e357d01684c0fe7a114", func := "skolem/skolemlaw04.TruthLeast", spec := "truthLeast", unfollowed := true, recurses := true, apart := false }
def TruthLeastSaid : Prop := truthLeastRow.holds Try.pinned (OpenSpec.ofChange truthLeastSpec)

/-- ITS FALSE NEIGHBOUR: 'it returns false'. Refute it at one input. -/
def truthLeastWrong : ChangeSpec := { name := "truthLeast", fn := fun _ => fun
  | [d1, d2] => { results := [.lit (.bool false)], args := [d1, d2] }
  | _ => none }
def TruthLeastWrongFalsely : Prop := truthLeastRow.holds Try.pinned (OpenSpec.ofChange truthLeastWrong)

/-- 'skolemlaw04.TruthGames': WHATEVER THE INPUT: true; the input reads as it did. -/
def truthGamesSpec : ChangeSpec := { name := "truthGames", fn := fun _ => fun
  | [d] => { results := [.lit (.bool true)], args := [d] }
  | _ => none }
def truthGamesRow : OpenClaim := { program := "ytppmnjikhealeaa", sum := "7cecab1ec99954ed4067f35275d38df2fd5d4519ff314e357d01684c0fe7a114", func := "skolem/skolemlaw04.TruthGames", spec := "truthGames", unfollowed := true, recurses := true, apart := false }
def TruthGamesSaid : Prop := truthGamesRow.holds Try.pinned (OpenSpec.ofChange truthGamesSpec)

/-- ITS FALSE NEIGHBOUR: 'it returns false'. Refute it at one input. -/
def truthGamesWrong : ChangeSpec := { name := "truthGames", fn := fun _ => fun
  | [d] => { results := [.lit (.bool false)], args := [d] }
  | _ => none }
def TruthGamesWrongFalsely : Prop := truthGamesRow.holds Try.pinned (OpenSpec.ofChange truthGamesWrong)

/- THE SECOND FORM. 'bulk': how many values and letters a reading holds, each counted each time it is reached (what is shared counts as often as it is met; a slice's spare places count too). A statement '..UptoSaid' is the law's where the arguments, and the package variables that the reading takes, are together of bulk at most 1048576: NARROWER than '..Said'. Prove '..Said' where nothing that the law and all that it calls make is longer than what came in: it says more and counts as full. Else prove '..UptoSaid'. A law counts once. -/
mutual
def uptoBulk {H : Type} : DataW H → Nat
  | .lit (.string bytes) => bytes.length + 1
  | .lit _ => 1
  | .nil => 1
  | .ptr d => uptoBulk d + 1
  | .slice elems spare => uptoBulkAll elems + uptoBulkAll spare + 1
  | .agg parts => uptoBulkAll parts + 1
  | .iface _ d => uptoBulk d + 1
  | .map entries => uptoBulkEntries entries + 1
  | .held _ => 1
def uptoBulkAll {H : Type} : List (DataW H) → Nat
  | [] => 0
  | d :: r => uptoBulk d + uptoBulkAll r
def uptoBulkEntries {H : Type} : List (Lit × DataW H) → Nat
  | [] => 0
  | x :: r => uptoBulkEntry x + uptoBulkEntries r
def uptoBulkEntry {H : Type} : Lit × DataW H → Nat
  | (.string bytes, d) => bytes.length + uptoBulk d + 1
  | (_, d) => uptoBulk d + 1
 end
def uptoSmall : (H : Type) → List (DataW H) → Bool := fun _ ds => decide (uptoBulkAll ds ≤ 1048576)
def OpenSpec.upto (s : _root_.Go.ChangeSpec) : _root_.Go.OpenSpec := { _root_.Go.OpenSpec.ofChange s with cond := some uptoSmall }

/-- 'skolemlaw04.TruthQbf', WHERE WHAT IT READS IS OF BULK AT MOST 1048576: true; the input reads as it did. -/
def truthQbfUptoRow : OpenClaim := { program := "ytppmnjikhealeaa", sum := "7cecab1ec99954ed4067f35275d38df2fd5d4519ff314e357d01684c0fe7a114", func := "skolem/skolemlaw04.TruthQbf", spec := "truthQbf", unfollowed := true, recurses := true, apart := false, narrowed := true }
def TruthQbfUptoSaid : Prop := truthQbfUptoRow.holds Try.pinned (OpenSpec.upto truthQbfSpec)

/-- 'skolemlaw04.TruthDqbf', WHERE WHAT IT READS IS OF BULK AT MOST 1048576: true; the input reads as it did. -/
def truthDqbfUptoRow : OpenClaim := { program := "ytppmnjikhealeaa", sum := "7cecab1ec99954ed4067f35275d38df2fd5d4519ff314e357d01684c0fe7a114", func := "skolem/skolemlaw04.TruthDqbf", spec := "truthDqbf", unfollowed := true, recurses := true, apart := false, narrowed := true }
def TruthDqbfUptoSaid : Prop := truthDqbfUptoRow.holds Try.pinned (OpenSpec.upto truthDqbfSpec)

/-- 'skolemlaw04.TruthHerbrand', WHERE WHAT IT READS IS OF BULK AT MOST 1048576: true; the input reads as it did. -/
def truthHerbrandUptoRow : OpenClaim := { program := "ytppmnjikhealeaa", sum := "7cecab1ec99954ed4067f35275d38df2fd5d4519ff314e357d01684c0fe7a114", func := "skolem/skolemlaw04.TruthHerbrand", spec := "truthHerbrand", unfollowed := true, recurses := true, apart := false, narrowed := true }
def TruthHerbrandUptoSaid : Prop := truthHerbrandUptoRow.holds Try.pinned (OpenSpec.upto truthHerbrandSpec)

/-- 'skolemlaw04.TruthMore', WHERE WHAT IT READS IS OF BULK AT MOST 1048576: true; the input reads as it did. -/
def truthMoreUptoRow : OpenClaim := { program := "ytppmnjikhealeaa", sum := "7cecab1ec99954ed4067f35275d38df2fd5d4519ff314e357d01684c0fe7a114", func := "skolem/skolemlaw04.TruthMore", spec := "truthMore", unfollowed := true, recurses := true, apart := false, narrowed := true }
def TruthMoreUptoSaid : Prop := truthMoreUptoRow.holds Try.pinned (OpenSpec.upto truthMoreSpec)

/-- 'skolemlaw04.TruthLeast', WHERE WHAT IT READS IS OF BULK AT MOST 1048576: true; the input reads as it did. -/
def truthLeastUptoRow : OpenClaim := { program := "ytppmnjikhealeaa", sum := "7cecab1ec99954ed4067f35275d38df2fd5d4519ff314e357d01684c0fe7a114", func := "skolem/skolemlaw04.TruthLeast", spec := "truthLeast", unfollowed := true, recurses := true, apart := false, narrowed := true }
def TruthLeastUptoSaid : Prop := truthLeastUptoRow.holds Try.pinned (OpenSpec.upto truthLeastSpec)

/-- 'skolemlaw04.TruthGames', WHERE WHAT IT READS IS OF BULK AT MOST 1048576: true; the input reads as it did. -/
def truthGamesUptoRow : OpenClaim := { program := "ytppmnjikhealeaa", sum := "7cecab1ec99954ed4067f35275d38df2fd5d4519ff314e357d01684c0fe7a114", func := "skolem/skolemlaw04.TruthGames", spec := "truthGames", unfollowed := true, recurses := true, apart := false, narrowed := true }
def TruthGamesUptoSaid : Prop := truthGamesUptoRow.holds Try.pinned (OpenSpec.upto truthGamesSpec)

end Rows
end Go.Proofs.Ytppmnjikhealeaa
