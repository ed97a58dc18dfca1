/-
  No cell of these rows narrows 'for every input' (looked for: loops, veiled, ifaces, maps, wideKeys, modest, calm, conditions, laid).
  DERIVED. THE GIVEN ROWS OF THIS SEAT. 6 by the template 'for every input the law returns true; each argument reads behind the call as it read before'; 0 by the template 'total and deterministic' (their statements: YtbgbblgdbcjibaaTotals.lean).
  GIVEN WITH THE SEED: the statements are not yours to turn. If you find one false, say at which input.
  Laid BY PROGRAM, IN A SANDBOX (cutbox-rows.mjs): the forced cells as the released guide's own fill.sh prints them over the translation 79cfc9a2e93f1f68… (all of the seat's roots in one cut). By AI agents, Wed Nov 11 2026. No macro, syntax, notation, axiom, sorry.
-/
import Derived.Test.YtbgbblgdbcjibaaChecked
import GoSem.Claim
import GoSem.ClaimJoined
import GoSem.ClaimMapViews
import Derived.JoinedTies
import Derived.KernelRfl
namespace Go.Proofs.Ytbgbblgdbcjibaa
/- THE CELL 'sum', in the pinned program and in every row, IS THE sha256 OF THE DUMP (.gsa) THAT YtbgbblgdbcjibaaProg.lean LOADS. Nothing in Lean hashes anything: it is a label: what it is worth is what the hold of that sum in a sandbox is worth. -/
noncomputable def Try.pinned : Pinned := { name := "ytbgbblgdbcjibaa", sum := "79cfc9a2e93f1f68eafe920e7d7c21b1f625a8cf6260c294bf229cb6143e73b6", checked := Try.checked }
namespace Rows
def none {H : Type} : Left H := { results := [], args := [] }

/-- 'laws.FnExactFirstNormal': WHATEVER THE INPUT: true; the input reads as it did. -/
def fnExactFirstNormalSpec : ChangeSpec := { name := "fnExactFirstNormal", fn := fun _ => fun
  | [d] => { results := [.lit (.bool true)], args := [d] }
  | _ => none }
def fnExactFirstNormalRow : OpenClaim := { program := "ytbgbblgdbcjibaa", sum := "79cfc9a2e93f1f68eafe920e7d7c21b1f625a8cf6260c294bf229cb6143e73b6", func := "loop.example/g01144/laws.FnExactFirstNormal", spec := "fnExactFirstNormal", unfollowed := true, recurses := true, apart := false }
def FnExactFirstNormalSaid : Prop := fnExactFirstNormalRow.holds Try.pinned (OpenSpec.ofChange fnExactFirstNormalSpec)

/-- ITS FALSE NEIGHBOUR: 'it returns false'. Refute it at one input. -/
def fnExactFirstNormalWrong : ChangeSpec := { name := "fnExactFirstNormal", fn := fun _ => fun
  | [d] => { results := [.lit (.bool false)], args := [d] }
  | _ => none }
def FnExactFirstNormalWrongFalsely : Prop := fnExactFirstNormalRow.holds Try.pinned (OpenSpec.ofChange fnExactFirstNormalWrong)

/-- 'laws.FnExactSubfieldIn': WHATEVER THE INPUT: true; the input reads as it did. -/
def fnExactSubfieldInSpec : ChangeSpec := { name := "fnExactSubfieldIn", fn := fun _ => fun
  | [d1, d2] => { results := [.lit (.bool true)], args := [d1, d2] }
  | _ => none }
def fnExactSubfieldInRow : OpenClaim := { program := "ytbgbblgdbcjibaa", sum := "79cfc9a2e93f1f68eafe920e7d7c21b1f625a8cf6260c294bf229cb6143e73b6", func := "loop.example/g01144/laws.FnExactSubfieldIn", spec := "fnExactSubfieldIn", unfollowed := true, recurses := true, apart := false }
def FnExactSubfieldInSaid : Prop := fnExactSubfieldInRow.holds Try.pinned (OpenSpec.ofChange fnExactSubfieldInSpec)

/-- ITS FALSE NEIGHBOUR: 'it returns false'. Refute it at one input. -/
def fnExactSubfieldInWrong : ChangeSpec := { name := "fnExactSubfieldIn", fn := fun _ => fun
  | [d1, d2] => { results := [.lit (.bool false)], args := [d1, d2] }
  | _ => none }
def FnExactSubfieldInWrongFalsely : Prop := fnExactSubfieldInRow.holds Try.pinned (OpenSpec.ofChange fnExactSubfieldInWrong)

/-- 'laws.FnExactCoordinatesIn': WHATEVER THE INPUT: true; the input reads as it did. -/
def fnExactCoordinatesInSpec : ChangeSpec := { name := "fnExactCoordinatesIn", fn := fun _ => fun
  | [d1, d2, d3] => { results := [.lit (.bool true)], args := [d1, d2, d3] }
  | _ => none }
def fnExactCoordinatesInRow : OpenClaim := { program := "ytbgbblgdbcjibaa", sum := "79cfc9a2e93f1f68eafe920e7d7c21b1f625a8cf6260c294bf229cb6143e73b6", func := "loop.example/g01144/laws.FnExactCoordinatesIn", spec := "fnExactCoordinatesIn", unfollowed := true, recurses := true, apart := false }
def FnExactCoordinatesInSaid : Prop := fnExactCoordinatesInRow.holds Try.pinned (OpenSpec.ofChange fnExactCoordinatesInSpec)

/-- ITS FALSE NEIGHBOUR: 'it returns false'. Refute it at one input. -/
def fnExactCoordinatesInWrong : ChangeSpec := { name := "fnExactCoordinatesIn", fn := fun _ => fun
  | [d1, d2, d3] => { results := [.lit (.bool false)], args := [d1, d2, d3] }
  | _ => none }
def FnExactCoordinatesInWrongFalsely : Prop := fnExactCoordinatesInRow.holds Try.pinned (OpenSpec.ofChange fnExactCoordinatesInWrong)

/-- 'laws.FnExactDualBasis': WHATEVER THE INPUT: true; the input reads as it did. -/
def fnExactDualBasisSpec : ChangeSpec := { name := "fnExactDualBasis", fn := fun _ => fun
  | [d1, d2] => { results := [.lit (.bool true)], args := [d1, d2] }
  | _ => none }
def fnExactDualBasisRow : OpenClaim := { program := "ytbgbblgdbcjibaa", sum := "79cfc9a2e93f1f68eafe920e7d7c21b1f625a8cf6260c294bf229cb6143e73b6", func := "loop.example/g01144/laws.FnExactDualBasis", spec := "fnExactDualBasis", unfollowed := true, recurses := true, apart := false }
def FnExactDualBasisSaid : Prop := fnExactDualBasisRow.holds Try.pinned (OpenSpec.ofChange fnExactDualBasisSpec)

/-- ITS FALSE NEIGHBOUR: 'it returns false'. Refute it at one input. -/
def fnExactDualBasisWrong : ChangeSpec := { name := "fnExactDualBasis", fn := fun _ => fun
  | [d1, d2] => { results := [.lit (.bool false)], args := [d1, d2] }
  | _ => none }
def FnExactDualBasisWrongFalsely : Prop := fnExactDualBasisRow.holds Try.pinned (OpenSpec.ofChange fnExactDualBasisWrong)

/-- 'laws.FnExactRootsOf': WHATEVER THE INPUT: true; the input reads as it did. -/
def fnExactRootsOfSpec : ChangeSpec := { name := "fnExactRootsOf", fn := fun _ => fun
  | [d1, d2] => { results := [.lit (.bool true)], args := [d1, d2] }
  | _ => none }
def fnExactRootsOfRow : OpenClaim := { program := "ytbgbblgdbcjibaa", sum := "79cfc9a2e93f1f68eafe920e7d7c21b1f625a8cf6260c294bf229cb6143e73b6", func := "loop.example/g01144/laws.FnExactRootsOf", spec := "fnExactRootsOf", unfollowed := true, recurses := true, apart := false }
def FnExactRootsOfSaid : Prop := fnExactRootsOfRow.holds Try.pinned (OpenSpec.ofChange fnExactRootsOfSpec)

/-- ITS FALSE NEIGHBOUR: 'it returns false'. Refute it at one input. -/
def fnExactRootsOfWrong : ChangeSpec := { name := "fnExactRootsOf", fn := fun _ => fun
  | [d1, d2] => { results := [.lit (.bool false)], args := [d1, d2] }
  | _ => none }
def FnExactRootsOfWrongFalsely : Prop := fnExactRootsOfRow.holds Try.pinned (OpenSpec.ofChange fnExactRootsOfWrong)

/-- 'laws.FnExactMatrixOfLinear': WHATEVER THE INPUT: true; the input reads as it did. -/
def fnExactMatrixOfLinearSpec : ChangeSpec := { name := "fnExactMatrixOfLinear", fn := fun _ => fun
  | [d1, d2, d3] => { results := [.lit (.bool true)], args := [d1, d2, d3] }
  | _ => none }
def fnExactMatrixOfLinearRow : OpenClaim := { program := "ytbgbblgdbcjibaa", sum := "79cfc9a2e93f1f68eafe920e7d7c21b1f625a8cf6260c294bf229cb6143e73b6", func := "loop.example/g01144/laws.FnExactMatrixOfLinear", spec := "fnExactMatrixOfLinear", unfollowed := true, recurses := true, apart := false }
def FnExactMatrixOfLinearSaid : Prop := fnExactMatrixOfLinearRow.holds Try.pinned (OpenSpec.ofChange fnExactMatrixOfLinearSpec)

/-- ITS FALSE NEIGHBOUR: 'it returns false'. Refute it at one input. -/
def fnExactMatrixOfLinearWrong : ChangeSpec := { name := "fnExactMatrixOfLinear", fn := fun _ => fun
  | [d1, d2, d3] => { results := [.lit (.bool false)], args := [d1, d2, d3] }
  | _ => none }
def FnExactMatrixOfLinearWrongFalsely : Prop := fnExactMatrixOfLinearRow.holds Try.pinned (OpenSpec.ofChange fnExactMatrixOfLinearWrong)

/- THE SECOND FORM. 'bulk': how many values and letters a reading holds, each counted each time it is reached (what is shared counts as often as it is met; a slice's spare places count too). A statement '..UptoSaid' is the law's where the arguments, and the package variables that the reading takes, are together of bulk at most 1048576: NARROWER than '..Said'. Prove '..Said' where nothing that the law and all that it calls make is longer than what came in: it says more and counts as full. Else prove '..UptoSaid'. A law counts once. -/
mutual
def uptoBulk {H : Type} : DataW H → Nat
  | .lit (.string bytes) => bytes.length + 1
  | .lit _ => 1
  | .nil => 1
  | .ptr d => uptoBulk d + 1
  | .slice elems spare => uptoBulkAll elems + uptoBulkAll spare + 1
  | .agg parts => uptoBulkAll parts + 1
  | .iface _ d => uptoBulk d + 1
  | .map entries => uptoBulkEntries entries + 1
  | .held _ => 1
def uptoBulkAll {H : Type} : List (DataW H) → Nat
  | [] => 0
  | d :: r => uptoBulk d + uptoBulkAll r
def uptoBulkEntries {H : Type} : List (Lit × DataW H) → Nat
  | [] => 0
  | x :: r => uptoBulkEntry x + uptoBulkEntries r
def uptoBulkEntry {H : Type} : Lit × DataW H → Nat
  | (.string bytes, d) => bytes.length + uptoBulk d + 1
  | (_, d) => uptoBulk d + 1
 end
def uptoSmall : (H : Type) → List (DataW H) → Bool := fun _ ds => decide (uptoBulkAll ds ≤ 1048576)
def OpenSpec.upto (s : _root_.Go.ChangeSpec) : _root_.Go.OpenSpec := { _root_.Go.OpenSpec.ofChange s with cond := some uptoSmall }

/-- 'laws.FnExactFirstNormal', WHERE WHAT IT READS IS OF BULK AT MOST 1048576: true; the input reads as it did. -/
def fnExactFirstNormalUptoRow : OpenClaim := { program := "ytbgbblgdbcjibaa", sum := "79cfc9a2e93f1f68eafe920e7d7c21b1f625a8cf6260c294bf229cb6143e73b6", func := "loop.example/g01144/laws.FnExactFirstNormal", spec := "fnExactFirstNormal", unfollowed := true, recurses := true, apart := false, narrowed := true }
def FnExactFirstNormalUptoSaid : Prop := fnExactFirstNormalUptoRow.holds Try.pinned (OpenSpec.upto fnExactFirstNormalSpec)

/-- 'laws.FnExactSubfieldIn', WHERE WHAT IT READS IS OF BULK AT MOST 1048576: true; the input reads as it did. -/
def fnExactSubfieldInUptoRow : OpenClaim := { program := "ytbgbblgdbcjibaa", sum := "79cfc9a2e93f1f68eafe920e7d7c21b1f625a8cf6260c294bf229cb6143e73b6", func := "loop.example/g01144/laws.FnExactSubfieldIn", spec := "fnExactSubfieldIn", unfollowed := true, recurses := true, apart := false, narrowed := true }
def FnExactSubfieldInUptoSaid : Prop := fnExactSubfieldInUptoRow.holds Try.pinned (OpenSpec.upto fnExactSubfieldInSpec)

/-- 'laws.FnExactCoordinatesIn', WHERE WHAT IT READS IS OF BULK AT MOST 1048576: true; the input reads as it did. -/
def fnExactCoordinatesInUptoRow : OpenClaim := { program := "ytbgbblgdbcjibaa", sum := "79cfc9a2e93f1f68eafe920e7d7c21b1f625a8cf6260c294bf229cb6143e73b6", func := "loop.example/g01144/laws.FnExactCoordinatesIn", spec := "fnExactCoordinatesIn", unfollowed := true, recurses := true, apart := false, narrowed := true }
def FnExactCoordinatesInUptoSaid : Prop := fnExactCoordinatesInUptoRow.holds Try.pinned (OpenSpec.upto fnExactCoordinatesInSpec)

/-- 'laws.FnExactDualBasis', WHERE WHAT IT READS IS OF BULK AT MOST 1048576: true; the input reads as it did. -/
def fnExactDualBasisUptoRow : OpenClaim := { program := "ytbgbblgdbcjibaa", sum := "79cfc9a2e93f1f68eafe920e7d7c21b1f625a8cf6260c294bf229cb6143e73b6", func := "loop.example/g01144/laws.FnExactDualBasis", spec := "fnExactDualBasis", unfollowed := true, recurses := true, apart := false, narrowed := true }
def FnExactDualBasisUptoSaid : Prop := fnExactDualBasisUptoRow.holds Try.pinned (OpenSpec.upto fnExactDualBasisSpec)

/-- 'laws.FnExactRootsOf', WHERE WHAT IT READS IS OF BULK AT MOST 1048576: true; the input reads as it did. -/
def fnExactRootsOfUptoRow : OpenClaim := { program := "ytbgbblgdbcjibaa", sum := "79cfc9a2e93f1f68eafe920e7d7c21b1f625a8cf6260c294bf229cb6143e73b6", func := "loop.example/g01144/laws.FnExactRootsOf", spec := "fnExactRootsOf", unfollowed := true, recurses := true, apart := false, narrowed := true }
def FnExactRootsOfUptoSaid : Prop := fnExactRootsOfUptoRow.holds Try.pinned (OpenSpec.upto fnExactRootsOfSpec)

/-- 'laws.FnExactMatrixOfLinear', WHERE WHAT IT READS IS OF BULK AT MOST 1048576: true; the input reads as it did. -/
def fnExactMatrixOfLinearUptoRow : OpenClaim := { program := "ytbgbblgdbcjibaa", sum := "79cfc9a2e93f1f68eafe920e7d7c21b1f625a8cf6260c294bf229cb6143e73b6", func := "loop.example/g01144/laws.FnExactMatrixOfLinear", spec := "fnExactMatrixOfLinear", unfollowed := true, recurses := true, apart := false, narrowed := true }
def FnExactMatrixOfLinearUptoSaid : Prop := fnExactMatrixOfLinearUptoRow.holds Try.pinned (OpenSpec.upto fnExactMatrixOfLinearSpec)

end Rows
end Go.Proofs.Ytbgbblgdbcjibaa
