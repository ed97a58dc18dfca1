/-
  No cell of these rows narrows 'for every input' (looked for: loops, veiled, ifaces, maps, wideKeys, modest, calm, conditions, laid).
  DERIVED. THE GIVEN ROWS OF THIS SEAT. 14 by the template 'for every input the law returns true; each argument reads behind the call as it read before'; 0 by the template 'total and deterministic' (their statements: YtngiionckbmkmaaTotals.lean).
  GIVEN WITH THE SEED: the statements are not yours to turn. If you find one false, say at which input.
  Laid BY PROGRAM, IN A SANDBOX (cutbox-rows.mjs): the forced cells as the released guide's own fill.sh prints them over the translation e8f036bdd4f0f509… (all of the seat's roots in one cut). By AI agents, Wed Nov 11 2026. No macro, syntax, notation, axiom, sorry.
-/
import Derived.Test.YtngiionckbmkmaaChecked
import GoSem.Claim
import GoSem.ClaimJoined
import GoSem.ClaimMapViews
import Derived.JoinedTies
import Derived.KernelRfl
namespace Go.Proofs.Ytngiionckbmkmaa
/- THE CELL 'sum', in the pinned program and in every row, IS THE sha256 OF THE DUMP (.gsa) THAT YtngiionckbmkmaaProg.lean LOADS. Nothing in Lean hashes anything: it is a label: what it is worth is what the hold of that sum in a sandbox is worth. -/
noncomputable def Try.pinned : Pinned := { name := "ytngiionckbmkmaa", sum := "e8f036bdd4f0f5090d3d7368f570d825c6e7b5c254204b1826b4d1a1b0c5ac10", checked := Try.checked }
namespace Rows
def none {H : Type} : Left H := { results := [], args := [] }

/-- 'laws.FnExactWordMatrix': WHATEVER THE INPUT: true; the input reads as it did. -/
def fnExactWordMatrixSpec : ChangeSpec := { name := "fnExactWordMatrix", fn := fun _ => fun
  | [d1, d2] => { results := [.lit (.bool true)], args := [d1, d2] }
  | _ => none }
def fnExactWordMatrixRow : OpenClaim := { program := "ytngiionckbmkmaa", sum := "e8f036bdd4f0f5090d3d7368f570d825c6e7b5c254204b1826b4d1a1b0c5ac10", func := "loop.example/g01144/laws.FnExactWordMatrix", spec := "fnExactWordMatrix", unfollowed := true, recurses := true, apart := false }
def FnExactWordMatrixSaid : Prop := fnExactWordMatrixRow.holds Try.pinned (OpenSpec.ofChange fnExactWordMatrixSpec)

/-- ITS FALSE NEIGHBOUR: 'it returns false'. Refute it at one input. -/
def fnExactWordMatrixWrong : ChangeSpec := { name := "fnExactWordMatrix", fn := fun _ => fun
  | [d1, d2] => { results := [.lit (.bool false)], args := [d1, d2] }
  | _ => none }
def FnExactWordMatrixWrongFalsely : Prop := fnExactWordMatrixRow.holds Try.pinned (OpenSpec.ofChange fnExactWordMatrixWrong)

/-- 'laws.FnExactLiftWord': WHATEVER THE INPUT: true; the input reads as it did. -/
def fnExactLiftWordSpec : ChangeSpec := { name := "fnExactLiftWord", fn := fun _ => fun
  | [d1, d2] => { results := [.lit (.bool true)], args := [d1, d2] }
  | _ => none }
def fnExactLiftWordRow : OpenClaim := { program := "ytngiionckbmkmaa", sum := "e8f036bdd4f0f5090d3d7368f570d825c6e7b5c254204b1826b4d1a1b0c5ac10", func := "loop.example/g01144/laws.FnExactLiftWord", spec := "fnExactLiftWord", unfollowed := true, recurses := true, apart := false }
def FnExactLiftWordSaid : Prop := fnExactLiftWordRow.holds Try.pinned (OpenSpec.ofChange fnExactLiftWordSpec)

/-- ITS FALSE NEIGHBOUR: 'it returns false'. Refute it at one input. -/
def fnExactLiftWordWrong : ChangeSpec := { name := "fnExactLiftWord", fn := fun _ => fun
  | [d1, d2] => { results := [.lit (.bool false)], args := [d1, d2] }
  | _ => none }
def FnExactLiftWordWrongFalsely : Prop := fnExactLiftWordRow.holds Try.pinned (OpenSpec.ofChange fnExactLiftWordWrong)

/-- 'laws.FnExactWordRank': WHATEVER THE INPUT: true; the input reads as it did. -/
def fnExactWordRankSpec : ChangeSpec := { name := "fnExactWordRank", fn := fun _ => fun
  | [d1, d2] => { results := [.lit (.bool true)], args := [d1, d2] }
  | _ => none }
def fnExactWordRankRow : OpenClaim := { program := "ytngiionckbmkmaa", sum := "e8f036bdd4f0f5090d3d7368f570d825c6e7b5c254204b1826b4d1a1b0c5ac10", func := "loop.example/g01144/laws.FnExactWordRank", spec := "fnExactWordRank", unfollowed := true, recurses := true, apart := false }
def FnExactWordRankSaid : Prop := fnExactWordRankRow.holds Try.pinned (OpenSpec.ofChange fnExactWordRankSpec)

/-- ITS FALSE NEIGHBOUR: 'it returns false'. Refute it at one input. -/
def fnExactWordRankWrong : ChangeSpec := { name := "fnExactWordRank", fn := fun _ => fun
  | [d1, d2] => { results := [.lit (.bool false)], args := [d1, d2] }
  | _ => none }
def FnExactWordRankWrongFalsely : Prop := fnExactWordRankRow.holds Try.pinned (OpenSpec.ofChange fnExactWordRankWrong)

/-- 'laws.FnExactSquareWord': WHATEVER THE INPUT: true; the input reads as it did. -/
def fnExactSquareWordSpec : ChangeSpec := { name := "fnExactSquareWord", fn := fun _ => fun
  | [d1, d2, d3] => { results := [.lit (.bool true)], args := [d1, d2, d3] }
  | _ => none }
def fnExactSquareWordRow : OpenClaim := { program := "ytngiionckbmkmaa", sum := "e8f036bdd4f0f5090d3d7368f570d825c6e7b5c254204b1826b4d1a1b0c5ac10", func := "loop.example/g01144/laws.FnExactSquareWord", spec := "fnExactSquareWord", unfollowed := true, recurses := true, apart := false }
def FnExactSquareWordSaid : Prop := fnExactSquareWordRow.holds Try.pinned (OpenSpec.ofChange fnExactSquareWordSpec)

/-- ITS FALSE NEIGHBOUR: 'it returns false'. Refute it at one input. -/
def fnExactSquareWordWrong : ChangeSpec := { name := "fnExactSquareWord", fn := fun _ => fun
  | [d1, d2, d3] => { results := [.lit (.bool false)], args := [d1, d2, d3] }
  | _ => none }
def FnExactSquareWordWrongFalsely : Prop := fnExactSquareWordRow.holds Try.pinned (OpenSpec.ofChange fnExactSquareWordWrong)

/-- 'laws.FnExactWordDistance': WHATEVER THE INPUT: true; the input reads as it did. -/
def fnExactWordDistanceSpec : ChangeSpec := { name := "fnExactWordDistance", fn := fun _ => fun
  | [d1, d2, d3] => { results := [.lit (.bool true)], args := [d1, d2, d3] }
  | _ => none }
def fnExactWordDistanceRow : OpenClaim := { program := "ytngiionckbmkmaa", sum := "e8f036bdd4f0f5090d3d7368f570d825c6e7b5c254204b1826b4d1a1b0c5ac10", func := "loop.example/g01144/laws.FnExactWordDistance", spec := "fnExactWordDistance", unfollowed := true, recurses := true, apart := false }
def FnExactWordDistanceSaid : Prop := fnExactWordDistanceRow.holds Try.pinned (OpenSpec.ofChange fnExactWordDistanceSpec)

/-- ITS FALSE NEIGHBOUR: 'it returns false'. Refute it at one input. -/
def fnExactWordDistanceWrong : ChangeSpec := { name := "fnExactWordDistance", fn := fun _ => fun
  | [d1, d2, d3] => { results := [.lit (.bool false)], args := [d1, d2, d3] }
  | _ => none }
def FnExactWordDistanceWrongFalsely : Prop := fnExactWordDistanceRow.holds Try.pinned (OpenSpec.ofChange fnExactWordDistanceWrong)

/-- 'laws.FnExactValidGabidulin': WHATEVER THE INPUT: true; the input reads as it did. -/
def fnExactValidGabidulinSpec : ChangeSpec := { name := "fnExactValidGabidulin", fn := fun _ => fun
  | [d] => { results := [.lit (.bool true)], args := [d] }
  | _ => none }
def fnExactValidGabidulinRow : OpenClaim := { program := "ytngiionckbmkmaa", sum := "e8f036bdd4f0f5090d3d7368f570d825c6e7b5c254204b1826b4d1a1b0c5ac10", func := "loop.example/g01144/laws.FnExactValidGabidulin", spec := "fnExactValidGabidulin", unfollowed := true, recurses := true, apart := false }
def FnExactValidGabidulinSaid : Prop := fnExactValidGabidulinRow.holds Try.pinned (OpenSpec.ofChange fnExactValidGabidulinSpec)

/-- ITS FALSE NEIGHBOUR: 'it returns false'. Refute it at one input. -/
def fnExactValidGabidulinWrong : ChangeSpec := { name := "fnExactValidGabidulin", fn := fun _ => fun
  | [d] => { results := [.lit (.bool false)], args := [d] }
  | _ => none }
def FnExactValidGabidulinWrongFalsely : Prop := fnExactValidGabidulinRow.holds Try.pinned (OpenSpec.ofChange fnExactValidGabidulinWrong)

/-- 'laws.FnExactRowSupport': WHATEVER THE INPUT: true; the input reads as it did. -/
def fnExactRowSupportSpec : ChangeSpec := { name := "fnExactRowSupport", fn := fun _ => fun
  | [d1, d2] => { results := [.lit (.bool true)], args := [d1, d2] }
  | _ => none }
def fnExactRowSupportRow : OpenClaim := { program := "ytngiionckbmkmaa", sum := "e8f036bdd4f0f5090d3d7368f570d825c6e7b5c254204b1826b4d1a1b0c5ac10", func := "loop.example/g01144/laws.FnExactRowSupport", spec := "fnExactRowSupport", unfollowed := true, recurses := true, apart := false }
def FnExactRowSupportSaid : Prop := fnExactRowSupportRow.holds Try.pinned (OpenSpec.ofChange fnExactRowSupportSpec)

/-- ITS FALSE NEIGHBOUR: 'it returns false'. Refute it at one input. -/
def fnExactRowSupportWrong : ChangeSpec := { name := "fnExactRowSupport", fn := fun _ => fun
  | [d1, d2] => { results := [.lit (.bool false)], args := [d1, d2] }
  | _ => none }
def FnExactRowSupportWrongFalsely : Prop := fnExactRowSupportRow.holds Try.pinned (OpenSpec.ofChange fnExactRowSupportWrong)

/-- 'laws.FnExactRadiusOf': WHATEVER THE INPUT: true; the input reads as it did. -/
def fnExactRadiusOfSpec : ChangeSpec := { name := "fnExactRadiusOf", fn := fun _ => fun
  | [d] => { results := [.lit (.bool true)], args := [d] }
  | _ => none }
def fnExactRadiusOfRow : OpenClaim := { program := "ytngiionckbmkmaa", sum := "e8f036bdd4f0f5090d3d7368f570d825c6e7b5c254204b1826b4d1a1b0c5ac10", func := "loop.example/g01144/laws.FnExactRadiusOf", spec := "fnExactRadiusOf", unfollowed := true, recurses := true, apart := false }
def FnExactRadiusOfSaid : Prop := fnExactRadiusOfRow.holds Try.pinned (OpenSpec.ofChange fnExactRadiusOfSpec)

/-- ITS FALSE NEIGHBOUR: 'it returns false'. Refute it at one input. -/
def fnExactRadiusOfWrong : ChangeSpec := { name := "fnExactRadiusOf", fn := fun _ => fun
  | [d] => { results := [.lit (.bool false)], args := [d] }
  | _ => none }
def FnExactRadiusOfWrongFalsely : Prop := fnExactRadiusOfRow.holds Try.pinned (OpenSpec.ofChange fnExactRadiusOfWrong)

/-- 'laws.FnExactColumnSupport': WHATEVER THE INPUT: true; the input reads as it did. -/
def fnExactColumnSupportSpec : ChangeSpec := { name := "fnExactColumnSupport", fn := fun _ => fun
  | [d1, d2] => { results := [.lit (.bool true)], args := [d1, d2] }
  | _ => none }
def fnExactColumnSupportRow : OpenClaim := { program := "ytngiionckbmkmaa", sum := "e8f036bdd4f0f5090d3d7368f570d825c6e7b5c254204b1826b4d1a1b0c5ac10", func := "loop.example/g01144/laws.FnExactColumnSupport", spec := "fnExactColumnSupport", unfollowed := true, recurses := true, apart := false }
def FnExactColumnSupportSaid : Prop := fnExactColumnSupportRow.holds Try.pinned (OpenSpec.ofChange fnExactColumnSupportSpec)

/-- ITS FALSE NEIGHBOUR: 'it returns false'. Refute it at one input. -/
def fnExactColumnSupportWrong : ChangeSpec := { name := "fnExactColumnSupport", fn := fun _ => fun
  | [d1, d2] => { results := [.lit (.bool false)], args := [d1, d2] }
  | _ => none }
def FnExactColumnSupportWrongFalsely : Prop := fnExactColumnSupportRow.holds Try.pinned (OpenSpec.ofChange fnExactColumnSupportWrong)

/-- 'laws.FnExactUnliftSpace': WHATEVER THE INPUT: true; the input reads as it did. -/
def fnExactUnliftSpaceSpec : ChangeSpec := { name := "fnExactUnliftSpace", fn := fun _ => fun
  | [d1, d2, d3] => { results := [.lit (.bool true)], args := [d1, d2, d3] }
  | _ => none }
def fnExactUnliftSpaceRow : OpenClaim := { program := "ytngiionckbmkmaa", sum := "e8f036bdd4f0f5090d3d7368f570d825c6e7b5c254204b1826b4d1a1b0c5ac10", func := "loop.example/g01144/laws.FnExactUnliftSpace", spec := "fnExactUnliftSpace", unfollowed := true, recurses := true, apart := false }
def FnExactUnliftSpaceSaid : Prop := fnExactUnliftSpaceRow.holds Try.pinned (OpenSpec.ofChange fnExactUnliftSpaceSpec)

/-- ITS FALSE NEIGHBOUR: 'it returns false'. Refute it at one input. -/
def fnExactUnliftSpaceWrong : ChangeSpec := { name := "fnExactUnliftSpace", fn := fun _ => fun
  | [d1, d2, d3] => { results := [.lit (.bool false)], args := [d1, d2, d3] }
  | _ => none }
def FnExactUnliftSpaceWrongFalsely : Prop := fnExactUnliftSpaceRow.holds Try.pinned (OpenSpec.ofChange fnExactUnliftSpaceWrong)

/-- 'laws.FnExactFieldRank': WHATEVER THE INPUT: true; the input reads as it did. -/
def fnExactFieldRankSpec : ChangeSpec := { name := "fnExactFieldRank", fn := fun _ => fun
  | [d1, d2, d3] => { results := [.lit (.bool true)], args := [d1, d2, d3] }
  | _ => none }
def fnExactFieldRankRow : OpenClaim := { program := "ytngiionckbmkmaa", sum := "e8f036bdd4f0f5090d3d7368f570d825c6e7b5c254204b1826b4d1a1b0c5ac10", func := "loop.example/g01144/laws.FnExactFieldRank", spec := "fnExactFieldRank", unfollowed := true, recurses := true, apart := false }
def FnExactFieldRankSaid : Prop := fnExactFieldRankRow.holds Try.pinned (OpenSpec.ofChange fnExactFieldRankSpec)

/-- ITS FALSE NEIGHBOUR: 'it returns false'. Refute it at one input. -/
def fnExactFieldRankWrong : ChangeSpec := { name := "fnExactFieldRank", fn := fun _ => fun
  | [d1, d2, d3] => { results := [.lit (.bool false)], args := [d1, d2, d3] }
  | _ => none }
def FnExactFieldRankWrongFalsely : Prop := fnExactFieldRankRow.holds Try.pinned (OpenSpec.ofChange fnExactFieldRankWrong)

/-- 'laws.FnExactFieldEchelon': WHATEVER THE INPUT: true; the input reads as it did. -/
def fnExactFieldEchelonSpec : ChangeSpec := { name := "fnExactFieldEchelon", fn := fun _ => fun
  | [d1, d2, d3] => { results := [.lit (.bool true)], args := [d1, d2, d3] }
  | _ => none }
def fnExactFieldEchelonRow : OpenClaim := { program := "ytngiionckbmkmaa", sum := "e8f036bdd4f0f5090d3d7368f570d825c6e7b5c254204b1826b4d1a1b0c5ac10", func := "loop.example/g01144/laws.FnExactFieldEchelon", spec := "fnExactFieldEchelon", unfollowed := true, recurses := true, apart := false }
def FnExactFieldEchelonSaid : Prop := fnExactFieldEchelonRow.holds Try.pinned (OpenSpec.ofChange fnExactFieldEchelonSpec)

/-- ITS FALSE NEIGHBOUR: 'it returns false'. Refute it at one input. -/
def fnExactFieldEchelonWrong : ChangeSpec := { name := "fnExactFieldEchelon", fn := fun _ => fun
  | [d1, d2, d3] => { results := [.lit (.bool false)], args := [d1, d2, d3] }
  | _ => none }
def FnExactFieldEchelonWrongFalsely : Prop := fnExactFieldEchelonRow.holds Try.pinned (OpenSpec.ofChange fnExactFieldEchelonWrong)

/-- 'laws.FnExactSquareGabidulin': WHATEVER THE INPUT: true; the input reads as it did. -/
def fnExactSquareGabidulinSpec : ChangeSpec := { name := "fnExactSquareGabidulin", fn := fun _ => fun
  | [d1, d2] => { results := [.lit (.bool true)], args := [d1, d2] }
  | _ => none }
def fnExactSquareGabidulinRow : OpenClaim := { program := "ytngiionckbmkmaa", sum := "e8f036bdd4f0f5090d3d7368f570d825c6e7b5c254204b1826b4d1a1b0c5ac10", func := "loop.example/g01144/laws.FnExactSquareGabidulin", spec := "fnExactSquareGabidulin", unfollowed := true, recurses := true, apart := false }
def FnExactSquareGabidulinSaid : Prop := fnExactSquareGabidulinRow.holds Try.pinned (OpenSpec.ofChange fnExactSquareGabidulinSpec)

/-- ITS FALSE NEIGHBOUR: 'it returns false'. Refute it at one input. -/
def fnExactSquareGabidulinWrong : ChangeSpec := { name := "fnExactSquareGabidulin", fn := fun _ => fun
  | [d1, d2] => { results := [.lit (.bool false)], args := [d1, d2] }
  | _ => none }
def FnExactSquareGabidulinWrongFalsely : Prop := fnExactSquareGabidulinRow.holds Try.pinned (OpenSpec.ofChange fnExactSquareGabidulinWrong)

/-- 'laws.FnExactEncodeGabidulin': WHATEVER THE INPUT: true; the input reads as it did. -/
def fnExactEncodeGabidulinSpec : ChangeSpec := { name := "fnExactEncodeGabidulin", fn := fun _ => fun
  | [d1, d2] => { results := [.lit (.bool true)], args := [d1, d2] }
  | _ => none }
def fnExactEncodeGabidulinRow : OpenClaim := { program := "ytngiionckbmkmaa", sum := "e8f036bdd4f0f5090d3d7368f570d825c6e7b5c254204b1826b4d1a1b0c5ac10", func := "loop.example/g01144/laws.FnExactEncodeGabidulin", spec := "fnExactEncodeGabidulin", unfollowed := true, recurses := true, apart := false }
def FnExactEncodeGabidulinSaid : Prop := fnExactEncodeGabidulinRow.holds Try.pinned (OpenSpec.ofChange fnExactEncodeGabidulinSpec)

/-- ITS FALSE NEIGHBOUR: 'it returns false'. Refute it at one input. -/
def fnExactEncodeGabidulinWrong : ChangeSpec := { name := "fnExactEncodeGabidulin", fn := fun _ => fun
  | [d1, d2] => { results := [.lit (.bool false)], args := [d1, d2] }
  | _ => none }
def FnExactEncodeGabidulinWrongFalsely : Prop := fnExactEncodeGabidulinRow.holds Try.pinned (OpenSpec.ofChange fnExactEncodeGabidulinWrong)

/- THE SECOND FORM. 'bulk': how many values and letters a reading holds, each counted each time it is reached (what is shared counts as often as it is met; a slice's spare places count too). A statement '..UptoSaid' is the law's where the arguments, and the package variables that the reading takes, are together of bulk at most 1048576: NARROWER than '..Said'. Prove '..Said' where nothing that the law and all that it calls make is longer than what came in: it says more and counts as full. Else prove '..UptoSaid'. A law counts once. -/
mutual
def uptoBulk {H : Type} : DataW H → Nat
  | .lit (.string bytes) => bytes.length + 1
  | .lit _ => 1
  | .nil => 1
  | .ptr d => uptoBulk d + 1
  | .slice elems spare => uptoBulkAll elems + uptoBulkAll spare + 1
  | .agg parts => uptoBulkAll parts + 1
  | .iface _ d => uptoBulk d + 1
  | .map entries => uptoBulkEntries entries + 1
  | .held _ => 1
def uptoBulkAll {H : Type} : List (DataW H) → Nat
  | [] => 0
  | d :: r => uptoBulk d + uptoBulkAll r
def uptoBulkEntries {H : Type} : List (Lit × DataW H) → Nat
  | [] => 0
  | x :: r => uptoBulkEntry x + uptoBulkEntries r
def uptoBulkEntry {H : Type} : Lit × DataW H → Nat
  | (.string bytes, d) => bytes.length + uptoBulk d + 1
  | (_, d) => uptoBulk d + 1
 end
def uptoSmall : (H : Type) → List (DataW H) → Bool := fun _ ds => decide (uptoBulkAll ds ≤ 1048576)
def OpenSpec.upto (s : _root_.Go.ChangeSpec) : _root_.Go.OpenSpec := { _root_.Go.OpenSpec.ofChange s with cond := some uptoSmall }

/-- 'laws.FnExactWordMatrix', WHERE WHAT IT READS IS OF BULK AT MOST 1048576: true; the input reads as it did. -/
def fnExactWordMatrixUptoRow : OpenClaim := { program := "ytngiionckbmkmaa", sum := "e8f036bdd4f0f5090d3d7368f570d825c6e7b5c254204b1826b4d1a1b0c5ac10", func := "loop.example/g01144/laws.FnExactWordMatrix", spec := "fnExactWordMatrix", unfollowed := true, recurses := true, apart := false, narrowed := true }
def FnExactWordMatrixUptoSaid : Prop := fnExactWordMatrixUptoRow.holds Try.pinned (OpenSpec.upto fnExactWordMatrixSpec)

/-- 'laws.FnExactLiftWord', WHERE WHAT IT READS IS OF BULK AT MOST 1048576: true; the input reads as it did. -/
def fnExactLiftWordUptoRow : OpenClaim := { program := "ytngiionckbmkmaa", sum := "e8f036bdd4f0f5090d3d7368f570d825c6e7b5c254204b1826b4d1a1b0c5ac10", func := "loop.example/g01144/laws.FnExactLiftWord", spec := "fnExactLiftWord", unfollowed := true, recurses := true, apart := false, narrowed := true }
def FnExactLiftWordUptoSaid : Prop := fnExactLiftWordUptoRow.holds Try.pinned (OpenSpec.upto fnExactLiftWordSpec)

/-- 'laws.FnExactWordRank', WHERE WHAT IT READS IS OF BULK AT MOST 1048576: true; the input reads as it did. -/
def fnExactWordRankUptoRow : OpenClaim := { program := "ytngiionckbmkmaa", sum := "e8f036bdd4f0f5090d3d7368f570d825c6e7b5c254204b1826b4d1a1b0c5ac10", func := "loop.example/g01144/laws.FnExactWordRank", spec := "fnExactWordRank", unfollowed := true, recurses := true, apart := false, narrowed := true }
def FnExactWordRankUptoSaid : Prop := fnExactWordRankUptoRow.holds Try.pinned (OpenSpec.upto fnExactWordRankSpec)

/-- 'laws.FnExactSquareWord', WHERE WHAT IT READS IS OF BULK AT MOST 1048576: true; the input reads as it did. -/
def fnExactSquareWordUptoRow : OpenClaim := { program := "ytngiionckbmkmaa", sum := "e8f036bdd4f0f5090d3d7368f570d825c6e7b5c254204b1826b4d1a1b0c5ac10", func := "loop.example/g01144/laws.FnExactSquareWord", spec := "fnExactSquareWord", unfollowed := true, recurses := true, apart := false, narrowed := true }
def FnExactSquareWordUptoSaid : Prop := fnExactSquareWordUptoRow.holds Try.pinned (OpenSpec.upto fnExactSquareWordSpec)

/-- 'laws.FnExactWordDistance', WHERE WHAT IT READS IS OF BULK AT MOST 1048576: true; the input reads as it did. -/
def fnExactWordDistanceUptoRow : OpenClaim := { program := "ytngiionckbmkmaa", sum := "e8f036bdd4f0f5090d3d7368f570d825c6e7b5c254204b1826b4d1a1b0c5ac10", func := "loop.example/g01144/laws.FnExactWordDistance", spec := "fnExactWordDistance", unfollowed := true, recurses := true, apart := false, narrowed := true }
def FnExactWordDistanceUptoSaid : Prop := fnExactWordDistanceUptoRow.holds Try.pinned (OpenSpec.upto fnExactWordDistanceSpec)

/-- 'laws.FnExactValidGabidulin', WHERE WHAT IT READS IS OF BULK AT MOST 1048576: true; the input reads as it did. -/
def fnExactValidGabidulinUptoRow : OpenClaim := { program := "ytngiionckbmkmaa", sum := "e8f036bdd4f0f5090d3d7368f570d825c6e7b5c254204b1826b4d1a1b0c5ac10", func := "loop.example/g01144/laws.FnExactValidGabidulin", spec := "fnExactValidGabidulin", unfollowed := true, recurses := true, apart := false, narrowed := true }
def FnExactValidGabidulinUptoSaid : Prop := fnExactValidGabidulinUptoRow.holds Try.pinned (OpenSpec.upto fnExactValidGabidulinSpec)

/-- 'laws.FnExactRowSupport', WHERE WHAT IT READS IS OF BULK AT MOST 1048576: true; the input reads as it did. -/
def fnExactRowSupportUptoRow : OpenClaim := { program := "ytngiionckbmkmaa", sum := "e8f036bdd4f0f5090d3d7368f570d825c6e7b5c254204b1826b4d1a1b0c5ac10", func := "loop.example/g01144/laws.FnExactRowSupport", spec := "fnExactRowSupport", unfollowed := true, recurses := true, apart := false, narrowed := true }
def FnExactRowSupportUptoSaid : Prop := fnExactRowSupportUptoRow.holds Try.pinned (OpenSpec.upto fnExactRowSupportSpec)

/-- 'laws.FnExactRadiusOf', WHERE WHAT IT READS IS OF BULK AT MOST 1048576: true; the input reads as it did. -/
def fnExactRadiusOfUptoRow : OpenClaim := { program := "ytngiionckbmkmaa", sum := "e8f036bdd4f0f5090d3d7368f570d825c6e7b5c254204b1826b4d1a1b0c5ac10", func := "loop.example/g01144/laws.FnExactRadiusOf", spec := "fnExactRadiusOf", unfollowed := true, recurses := true, apart := false, narrowed := true }
def FnExactRadiusOfUptoSaid : Prop := fnExactRadiusOfUptoRow.holds Try.pinned (OpenSpec.upto fnExactRadiusOfSpec)

/-- 'laws.FnExactColumnSupport', WHERE WHAT IT READS IS OF BULK AT MOST 1048576: true; the input reads as it did. -/
def fnExactColumnSupportUptoRow : OpenClaim := { program := "ytngiionckbmkmaa", sum := "e8f036bdd4f0f5090d3d7368f570d825c6e7b5c254204b1826b4d1a1b0c5ac10", func := "loop.example/g01144/laws.FnExactColumnSupport", spec := "fnExactColumnSupport", unfollowed := true, recurses := true, apart := false, narrowed := true }
def FnExactColumnSupportUptoSaid : Prop := fnExactColumnSupportUptoRow.holds Try.pinned (OpenSpec.upto fnExactColumnSupportSpec)

/-- 'laws.FnExactUnliftSpace', WHERE WHAT IT READS IS OF BULK AT MOST 1048576: true; the input reads as it did. -/
def fnExactUnliftSpaceUptoRow : OpenClaim := { program := "ytngiionckbmkmaa", sum := "e8f036bdd4f0f5090d3d7368f570d825c6e7b5c254204b1826b4d1a1b0c5ac10", func := "loop.example/g01144/laws.FnExactUnliftSpace", spec := "fnExactUnliftSpace", unfollowed := true, recurses := true, apart := false, narrowed := true }
def FnExactUnliftSpaceUptoSaid : Prop := fnExactUnliftSpaceUptoRow.holds Try.pinned (OpenSpec.upto fnExactUnliftSpaceSpec)

/-- 'laws.FnExactFieldRank', WHERE WHAT IT READS IS OF BULK AT MOST 1048576: true; the input reads as it did. -/
def fnExactFieldRankUptoRow : OpenClaim := { program := "ytngiionckbmkmaa", sum := "e8f036bdd4f0f5090d3d7368f570d825c6e7b5c254204b1826b4d1a1b0c5ac10", func := "loop.example/g01144/laws.FnExactFieldRank", spec := "fnExactFieldRank", unfollowed := true, recurses := true, apart := false, narrowed := true }
def FnExactFieldRankUptoSaid : Prop := fnExactFieldRankUptoRow.holds Try.pinned (OpenSpec.upto fnExactFieldRankSpec)

/-- 'laws.FnExactFieldEchelon', WHERE WHAT IT READS IS OF BULK AT MOST 1048576: true; the input reads as it did. -/
def fnExactFieldEchelonUptoRow : OpenClaim := { program := "ytngiionckbmkmaa", sum := "e8f036bdd4f0f5090d3d7368f570d825c6e7b5c254204b1826b4d1a1b0c5ac10", func := "loop.example/g01144/laws.FnExactFieldEchelon", spec := "fnExactFieldEchelon", unfollowed := true, recurses := true, apart := false, narrowed := true }
def FnExactFieldEchelonUptoSaid : Prop := fnExactFieldEchelonUptoRow.holds Try.pinned (OpenSpec.upto fnExactFieldEchelonSpec)

/-- 'laws.FnExactSquareGabidulin', WHERE WHAT IT READS IS OF BULK AT MOST 1048576: true; the input reads as it did. -/
def fnExactSquareGabidulinUptoRow : OpenClaim := { program := "ytngiionckbmkmaa", sum := "e8f036bdd4f0f5090d3d7368f570d825c6e7b5c254204b1826b4d1a1b0c5ac10", func := "loop.example/g01144/laws.FnExactSquareGabidulin", spec := "fnExactSquareGabidulin", unfollowed := true, recurses := true, apart := false, narrowed := true }
def FnExactSquareGabidulinUptoSaid : Prop := fnExactSquareGabidulinUptoRow.holds Try.pinned (OpenSpec.upto fnExactSquareGabidulinSpec)

/-- 'laws.FnExactEncodeGabidulin', WHERE WHAT IT READS IS OF BULK AT MOST 1048576: true; the input reads as it did. -/
def fnExactEncodeGabidulinUptoRow : OpenClaim := { program := "ytngiionckbmkmaa", sum := "e8f036bdd4f0f5090d3d7368f570d825c6e7b5c254204b1826b4d1a1b0c5ac10", func := "loop.example/g01144/laws.FnExactEncodeGabidulin", spec := "fnExactEncodeGabidulin", unfollowed := true, recurses := true, apart := false, narrowed := true }
def FnExactEncodeGabidulinUptoSaid : Prop := fnExactEncodeGabidulinUptoRow.holds Try.pinned (OpenSpec.upto fnExactEncodeGabidulinSpec)

end Rows
end Go.Proofs.Ytngiionckbmkmaa
