/-
  No cell of these rows narrows 'for every input' (looked for: loops, veiled, ifaces, maps, wideKeys, modest, calm, conditions, laid).
  DERIVED. THE GIVEN ROWS OF THIS SEAT. 12 by the template 'for every input the law returns true; each argument reads behind the call as it read before'; 0 by the template 'total and deterministic' (their statements: YtbaicdgkpnbipaaTotals.lean).
  GIVEN WITH THE SEED: the statements are not yours to turn. If you find one false, say at which input.
  Laid BY PROGRAM, IN A SANDBOX (cutbox-rows.mjs): the forced cells as the released guide's own fill.sh prints them over the translation ae2a4c63b6f42818… (all of the seat's roots in one cut). By AI agents, Wed Nov 11 2026. No macro, syntax, notation, axiom, sorry.
-/
import Derived.Test.YtbaicdgkpnbipaaChecked
import GoSem.Claim
import GoSem.ClaimJoined
import GoSem.ClaimMapViews
import Derived.JoinedTies
import Derived.KernelRfl
namespace Go.Proofs.Ytbaicdgkpnbipaa
/- THE CELL 'sum', in the pinned program and in every row, IS THE sha256 OF THE DUMP (.gsa) THAT YtbaicdgkpnbipaaProg.lean LOADS. Nothing in Lean hashes anything: it is a label: what it is worth is what the hold of that sum in a sandbox is worth. -/
noncomputable def Try.pinned : Pinned := { name := "ytbaicdgkpnbipaa", sum := "ae2a4c63b6f42818a4383aaa120cb122e8eda718f02e17c7e444d47b1bc8d6bb", checked := Try.checked }
namespace Rows
def none {H : Type} : Left H := { results := [], args := [] }

/-- 'laws.FnExactKernelOf': WHATEVER THE INPUT: true; the input reads as it did. -/
def fnExactKernelOfSpec : ChangeSpec := { name := "fnExactKernelOf", fn := fun _ => fun
  | [d] => { results := [.lit (.bool true)], args := [d] }
  | _ => none }
def fnExactKernelOfRow : OpenClaim := { program := "ytbaicdgkpnbipaa", sum := "ae2a4c63b6f42818a4383aaa120cb122e8eda718f02e17c7e444d47b1bc8d6bb", func := "loop.example/g01144/laws.FnExactKernelOf", spec := "fnExactKernelOf", unfollowed := true, recurses := true, apart := false }
def FnExactKernelOfSaid : Prop := fnExactKernelOfRow.holds Try.pinned (OpenSpec.ofChange fnExactKernelOfSpec)

/-- ITS FALSE NEIGHBOUR: 'it returns false'. Refute it at one input. -/
def fnExactKernelOfWrong : ChangeSpec := { name := "fnExactKernelOf", fn := fun _ => fun
  | [d] => { results := [.lit (.bool false)], args := [d] }
  | _ => none }
def FnExactKernelOfWrongFalsely : Prop := fnExactKernelOfRow.holds Try.pinned (OpenSpec.ofChange fnExactKernelOfWrong)

/-- 'laws.FnExactInverseMatrix': WHATEVER THE INPUT: true; the input reads as it did. -/
def fnExactInverseMatrixSpec : ChangeSpec := { name := "fnExactInverseMatrix", fn := fun _ => fun
  | [d] => { results := [.lit (.bool true)], args := [d] }
  | _ => none }
def fnExactInverseMatrixRow : OpenClaim := { program := "ytbaicdgkpnbipaa", sum := "ae2a4c63b6f42818a4383aaa120cb122e8eda718f02e17c7e444d47b1bc8d6bb", func := "loop.example/g01144/laws.FnExactInverseMatrix", spec := "fnExactInverseMatrix", unfollowed := true, recurses := true, apart := false }
def FnExactInverseMatrixSaid : Prop := fnExactInverseMatrixRow.holds Try.pinned (OpenSpec.ofChange fnExactInverseMatrixSpec)

/-- ITS FALSE NEIGHBOUR: 'it returns false'. Refute it at one input. -/
def fnExactInverseMatrixWrong : ChangeSpec := { name := "fnExactInverseMatrix", fn := fun _ => fun
  | [d] => { results := [.lit (.bool false)], args := [d] }
  | _ => none }
def FnExactInverseMatrixWrongFalsely : Prop := fnExactInverseMatrixRow.holds Try.pinned (OpenSpec.ofChange fnExactInverseMatrixWrong)

/-- 'laws.FnSumsAndMeets': WHATEVER THE INPUT: true; the input reads as it did. -/
def fnSumsAndMeetsSpec : ChangeSpec := { name := "fnSumsAndMeets", fn := fun _ => fun
  | [d1, d2] => { results := [.lit (.bool true)], args := [d1, d2] }
  | _ => none }
def fnSumsAndMeetsRow : OpenClaim := { program := "ytbaicdgkpnbipaa", sum := "ae2a4c63b6f42818a4383aaa120cb122e8eda718f02e17c7e444d47b1bc8d6bb", func := "loop.example/g01144/laws.FnSumsAndMeets", spec := "fnSumsAndMeets", unfollowed := true, recurses := true, apart := false }
def FnSumsAndMeetsSaid : Prop := fnSumsAndMeetsRow.holds Try.pinned (OpenSpec.ofChange fnSumsAndMeetsSpec)

/-- ITS FALSE NEIGHBOUR: 'it returns false'. Refute it at one input. -/
def fnSumsAndMeetsWrong : ChangeSpec := { name := "fnSumsAndMeets", fn := fun _ => fun
  | [d1, d2] => { results := [.lit (.bool false)], args := [d1, d2] }
  | _ => none }
def FnSumsAndMeetsWrongFalsely : Prop := fnSumsAndMeetsRow.holds Try.pinned (OpenSpec.ofChange fnSumsAndMeetsWrong)

/-- 'laws.FnExactContains': WHATEVER THE INPUT: true; the input reads as it did. -/
def fnExactContainsSpec : ChangeSpec := { name := "fnExactContains", fn := fun _ => fun
  | [d1, d2] => { results := [.lit (.bool true)], args := [d1, d2] }
  | _ => none }
def fnExactContainsRow : OpenClaim := { program := "ytbaicdgkpnbipaa", sum := "ae2a4c63b6f42818a4383aaa120cb122e8eda718f02e17c7e444d47b1bc8d6bb", func := "loop.example/g01144/laws.FnExactContains", spec := "fnExactContains", unfollowed := true, recurses := true, apart := false }
def FnExactContainsSaid : Prop := fnExactContainsRow.holds Try.pinned (OpenSpec.ofChange fnExactContainsSpec)

/-- ITS FALSE NEIGHBOUR: 'it returns false'. Refute it at one input. -/
def fnExactContainsWrong : ChangeSpec := { name := "fnExactContains", fn := fun _ => fun
  | [d1, d2] => { results := [.lit (.bool false)], args := [d1, d2] }
  | _ => none }
def FnExactContainsWrongFalsely : Prop := fnExactContainsRow.holds Try.pinned (OpenSpec.ofChange fnExactContainsWrong)

/-- 'laws.FnExactValidSpaces': WHATEVER THE INPUT: true; the input reads as it did. -/
def fnExactValidSpacesSpec : ChangeSpec := { name := "fnExactValidSpaces", fn := fun _ => fun
  | [d] => { results := [.lit (.bool true)], args := [d] }
  | _ => none }
def fnExactValidSpacesRow : OpenClaim := { program := "ytbaicdgkpnbipaa", sum := "ae2a4c63b6f42818a4383aaa120cb122e8eda718f02e17c7e444d47b1bc8d6bb", func := "loop.example/g01144/laws.FnExactValidSpaces", spec := "fnExactValidSpaces", unfollowed := true, recurses := true, apart := false }
def FnExactValidSpacesSaid : Prop := fnExactValidSpacesRow.holds Try.pinned (OpenSpec.ofChange fnExactValidSpacesSpec)

/-- ITS FALSE NEIGHBOUR: 'it returns false'. Refute it at one input. -/
def fnExactValidSpacesWrong : ChangeSpec := { name := "fnExactValidSpaces", fn := fun _ => fun
  | [d] => { results := [.lit (.bool false)], args := [d] }
  | _ => none }
def FnExactValidSpacesWrongFalsely : Prop := fnExactValidSpacesRow.holds Try.pinned (OpenSpec.ofChange fnExactValidSpacesWrong)

/-- 'laws.FnExactDistanceOf': WHATEVER THE INPUT: true; the input reads as it did. -/
def fnExactDistanceOfSpec : ChangeSpec := { name := "fnExactDistanceOf", fn := fun _ => fun
  | [d1, d2] => { results := [.lit (.bool true)], args := [d1, d2] }
  | _ => none }
def fnExactDistanceOfRow : OpenClaim := { program := "ytbaicdgkpnbipaa", sum := "ae2a4c63b6f42818a4383aaa120cb122e8eda718f02e17c7e444d47b1bc8d6bb", func := "loop.example/g01144/laws.FnExactDistanceOf", spec := "fnExactDistanceOf", unfollowed := true, recurses := true, apart := false }
def FnExactDistanceOfSaid : Prop := fnExactDistanceOfRow.holds Try.pinned (OpenSpec.ofChange fnExactDistanceOfSpec)

/-- ITS FALSE NEIGHBOUR: 'it returns false'. Refute it at one input. -/
def fnExactDistanceOfWrong : ChangeSpec := { name := "fnExactDistanceOf", fn := fun _ => fun
  | [d1, d2] => { results := [.lit (.bool false)], args := [d1, d2] }
  | _ => none }
def FnExactDistanceOfWrongFalsely : Prop := fnExactDistanceOfRow.holds Try.pinned (OpenSpec.ofChange fnExactDistanceOfWrong)

/-- 'laws.FnExactDualSpace': WHATEVER THE INPUT: true; the input reads as it did. -/
def fnExactDualSpaceSpec : ChangeSpec := { name := "fnExactDualSpace", fn := fun _ => fun
  | [d] => { results := [.lit (.bool true)], args := [d] }
  | _ => none }
def fnExactDualSpaceRow : OpenClaim := { program := "ytbaicdgkpnbipaa", sum := "ae2a4c63b6f42818a4383aaa120cb122e8eda718f02e17c7e444d47b1bc8d6bb", func := "loop.example/g01144/laws.FnExactDualSpace", spec := "fnExactDualSpace", unfollowed := true, recurses := true, apart := false }
def FnExactDualSpaceSaid : Prop := fnExactDualSpaceRow.holds Try.pinned (OpenSpec.ofChange fnExactDualSpaceSpec)

/-- ITS FALSE NEIGHBOUR: 'it returns false'. Refute it at one input. -/
def fnExactDualSpaceWrong : ChangeSpec := { name := "fnExactDualSpace", fn := fun _ => fun
  | [d] => { results := [.lit (.bool false)], args := [d] }
  | _ => none }
def FnExactDualSpaceWrongFalsely : Prop := fnExactDualSpaceRow.holds Try.pinned (OpenSpec.ofChange fnExactDualSpaceWrong)

/-- 'laws.FnExactSumOf': WHATEVER THE INPUT: true; the input reads as it did. -/
def fnExactSumOfSpec : ChangeSpec := { name := "fnExactSumOf", fn := fun _ => fun
  | [d1, d2] => { results := [.lit (.bool true)], args := [d1, d2] }
  | _ => none }
def fnExactSumOfRow : OpenClaim := { program := "ytbaicdgkpnbipaa", sum := "ae2a4c63b6f42818a4383aaa120cb122e8eda718f02e17c7e444d47b1bc8d6bb", func := "loop.example/g01144/laws.FnExactSumOf", spec := "fnExactSumOf", unfollowed := true, recurses := true, apart := false }
def FnExactSumOfSaid : Prop := fnExactSumOfRow.holds Try.pinned (OpenSpec.ofChange fnExactSumOfSpec)

/-- ITS FALSE NEIGHBOUR: 'it returns false'. Refute it at one input. -/
def fnExactSumOfWrong : ChangeSpec := { name := "fnExactSumOf", fn := fun _ => fun
  | [d1, d2] => { results := [.lit (.bool false)], args := [d1, d2] }
  | _ => none }
def FnExactSumOfWrongFalsely : Prop := fnExactSumOfRow.holds Try.pinned (OpenSpec.ofChange fnExactSumOfWrong)

/-- 'laws.FnKernels': WHATEVER THE INPUT: true; the input reads as it did. -/
def fnKernelsSpec : ChangeSpec := { name := "fnKernels", fn := fun _ => fun
  | [d1, d2] => { results := [.lit (.bool true)], args := [d1, d2] }
  | _ => none }
def fnKernelsRow : OpenClaim := { program := "ytbaicdgkpnbipaa", sum := "ae2a4c63b6f42818a4383aaa120cb122e8eda718f02e17c7e444d47b1bc8d6bb", func := "loop.example/g01144/laws.FnKernels", spec := "fnKernels", unfollowed := true, recurses := true, apart := false }
def FnKernelsSaid : Prop := fnKernelsRow.holds Try.pinned (OpenSpec.ofChange fnKernelsSpec)

/-- ITS FALSE NEIGHBOUR: 'it returns false'. Refute it at one input. -/
def fnKernelsWrong : ChangeSpec := { name := "fnKernels", fn := fun _ => fun
  | [d1, d2] => { results := [.lit (.bool false)], args := [d1, d2] }
  | _ => none }
def FnKernelsWrongFalsely : Prop := fnKernelsRow.holds Try.pinned (OpenSpec.ofChange fnKernelsWrong)

/-- 'laws.FnExactSendThrough': WHATEVER THE INPUT: true; the input reads as it did. -/
def fnExactSendThroughSpec : ChangeSpec := { name := "fnExactSendThrough", fn := fun _ => fun
  | [d1, d2, d3] => { results := [.lit (.bool true)], args := [d1, d2, d3] }
  | _ => none }
def fnExactSendThroughRow : OpenClaim := { program := "ytbaicdgkpnbipaa", sum := "ae2a4c63b6f42818a4383aaa120cb122e8eda718f02e17c7e444d47b1bc8d6bb", func := "loop.example/g01144/laws.FnExactSendThrough", spec := "fnExactSendThrough", unfollowed := true, recurses := true, apart := false }
def FnExactSendThroughSaid : Prop := fnExactSendThroughRow.holds Try.pinned (OpenSpec.ofChange fnExactSendThroughSpec)

/-- ITS FALSE NEIGHBOUR: 'it returns false'. Refute it at one input. -/
def fnExactSendThroughWrong : ChangeSpec := { name := "fnExactSendThrough", fn := fun _ => fun
  | [d1, d2, d3] => { results := [.lit (.bool false)], args := [d1, d2, d3] }
  | _ => none }
def FnExactSendThroughWrongFalsely : Prop := fnExactSendThroughRow.holds Try.pinned (OpenSpec.ofChange fnExactSendThroughWrong)

/-- 'laws.FnExactLeastSpaceDistance': WHATEVER THE INPUT: true; the input reads as it did. -/
def fnExactLeastSpaceDistanceSpec : ChangeSpec := { name := "fnExactLeastSpaceDistance", fn := fun _ => fun
  | [d] => { results := [.lit (.bool true)], args := [d] }
  | _ => none }
def fnExactLeastSpaceDistanceRow : OpenClaim := { program := "ytbaicdgkpnbipaa", sum := "ae2a4c63b6f42818a4383aaa120cb122e8eda718f02e17c7e444d47b1bc8d6bb", func := "loop.example/g01144/laws.FnExactLeastSpaceDistance", spec := "fnExactLeastSpaceDistance", unfollowed := true, recurses := true, apart := false }
def FnExactLeastSpaceDistanceSaid : Prop := fnExactLeastSpaceDistanceRow.holds Try.pinned (OpenSpec.ofChange fnExactLeastSpaceDistanceSpec)

/-- ITS FALSE NEIGHBOUR: 'it returns false'. Refute it at one input. -/
def fnExactLeastSpaceDistanceWrong : ChangeSpec := { name := "fnExactLeastSpaceDistance", fn := fun _ => fun
  | [d] => { results := [.lit (.bool false)], args := [d] }
  | _ => none }
def FnExactLeastSpaceDistanceWrongFalsely : Prop := fnExactLeastSpaceDistanceRow.holds Try.pinned (OpenSpec.ofChange fnExactLeastSpaceDistanceWrong)

/-- 'laws.FnExactMeetOf': WHATEVER THE INPUT: true; the input reads as it did. -/
def fnExactMeetOfSpec : ChangeSpec := { name := "fnExactMeetOf", fn := fun _ => fun
  | [d1, d2] => { results := [.lit (.bool true)], args := [d1, d2] }
  | _ => none }
def fnExactMeetOfRow : OpenClaim := { program := "ytbaicdgkpnbipaa", sum := "ae2a4c63b6f42818a4383aaa120cb122e8eda718f02e17c7e444d47b1bc8d6bb", func := "loop.example/g01144/laws.FnExactMeetOf", spec := "fnExactMeetOf", unfollowed := true, recurses := true, apart := false }
def FnExactMeetOfSaid : Prop := fnExactMeetOfRow.holds Try.pinned (OpenSpec.ofChange fnExactMeetOfSpec)

/-- ITS FALSE NEIGHBOUR: 'it returns false'. Refute it at one input. -/
def fnExactMeetOfWrong : ChangeSpec := { name := "fnExactMeetOf", fn := fun _ => fun
  | [d1, d2] => { results := [.lit (.bool false)], args := [d1, d2] }
  | _ => none }
def FnExactMeetOfWrongFalsely : Prop := fnExactMeetOfRow.holds Try.pinned (OpenSpec.ofChange fnExactMeetOfWrong)

/- THE SECOND FORM. 'bulk': how many values and letters a reading holds, each counted each time it is reached (what is shared counts as often as it is met; a slice's spare places count too). A statement '..UptoSaid' is the law's where the arguments, and the package variables that the reading takes, are together of bulk at most 1048576: NARROWER than '..Said'. Prove '..Said' where nothing that the law and all that it calls make is longer than what came in: it says more and counts as full. Else prove '..UptoSaid'. A law counts once. -/
mutual
def uptoBulk {H : Type} : DataW H → Nat
  | .lit (.string bytes) => bytes.length + 1
  | .lit _ => 1
  | .nil => 1
  | .ptr d => uptoBulk d + 1
  | .slice elems spare => uptoBulkAll elems + uptoBulkAll spare + 1
  | .agg parts => uptoBulkAll parts + 1
  | .iface _ d => uptoBulk d + 1
  | .map entries => uptoBulkEntries entries + 1
  | .held _ => 1
def uptoBulkAll {H : Type} : List (DataW H) → Nat
  | [] => 0
  | d :: r => uptoBulk d + uptoBulkAll r
def uptoBulkEntries {H : Type} : List (Lit × DataW H) → Nat
  | [] => 0
  | x :: r => uptoBulkEntry x + uptoBulkEntries r
def uptoBulkEntry {H : Type} : Lit × DataW H → Nat
  | (.string bytes, d) => bytes.length + uptoBulk d + 1
  | (_, d) => uptoBulk d + 1
 end
def uptoSmall : (H : Type) → List (DataW H) → Bool := fun _ ds => decide (uptoBulkAll ds ≤ 1048576)
def OpenSpec.upto (s : _root_.Go.ChangeSpec) : _root_.Go.OpenSpec := { _root_.Go.OpenSpec.ofChange s with cond := some uptoSmall }

/-- 'laws.FnExactKernelOf', WHERE WHAT IT READS IS OF BULK AT MOST 1048576: true; the input reads as it did. -/
def fnExactKernelOfUptoRow : OpenClaim := { program := "ytbaicdgkpnbipaa", sum := "ae2a4c63b6f42818a4383aaa120cb122e8eda718f02e17c7e444d47b1bc8d6bb", func := "loop.example/g01144/laws.FnExactKernelOf", spec := "fnExactKernelOf", unfollowed := true, recurses := true, apart := false, narrowed := true }
def FnExactKernelOfUptoSaid : Prop := fnExactKernelOfUptoRow.holds Try.pinned (OpenSpec.upto fnExactKernelOfSpec)

/-- 'laws.FnExactInverseMatrix', WHERE WHAT IT READS IS OF BULK AT MOST 1048576: true; the input reads as it did. -/
def fnExactInverseMatrixUptoRow : OpenClaim := { program := "ytbaicdgkpnbipaa", sum := "ae2a4c63b6f42818a4383aaa120cb122e8eda718f02e17c7e444d47b1bc8d6bb", func := "loop.example/g01144/laws.FnExactInverseMatrix", spec := "fnExactInverseMatrix", unfollowed := true, recurses := true, apart := false, narrowed := true }
def FnExactInverseMatrixUptoSaid : Prop := fnExactInverseMatrixUptoRow.holds Try.pinned (OpenSpec.upto fnExactInverseMatrixSpec)

/-- 'laws.FnSumsAndMeets', WHERE WHAT IT READS IS OF BULK AT MOST 1048576: true; the input reads as it did. -/
def fnSumsAndMeetsUptoRow : OpenClaim := { program := "ytbaicdgkpnbipaa", sum := "ae2a4c63b6f42818a4383aaa120cb122e8eda718f02e17c7e444d47b1bc8d6bb", func := "loop.example/g01144/laws.FnSumsAndMeets", spec := "fnSumsAndMeets", unfollowed := true, recurses := true, apart := false, narrowed := true }
def FnSumsAndMeetsUptoSaid : Prop := fnSumsAndMeetsUptoRow.holds Try.pinned (OpenSpec.upto fnSumsAndMeetsSpec)

/-- 'laws.FnExactContains', WHERE WHAT IT READS IS OF BULK AT MOST 1048576: true; the input reads as it did. -/
def fnExactContainsUptoRow : OpenClaim := { program := "ytbaicdgkpnbipaa", sum := "ae2a4c63b6f42818a4383aaa120cb122e8eda718f02e17c7e444d47b1bc8d6bb", func := "loop.example/g01144/laws.FnExactContains", spec := "fnExactContains", unfollowed := true, recurses := true, apart := false, narrowed := true }
def FnExactContainsUptoSaid : Prop := fnExactContainsUptoRow.holds Try.pinned (OpenSpec.upto fnExactContainsSpec)

/-- 'laws.FnExactValidSpaces', WHERE WHAT IT READS IS OF BULK AT MOST 1048576: true; the input reads as it did. -/
def fnExactValidSpacesUptoRow : OpenClaim := { program := "ytbaicdgkpnbipaa", sum := "ae2a4c63b6f42818a4383aaa120cb122e8eda718f02e17c7e444d47b1bc8d6bb", func := "loop.example/g01144/laws.FnExactValidSpaces", spec := "fnExactValidSpaces", unfollowed := true, recurses := true, apart := false, narrowed := true }
def FnExactValidSpacesUptoSaid : Prop := fnExactValidSpacesUptoRow.holds Try.pinned (OpenSpec.upto fnExactValidSpacesSpec)

/-- 'laws.FnExactDistanceOf', WHERE WHAT IT READS IS OF BULK AT MOST 1048576: true; the input reads as it did. -/
def fnExactDistanceOfUptoRow : OpenClaim := { program := "ytbaicdgkpnbipaa", sum := "ae2a4c63b6f42818a4383aaa120cb122e8eda718f02e17c7e444d47b1bc8d6bb", func := "loop.example/g01144/laws.FnExactDistanceOf", spec := "fnExactDistanceOf", unfollowed := true, recurses := true, apart := false, narrowed := true }
def FnExactDistanceOfUptoSaid : Prop := fnExactDistanceOfUptoRow.holds Try.pinned (OpenSpec.upto fnExactDistanceOfSpec)

/-- 'laws.FnExactDualSpace', WHERE WHAT IT READS IS OF BULK AT MOST 1048576: true; the input reads as it did. -/
def fnExactDualSpaceUptoRow : OpenClaim := { program := "ytbaicdgkpnbipaa", sum := "ae2a4c63b6f42818a4383aaa120cb122e8eda718f02e17c7e444d47b1bc8d6bb", func := "loop.example/g01144/laws.FnExactDualSpace", spec := "fnExactDualSpace", unfollowed := true, recurses := true, apart := false, narrowed := true }
def FnExactDualSpaceUptoSaid : Prop := fnExactDualSpaceUptoRow.holds Try.pinned (OpenSpec.upto fnExactDualSpaceSpec)

/-- 'laws.FnExactSumOf', WHERE WHAT IT READS IS OF BULK AT MOST 1048576: true; the input reads as it did. -/
def fnExactSumOfUptoRow : OpenClaim := { program := "ytbaicdgkpnbipaa", sum := "ae2a4c63b6f42818a4383aaa120cb122e8eda718f02e17c7e444d47b1bc8d6bb", func := "loop.example/g01144/laws.FnExactSumOf", spec := "fnExactSumOf", unfollowed := true, recurses := true, apart := false, narrowed := true }
def FnExactSumOfUptoSaid : Prop := fnExactSumOfUptoRow.holds Try.pinned (OpenSpec.upto fnExactSumOfSpec)

/-- 'laws.FnKernels', WHERE WHAT IT READS IS OF BULK AT MOST 1048576: true; the input reads as it did. -/
def fnKernelsUptoRow : OpenClaim := { program := "ytbaicdgkpnbipaa", sum := "ae2a4c63b6f42818a4383aaa120cb122e8eda718f02e17c7e444d47b1bc8d6bb", func := "loop.example/g01144/laws.FnKernels", spec := "fnKernels", unfollowed := true, recurses := true, apart := false, narrowed := true }
def FnKernelsUptoSaid : Prop := fnKernelsUptoRow.holds Try.pinned (OpenSpec.upto fnKernelsSpec)

/-- 'laws.FnExactSendThrough', WHERE WHAT IT READS IS OF BULK AT MOST 1048576: true; the input reads as it did. -/
def fnExactSendThroughUptoRow : OpenClaim := { program := "ytbaicdgkpnbipaa", sum := "ae2a4c63b6f42818a4383aaa120cb122e8eda718f02e17c7e444d47b1bc8d6bb", func := "loop.example/g01144/laws.FnExactSendThrough", spec := "fnExactSendThrough", unfollowed := true, recurses := true, apart := false, narrowed := true }
def FnExactSendThroughUptoSaid : Prop := fnExactSendThroughUptoRow.holds Try.pinned (OpenSpec.upto fnExactSendThroughSpec)

/-- 'laws.FnExactLeastSpaceDistance', WHERE WHAT IT READS IS OF BULK AT MOST 1048576: true; the input reads as it did. -/
def fnExactLeastSpaceDistanceUptoRow : OpenClaim := { program := "ytbaicdgkpnbipaa", sum := "ae2a4c63b6f42818a4383aaa120cb122e8eda718f02e17c7e444d47b1bc8d6bb", func := "loop.example/g01144/laws.FnExactLeastSpaceDistance", spec := "fnExactLeastSpaceDistance", unfollowed := true, recurses := true, apart := false, narrowed := true }
def FnExactLeastSpaceDistanceUptoSaid : Prop := fnExactLeastSpaceDistanceUptoRow.holds Try.pinned (OpenSpec.upto fnExactLeastSpaceDistanceSpec)

/-- 'laws.FnExactMeetOf', WHERE WHAT IT READS IS OF BULK AT MOST 1048576: true; the input reads as it did. -/
def fnExactMeetOfUptoRow : OpenClaim := { program := "ytbaicdgkpnbipaa", sum := "ae2a4c63b6f42818a4383aaa120cb122e8eda718f02e17c7e444d47b1bc8d6bb", func := "loop.example/g01144/laws.FnExactMeetOf", spec := "fnExactMeetOf", unfollowed := true, recurses := true, apart := false, narrowed := true }
def FnExactMeetOfUptoSaid : Prop := fnExactMeetOfUptoRow.holds Try.pinned (OpenSpec.upto fnExactMeetOfSpec)

end Rows
end Go.Proofs.Ytbaicdgkpnbipaa
