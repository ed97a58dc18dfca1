/-
  No cell of these rows narrows 'for every input' (looked for: loops, veiled, ifaces, maps, wideKeys, modest, calm, conditions, laid).
  DERIVED. THE GIVEN ROWS OF THIS SEAT. 4 by the template 'for every input the law returns true; each argument reads behind the call as it read before'; 0 by the template 'total and deterministic' (their statements: YtpigghpimgkilaaTotals.lean).
  GIVEN WITH THE SEED: the statements are not yours to turn. If you find one false, say at which input.
  Laid BY PROGRAM, IN A SANDBOX (cutbox-rows.mjs): the forced cells as the released guide's own fill.sh prints them over the translation 8c9e9e106ba99e34… (all of the seat's roots in one cut). By AI agents, Wed Nov 11 2026. No macro, syntax, notation, axiom, sorry.
-/
import Derived.Test.YtpigghpimgkilaaChecked
import GoSem.Claim
import GoSem.ClaimJoined
import GoSem.ClaimMapViews
import Derived.JoinedTies
import Derived.KernelRfl
namespace Go.Proofs.Ytpigghpimgkilaa
/- THE CELL 'sum', in the pinned program and in every row, IS THE sha256 OF THE DUMP (.gsa) THAT YtpigghpimgkilaaProg.lean LOADS. Nothing in Lean hashes anything: it is a label: what it is worth is what the hold of that sum in a sandbox is worth. -/
noncomputable def Try.pinned : Pinned := { name := "ytpigghpimgkilaa", sum := "8c9e9e106ba99e344995445ef50f9d9a04192bd1651ce5cbdb5554d0cd4c29b7", checked := Try.checked }
namespace Rows
def none {H : Type} : Left H := { results := [], args := [] }

/-- 'laws.FnExactAdjointLinear': WHATEVER THE INPUT: true; the input reads as it did. -/
def fnExactAdjointLinearSpec : ChangeSpec := { name := "fnExactAdjointLinear", fn := fun _ => fun
  | [d1, d2] => { results := [.lit (.bool true)], args := [d1, d2] }
  | _ => none }
def fnExactAdjointLinearRow : OpenClaim := { program := "ytpigghpimgkilaa", sum := "8c9e9e106ba99e344995445ef50f9d9a04192bd1651ce5cbdb5554d0cd4c29b7", func := "loop.example/g01144/laws.FnExactAdjointLinear", spec := "fnExactAdjointLinear", unfollowed := true, recurses := true, apart := false }
def FnExactAdjointLinearSaid : Prop := fnExactAdjointLinearRow.holds Try.pinned (OpenSpec.ofChange fnExactAdjointLinearSpec)

/-- ITS FALSE NEIGHBOUR: 'it returns false'. Refute it at one input. -/
def fnExactAdjointLinearWrong : ChangeSpec := { name := "fnExactAdjointLinear", fn := fun _ => fun
  | [d1, d2] => { results := [.lit (.bool false)], args := [d1, d2] }
  | _ => none }
def FnExactAdjointLinearWrongFalsely : Prop := fnExactAdjointLinearRow.holds Try.pinned (OpenSpec.ofChange fnExactAdjointLinearWrong)

/-- 'laws.FnExactComposeLinear': WHATEVER THE INPUT: true; the input reads as it did. -/
def fnExactComposeLinearSpec : ChangeSpec := { name := "fnExactComposeLinear", fn := fun _ => fun
  | [d1, d2, d3] => { results := [.lit (.bool true)], args := [d1, d2, d3] }
  | _ => none }
def fnExactComposeLinearRow : OpenClaim := { program := "ytpigghpimgkilaa", sum := "8c9e9e106ba99e344995445ef50f9d9a04192bd1651ce5cbdb5554d0cd4c29b7", func := "loop.example/g01144/laws.FnExactComposeLinear", spec := "fnExactComposeLinear", unfollowed := true, recurses := true, apart := false }
def FnExactComposeLinearSaid : Prop := fnExactComposeLinearRow.holds Try.pinned (OpenSpec.ofChange fnExactComposeLinearSpec)

/-- ITS FALSE NEIGHBOUR: 'it returns false'. Refute it at one input. -/
def fnExactComposeLinearWrong : ChangeSpec := { name := "fnExactComposeLinear", fn := fun _ => fun
  | [d1, d2, d3] => { results := [.lit (.bool false)], args := [d1, d2, d3] }
  | _ => none }
def FnExactComposeLinearWrongFalsely : Prop := fnExactComposeLinearRow.holds Try.pinned (OpenSpec.ofChange fnExactComposeLinearWrong)

/-- 'laws.FnExactAnnihilatorOf': WHATEVER THE INPUT: true; the input reads as it did. -/
def fnExactAnnihilatorOfSpec : ChangeSpec := { name := "fnExactAnnihilatorOf", fn := fun _ => fun
  | [d1, d2] => { results := [.lit (.bool true)], args := [d1, d2] }
  | _ => none }
def fnExactAnnihilatorOfRow : OpenClaim := { program := "ytpigghpimgkilaa", sum := "8c9e9e106ba99e344995445ef50f9d9a04192bd1651ce5cbdb5554d0cd4c29b7", func := "loop.example/g01144/laws.FnExactAnnihilatorOf", spec := "fnExactAnnihilatorOf", unfollowed := true, recurses := true, apart := false }
def FnExactAnnihilatorOfSaid : Prop := fnExactAnnihilatorOfRow.holds Try.pinned (OpenSpec.ofChange fnExactAnnihilatorOfSpec)

/-- ITS FALSE NEIGHBOUR: 'it returns false'. Refute it at one input. -/
def fnExactAnnihilatorOfWrong : ChangeSpec := { name := "fnExactAnnihilatorOf", fn := fun _ => fun
  | [d1, d2] => { results := [.lit (.bool false)], args := [d1, d2] }
  | _ => none }
def FnExactAnnihilatorOfWrongFalsely : Prop := fnExactAnnihilatorOfRow.holds Try.pinned (OpenSpec.ofChange fnExactAnnihilatorOfWrong)

/-- 'laws.FnExactEdgesInto': WHATEVER THE INPUT: true; the input reads as it did. -/
def fnExactEdgesIntoSpec : ChangeSpec := { name := "fnExactEdgesInto", fn := fun _ => fun
  | [d1, d2] => { results := [.lit (.bool true)], args := [d1, d2] }
  | _ => none }
def fnExactEdgesIntoRow : OpenClaim := { program := "ytpigghpimgkilaa", sum := "8c9e9e106ba99e344995445ef50f9d9a04192bd1651ce5cbdb5554d0cd4c29b7", func := "loop.example/g01144/laws.FnExactEdgesInto", spec := "fnExactEdgesInto", unfollowed := true, recurses := true, apart := false }
def FnExactEdgesIntoSaid : Prop := fnExactEdgesIntoRow.holds Try.pinned (OpenSpec.ofChange fnExactEdgesIntoSpec)

/-- ITS FALSE NEIGHBOUR: 'it returns false'. Refute it at one input. -/
def fnExactEdgesIntoWrong : ChangeSpec := { name := "fnExactEdgesInto", fn := fun _ => fun
  | [d1, d2] => { results := [.lit (.bool false)], args := [d1, d2] }
  | _ => none }
def FnExactEdgesIntoWrongFalsely : Prop := fnExactEdgesIntoRow.holds Try.pinned (OpenSpec.ofChange fnExactEdgesIntoWrong)

/- THE SECOND FORM. 'bulk': how many values and letters a reading holds, each counted each time it is reached (what is shared counts as often as it is met; a slice's spare places count too). A statement '..UptoSaid' is the law's where the arguments, and the package variables that the reading takes, are together of bulk at most 1048576: NARROWER than '..Said'. Prove '..Said' where nothing that the law and all that it calls make is longer than what came in: it says more and counts as full. Else prove '..UptoSaid'. A law counts once. -/
mutual
def uptoBulk {H : Type} : DataW H → Nat
  | .lit (.string bytes) => bytes.length + 1
  | .lit _ => 1
  | .nil => 1
  | .ptr d => uptoBulk d + 1
  | .slice elems spare => uptoBulkAll elems + uptoBulkAll spare + 1
  | .agg parts => uptoBulkAll parts + 1
  | .iface _ d => uptoBulk d + 1
  | .map entries => uptoBulkEntries entries + 1
  | .held _ => 1
def uptoBulkAll {H : Type} : List (DataW H) → Nat
  | [] => 0
  | d :: r => uptoBulk d + uptoBulkAll r
def uptoBulkEntries {H : Type} : List (Lit × DataW H) → Nat
  | [] => 0
  | x :: r => uptoBulkEntry x + uptoBulkEntries r
def uptoBulkEntry {H : Type} : Lit × DataW H → Nat
  | (.string bytes, d) => bytes.length + uptoBulk d + 1
  | (_, d) => uptoBulk d + 1
 end
def uptoSmall : (H : Type) → List (DataW H) → Bool := fun _ ds => decide (uptoBulkAll ds ≤ 1048576)
def OpenSpec.upto (s : _root_.Go.ChangeSpec) : _root_.Go.OpenSpec := { _root_.Go.OpenSpec.ofChange s with cond := some uptoSmall }

/-- 'laws.FnExactAdjointLinear', WHERE WHAT IT READS IS OF BULK AT MOST 1048576: true; the input reads as it did. -/
def fnExactAdjointLinearUptoRow : OpenClaim := { program := "ytpigghpimgkilaa", sum := "8c9e9e106ba99e344995445ef50f9d9a04192bd1651ce5cbdb5554d0cd4c29b7", func := "loop.example/g01144/laws.FnExactAdjointLinear", spec := "fnExactAdjointLinear", unfollowed := true, recurses := true, apart := false, narrowed := true }
def FnExactAdjointLinearUptoSaid : Prop := fnExactAdjointLinearUptoRow.holds Try.pinned (OpenSpec.upto fnExactAdjointLinearSpec)

/-- 'laws.FnExactComposeLinear', WHERE WHAT IT READS IS OF BULK AT MOST 1048576: true; the input reads as it did. -/
def fnExactComposeLinearUptoRow : OpenClaim := { program := "ytpigghpimgkilaa", sum := "8c9e9e106ba99e344995445ef50f9d9a04192bd1651ce5cbdb5554d0cd4c29b7", func := "loop.example/g01144/laws.FnExactComposeLinear", spec := "fnExactComposeLinear", unfollowed := true, recurses := true, apart := false, narrowed := true }
def FnExactComposeLinearUptoSaid : Prop := fnExactComposeLinearUptoRow.holds Try.pinned (OpenSpec.upto fnExactComposeLinearSpec)

/-- 'laws.FnExactAnnihilatorOf', WHERE WHAT IT READS IS OF BULK AT MOST 1048576: true; the input reads as it did. -/
def fnExactAnnihilatorOfUptoRow : OpenClaim := { program := "ytpigghpimgkilaa", sum := "8c9e9e106ba99e344995445ef50f9d9a04192bd1651ce5cbdb5554d0cd4c29b7", func := "loop.example/g01144/laws.FnExactAnnihilatorOf", spec := "fnExactAnnihilatorOf", unfollowed := true, recurses := true, apart := false, narrowed := true }
def FnExactAnnihilatorOfUptoSaid : Prop := fnExactAnnihilatorOfUptoRow.holds Try.pinned (OpenSpec.upto fnExactAnnihilatorOfSpec)

/-- 'laws.FnExactEdgesInto', WHERE WHAT IT READS IS OF BULK AT MOST 1048576: true; the input reads as it did. -/
def fnExactEdgesIntoUptoRow : OpenClaim := { program := "ytpigghpimgkilaa", sum := "8c9e9e106ba99e344995445ef50f9d9a04192bd1651ce5cbdb5554d0cd4c29b7", func := "loop.example/g01144/laws.FnExactEdgesInto", spec := "fnExactEdgesInto", unfollowed := true, recurses := true, apart := false, narrowed := true }
def FnExactEdgesIntoUptoSaid : Prop := fnExactEdgesIntoUptoRow.holds Try.pinned (OpenSpec.upto fnExactEdgesIntoSpec)

end Rows
end Go.Proofs.Ytpigghpimgkilaa
