/-
  No cell of these rows narrows 'for every input' (looked for: loops, veiled, ifaces, maps, wideKeys, modest, calm, conditions, laid).
  DERIVED. THE GIVEN ROWS OF THIS SEAT. 5 by the template 'for every input the law returns true; each argument reads behind the call as it read before'; 0 by the template 'total and deterministic' (their statements: YtkhjoomjjdgkjaaTotals.lean).
  GIVEN WITH THE SEED: the statements are not yours to turn. If you find one false, say at which input.
  Laid BY PROGRAM, IN A SANDBOX (cutbox-rows.mjs): the forced cells as the released guide's own fill.sh prints them over the translation 80791fca6c8c0794… (all of the seat's roots in one cut). By AI agents, Wed Nov 11 2026. No macro, syntax, notation, axiom, sorry.
-/
import Derived.Test.YtkhjoomjjdgkjaaChecked
import GoSem.Claim
import GoSem.ClaimJoined
import GoSem.ClaimMapViews
import Derived.JoinedTies
import Derived.KernelRfl
namespace Go.Proofs.Ytkhjoomjjdgkjaa
/- THE CELL 'sum', in the pinned program and in every row, IS THE sha256 OF THE DUMP (.gsa) THAT YtkhjoomjjdgkjaaProg.lean LOADS. Nothing in Lean hashes anything: it is a label: what it is worth is what the hold of that sum in a sandbox is worth. -/
noncomputable def Try.pinned : Pinned := { name := "ytkhjoomjjdgkjaa", sum := "80791fca6c8c0794f4f6407c7f761deb3cf9c2347f874af81c07f958f1ff683a", checked := Try.checked }
namespace Rows
def none {H : Type} : Left H := { results := [], args := [] }

/-- 'laws.FnExactDivideRight': WHATEVER THE INPUT: true; the input reads as it did. -/
def fnExactDivideRightSpec : ChangeSpec := { name := "fnExactDivideRight", fn := fun _ => fun
  | [d1, d2, d3] => { results := [.lit (.bool true)], args := [d1, d2, d3] }
  | _ => none }
def fnExactDivideRightRow : OpenClaim := { program := "ytkhjoomjjdgkjaa", sum := "80791fca6c8c0794f4f6407c7f761deb3cf9c2347f874af81c07f958f1ff683a", func := "loop.example/g01144/laws.FnExactDivideRight", spec := "fnExactDivideRight", unfollowed := true, recurses := true, apart := false }
def FnExactDivideRightSaid : Prop := fnExactDivideRightRow.holds Try.pinned (OpenSpec.ofChange fnExactDivideRightSpec)

/-- ITS FALSE NEIGHBOUR: 'it returns false'. Refute it at one input. -/
def fnExactDivideRightWrong : ChangeSpec := { name := "fnExactDivideRight", fn := fun _ => fun
  | [d1, d2, d3] => { results := [.lit (.bool false)], args := [d1, d2, d3] }
  | _ => none }
def FnExactDivideRightWrongFalsely : Prop := fnExactDivideRightRow.holds Try.pinned (OpenSpec.ofChange fnExactDivideRightWrong)

/-- 'laws.FnExactDivideLeft': WHATEVER THE INPUT: true; the input reads as it did. -/
def fnExactDivideLeftSpec : ChangeSpec := { name := "fnExactDivideLeft", fn := fun _ => fun
  | [d1, d2, d3] => { results := [.lit (.bool true)], args := [d1, d2, d3] }
  | _ => none }
def fnExactDivideLeftRow : OpenClaim := { program := "ytkhjoomjjdgkjaa", sum := "80791fca6c8c0794f4f6407c7f761deb3cf9c2347f874af81c07f958f1ff683a", func := "loop.example/g01144/laws.FnExactDivideLeft", spec := "fnExactDivideLeft", unfollowed := true, recurses := true, apart := false }
def FnExactDivideLeftSaid : Prop := fnExactDivideLeftRow.holds Try.pinned (OpenSpec.ofChange fnExactDivideLeftSpec)

/-- ITS FALSE NEIGHBOUR: 'it returns false'. Refute it at one input. -/
def fnExactDivideLeftWrong : ChangeSpec := { name := "fnExactDivideLeft", fn := fun _ => fun
  | [d1, d2, d3] => { results := [.lit (.bool false)], args := [d1, d2, d3] }
  | _ => none }
def FnExactDivideLeftWrongFalsely : Prop := fnExactDivideLeftRow.holds Try.pinned (OpenSpec.ofChange fnExactDivideLeftWrong)

/-- 'laws.FnDivisions': WHATEVER THE INPUT: true; the input reads as it did. -/
def fnDivisionsSpec : ChangeSpec := { name := "fnDivisions", fn := fun _ => fun
  | [d1, d2] => { results := [.lit (.bool true)], args := [d1, d2] }
  | _ => none }
def fnDivisionsRow : OpenClaim := { program := "ytkhjoomjjdgkjaa", sum := "80791fca6c8c0794f4f6407c7f761deb3cf9c2347f874af81c07f958f1ff683a", func := "loop.example/g01144/laws.FnDivisions", spec := "fnDivisions", unfollowed := true, recurses := true, apart := false }
def FnDivisionsSaid : Prop := fnDivisionsRow.holds Try.pinned (OpenSpec.ofChange fnDivisionsSpec)

/-- ITS FALSE NEIGHBOUR: 'it returns false'. Refute it at one input. -/
def fnDivisionsWrong : ChangeSpec := { name := "fnDivisions", fn := fun _ => fun
  | [d1, d2] => { results := [.lit (.bool false)], args := [d1, d2] }
  | _ => none }
def FnDivisionsWrongFalsely : Prop := fnDivisionsRow.holds Try.pinned (OpenSpec.ofChange fnDivisionsWrong)

/-- 'laws.FnExactGreatestRight': WHATEVER THE INPUT: true; the input reads as it did. -/
def fnExactGreatestRightSpec : ChangeSpec := { name := "fnExactGreatestRight", fn := fun _ => fun
  | [d1, d2, d3] => { results := [.lit (.bool true)], args := [d1, d2, d3] }
  | _ => none }
def fnExactGreatestRightRow : OpenClaim := { program := "ytkhjoomjjdgkjaa", sum := "80791fca6c8c0794f4f6407c7f761deb3cf9c2347f874af81c07f958f1ff683a", func := "loop.example/g01144/laws.FnExactGreatestRight", spec := "fnExactGreatestRight", unfollowed := true, recurses := true, apart := false }
def FnExactGreatestRightSaid : Prop := fnExactGreatestRightRow.holds Try.pinned (OpenSpec.ofChange fnExactGreatestRightSpec)

/-- ITS FALSE NEIGHBOUR: 'it returns false'. Refute it at one input. -/
def fnExactGreatestRightWrong : ChangeSpec := { name := "fnExactGreatestRight", fn := fun _ => fun
  | [d1, d2, d3] => { results := [.lit (.bool false)], args := [d1, d2, d3] }
  | _ => none }
def FnExactGreatestRightWrongFalsely : Prop := fnExactGreatestRightRow.holds Try.pinned (OpenSpec.ofChange fnExactGreatestRightWrong)

/-- 'laws.FnLinearMaps': WHATEVER THE INPUT: true; the input reads as it did. -/
def fnLinearMapsSpec : ChangeSpec := { name := "fnLinearMaps", fn := fun _ => fun
  | [d1, d2] => { results := [.lit (.bool true)], args := [d1, d2] }
  | _ => none }
def fnLinearMapsRow : OpenClaim := { program := "ytkhjoomjjdgkjaa", sum := "80791fca6c8c0794f4f6407c7f761deb3cf9c2347f874af81c07f958f1ff683a", func := "loop.example/g01144/laws.FnLinearMaps", spec := "fnLinearMaps", unfollowed := true, recurses := true, apart := false }
def FnLinearMapsSaid : Prop := fnLinearMapsRow.holds Try.pinned (OpenSpec.ofChange fnLinearMapsSpec)

/-- ITS FALSE NEIGHBOUR: 'it returns false'. Refute it at one input. -/
def fnLinearMapsWrong : ChangeSpec := { name := "fnLinearMaps", fn := fun _ => fun
  | [d1, d2] => { results := [.lit (.bool false)], args := [d1, d2] }
  | _ => none }
def FnLinearMapsWrongFalsely : Prop := fnLinearMapsRow.holds Try.pinned (OpenSpec.ofChange fnLinearMapsWrong)

/- THE SECOND FORM. 'bulk': how many values and letters a reading holds, each counted each time it is reached (what is shared counts as often as it is met; a slice's spare places count too). A statement '..UptoSaid' is the law's where the arguments, and the package variables that the reading takes, are together of bulk at most 1048576: NARROWER than '..Said'. Prove '..Said' where nothing that the law and all that it calls make is longer than what came in: it says more and counts as full. Else prove '..UptoSaid'. A law counts once. -/
mutual
def uptoBulk {H : Type} : DataW H → Nat
  | .lit (.string bytes) => bytes.length + 1
  | .lit _ => 1
  | .nil => 1
  | .ptr d => uptoBulk d + 1
  | .slice elems spare => uptoBulkAll elems + uptoBulkAll spare + 1
  | .agg parts => uptoBulkAll parts + 1
  | .iface _ d => uptoBulk d + 1
  | .map entries => uptoBulkEntries entries + 1
  | .held _ => 1
def uptoBulkAll {H : Type} : List (DataW H) → Nat
  | [] => 0
  | d :: r => uptoBulk d + uptoBulkAll r
def uptoBulkEntries {H : Type} : List (Lit × DataW H) → Nat
  | [] => 0
  | x :: r => uptoBulkEntry x + uptoBulkEntries r
def uptoBulkEntry {H : Type} : Lit × DataW H → Nat
  | (.string bytes, d) => bytes.length + uptoBulk d + 1
  | (_, d) => uptoBulk d + 1
 end
def uptoSmall : (H : Type) → List (DataW H) → Bool := fun _ ds => decide (uptoBulkAll ds ≤ 1048576)
def OpenSpec.upto (s : _root_.Go.ChangeSpec) : _root_.Go.OpenSpec := { _root_.Go.OpenSpec.ofChange s with cond := some uptoSmall }

/-- 'laws.FnExactDivideRight', WHERE WHAT IT READS IS OF BULK AT MOST 1048576: true; the input reads as it did. -/
def fnExactDivideRightUptoRow : OpenClaim := { program := "ytkhjoomjjdgkjaa", sum := "80791fca6c8c0794f4f6407c7f761deb3cf9c2347f874af81c07f958f1ff683a", func := "loop.example/g01144/laws.FnExactDivideRight", spec := "fnExactDivideRight", unfollowed := true, recurses := true, apart := false, narrowed := true }
def FnExactDivideRightUptoSaid : Prop := fnExactDivideRightUptoRow.holds Try.pinned (OpenSpec.upto fnExactDivideRightSpec)

/-- 'laws.FnExactDivideLeft', WHERE WHAT IT READS IS OF BULK AT MOST 1048576: true; the input reads as it did. -/
def fnExactDivideLeftUptoRow : OpenClaim := { program := "ytkhjoomjjdgkjaa", sum := "80791fca6c8c0794f4f6407c7f761deb3cf9c2347f874af81c07f958f1ff683a", func := "loop.example/g01144/laws.FnExactDivideLeft", spec := "fnExactDivideLeft", unfollowed := true, recurses := true, apart := false, narrowed := true }
def FnExactDivideLeftUptoSaid : Prop := fnExactDivideLeftUptoRow.holds Try.pinned (OpenSpec.upto fnExactDivideLeftSpec)

/-- 'laws.FnDivisions', WHERE WHAT IT READS IS OF BULK AT MOST 1048576: true; the input reads as it did. -/
def fnDivisionsUptoRow : OpenClaim := { program := "ytkhjoomjjdgkjaa", sum := "80791fca6c8c0794f4f6407c7f761deb3cf9c2347f874af81c07f958f1ff683a", func := "loop.example/g01144/laws.FnDivisions", spec := "fnDivisions", unfollowed := true, recurses := true, apart := false, narrowed := true }
def FnDivisionsUptoSaid : Prop := fnDivisionsUptoRow.holds Try.pinned (OpenSpec.upto fnDivisionsSpec)

/-- 'laws.FnExactGreatestRight', WHERE WHAT IT READS IS OF BULK AT MOST 1048576: true; the input reads as it did. -/
def fnExactGreatestRightUptoRow : OpenClaim := { program := "ytkhjoomjjdgkjaa", sum := "80791fca6c8c0794f4f6407c7f761deb3cf9c2347f874af81c07f958f1ff683a", func := "loop.example/g01144/laws.FnExactGreatestRight", spec := "fnExactGreatestRight", unfollowed := true, recurses := true, apart := false, narrowed := true }
def FnExactGreatestRightUptoSaid : Prop := fnExactGreatestRightUptoRow.holds Try.pinned (OpenSpec.upto fnExactGreatestRightSpec)

/-- 'laws.FnLinearMaps', WHERE WHAT IT READS IS OF BULK AT MOST 1048576: true; the input reads as it did. -/
def fnLinearMapsUptoRow : OpenClaim := { program := "ytkhjoomjjdgkjaa", sum := "80791fca6c8c0794f4f6407c7f761deb3cf9c2347f874af81c07f958f1ff683a", func := "loop.example/g01144/laws.FnLinearMaps", spec := "fnLinearMaps", unfollowed := true, recurses := true, apart := false, narrowed := true }
def FnLinearMapsUptoSaid : Prop := fnLinearMapsUptoRow.holds Try.pinned (OpenSpec.upto fnLinearMapsSpec)

end Rows
end Go.Proofs.Ytkhjoomjjdgkjaa
