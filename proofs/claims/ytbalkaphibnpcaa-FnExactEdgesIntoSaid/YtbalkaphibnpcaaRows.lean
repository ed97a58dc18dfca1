/-
  No cell of these rows narrows 'for every input' (looked for: loops, veiled, ifaces, maps, wideKeys, modest, calm, conditions, laid).
  DERIVED. THE GIVEN ROWS OF THIS SEAT. 5 by the template 'for every input the law returns true; each argument reads behind the call as it read before'; 0 by the template 'total and deterministic' (their statements: YtbalkaphibnpcaaTotals.lean).
  GIVEN WITH THE SEED: the statements are not yours to turn. If you find one false, say at which input.
  Laid BY PROGRAM, IN A SANDBOX (cutbox-rows.mjs): the forced cells as the released guide's own fill.sh prints them over the translation 2117f78084b22738… (all of the seat's roots in one cut). By AI agents, Wed Nov 11 2026. No macro, syntax, notation, axiom, sorry.
-/
import Derived.Test.YtbalkaphibnpcaaChecked
import GoSem.Claim
import GoSem.ClaimJoined
import GoSem.ClaimMapViews
import Derived.JoinedTies
import Derived.KernelRfl
namespace Go.Proofs.Ytbalkaphibnpcaa
/- THE CELL 'sum', in the pinned program and in every row, IS THE sha256 OF THE DUMP (.gsa) THAT YtbalkaphibnpcaaProg.lean LOADS. Nothing in Lean hashes anything: it is a label: what it is worth is what the hold of that sum in a sandbox is worth. -/
noncomputable def Try.pinned : Pinned := { name := "ytbalkaphibnpcaa", sum := "2117f78084b227387062b3051781027e22caa9f1d8a460a552f119f67bab1fb9", checked := Try.checked }
namespace Rows
def none {H : Type} : Left H := { results := [], args := [] }

/-- 'laws.FnExactFieldRank': WHATEVER THE INPUT: true; the input reads as it did. -/
def fnExactFieldRankSpec : ChangeSpec := { name := "fnExactFieldRank", fn := fun _ => fun
  | [d1, d2, d3] => { results := [.lit (.bool true)], args := [d1, d2, d3] }
  | _ => none }
def fnExactFieldRankRow : OpenClaim := { program := "ytbalkaphibnpcaa", sum := "2117f78084b227387062b3051781027e22caa9f1d8a460a552f119f67bab1fb9", func := "loop.example/g01144/laws.FnExactFieldRank", spec := "fnExactFieldRank", unfollowed := true, recurses := true, apart := false }
def FnExactFieldRankSaid : Prop := fnExactFieldRankRow.holds Try.pinned (OpenSpec.ofChange fnExactFieldRankSpec)

/-- ITS FALSE NEIGHBOUR: 'it returns false'. Refute it at one input. -/
def fnExactFieldRankWrong : ChangeSpec := { name := "fnExactFieldRank", fn := fun _ => fun
  | [d1, d2, d3] => { results := [.lit (.bool false)], args := [d1, d2, d3] }
  | _ => none }
def FnExactFieldRankWrongFalsely : Prop := fnExactFieldRankRow.holds Try.pinned (OpenSpec.ofChange fnExactFieldRankWrong)

/-- 'laws.FnExactFieldEchelon': WHATEVER THE INPUT: true; the input reads as it did. -/
def fnExactFieldEchelonSpec : ChangeSpec := { name := "fnExactFieldEchelon", fn := fun _ => fun
  | [d1, d2, d3] => { results := [.lit (.bool true)], args := [d1, d2, d3] }
  | _ => none }
def fnExactFieldEchelonRow : OpenClaim := { program := "ytbalkaphibnpcaa", sum := "2117f78084b227387062b3051781027e22caa9f1d8a460a552f119f67bab1fb9", func := "loop.example/g01144/laws.FnExactFieldEchelon", spec := "fnExactFieldEchelon", unfollowed := true, recurses := true, apart := false }
def FnExactFieldEchelonSaid : Prop := fnExactFieldEchelonRow.holds Try.pinned (OpenSpec.ofChange fnExactFieldEchelonSpec)

/-- ITS FALSE NEIGHBOUR: 'it returns false'. Refute it at one input. -/
def fnExactFieldEchelonWrong : ChangeSpec := { name := "fnExactFieldEchelon", fn := fun _ => fun
  | [d1, d2, d3] => { results := [.lit (.bool false)], args := [d1, d2, d3] }
  | _ => none }
def FnExactFieldEchelonWrongFalsely : Prop := fnExactFieldEchelonRow.holds Try.pinned (OpenSpec.ofChange fnExactFieldEchelonWrong)

/-- 'laws.FnExactEdgesInto': WHATEVER THE INPUT: true; the input reads as it did. -/
def fnExactEdgesIntoSpec : ChangeSpec := { name := "fnExactEdgesInto", fn := fun _ => fun
  | [d1, d2] => { results := [.lit (.bool true)], args := [d1, d2] }
  | _ => none }
def fnExactEdgesIntoRow : OpenClaim := { program := "ytbalkaphibnpcaa", sum := "2117f78084b227387062b3051781027e22caa9f1d8a460a552f119f67bab1fb9", func := "loop.example/g01144/laws.FnExactEdgesInto", spec := "fnExactEdgesInto", unfollowed := true, recurses := true, apart := false }
def FnExactEdgesIntoSaid : Prop := fnExactEdgesIntoRow.holds Try.pinned (OpenSpec.ofChange fnExactEdgesIntoSpec)

/-- ITS FALSE NEIGHBOUR: 'it returns false'. Refute it at one input. -/
def fnExactEdgesIntoWrong : ChangeSpec := { name := "fnExactEdgesInto", fn := fun _ => fun
  | [d1, d2] => { results := [.lit (.bool false)], args := [d1, d2] }
  | _ => none }
def FnExactEdgesIntoWrongFalsely : Prop := fnExactEdgesIntoRow.holds Try.pinned (OpenSpec.ofChange fnExactEdgesIntoWrong)

/-- 'laws.FnExactDualSpaces': WHATEVER THE INPUT: true; the input reads as it did. -/
def fnExactDualSpacesSpec : ChangeSpec := { name := "fnExactDualSpaces", fn := fun _ => fun
  | [d] => { results := [.lit (.bool true)], args := [d] }
  | _ => none }
def fnExactDualSpacesRow : OpenClaim := { program := "ytbalkaphibnpcaa", sum := "2117f78084b227387062b3051781027e22caa9f1d8a460a552f119f67bab1fb9", func := "loop.example/g01144/laws.FnExactDualSpaces", spec := "fnExactDualSpaces", unfollowed := true, recurses := true, apart := false }
def FnExactDualSpacesSaid : Prop := fnExactDualSpacesRow.holds Try.pinned (OpenSpec.ofChange fnExactDualSpacesSpec)

/-- ITS FALSE NEIGHBOUR: 'it returns false'. Refute it at one input. -/
def fnExactDualSpacesWrong : ChangeSpec := { name := "fnExactDualSpaces", fn := fun _ => fun
  | [d] => { results := [.lit (.bool false)], args := [d] }
  | _ => none }
def FnExactDualSpacesWrongFalsely : Prop := fnExactDualSpacesRow.holds Try.pinned (OpenSpec.ofChange fnExactDualSpacesWrong)

/-- 'laws.FnExactNearestSpaces': WHATEVER THE INPUT: true; the input reads as it did. -/
def fnExactNearestSpacesSpec : ChangeSpec := { name := "fnExactNearestSpaces", fn := fun _ => fun
  | [d1, d2] => { results := [.lit (.bool true)], args := [d1, d2] }
  | _ => none }
def fnExactNearestSpacesRow : OpenClaim := { program := "ytbalkaphibnpcaa", sum := "2117f78084b227387062b3051781027e22caa9f1d8a460a552f119f67bab1fb9", func := "loop.example/g01144/laws.FnExactNearestSpaces", spec := "fnExactNearestSpaces", unfollowed := true, recurses := true, apart := false }
def FnExactNearestSpacesSaid : Prop := fnExactNearestSpacesRow.holds Try.pinned (OpenSpec.ofChange fnExactNearestSpacesSpec)

/-- ITS FALSE NEIGHBOUR: 'it returns false'. Refute it at one input. -/
def fnExactNearestSpacesWrong : ChangeSpec := { name := "fnExactNearestSpaces", fn := fun _ => fun
  | [d1, d2] => { results := [.lit (.bool false)], args := [d1, d2] }
  | _ => none }
def FnExactNearestSpacesWrongFalsely : Prop := fnExactNearestSpacesRow.holds Try.pinned (OpenSpec.ofChange fnExactNearestSpacesWrong)

/- THE SECOND FORM. 'bulk': how many values and letters a reading holds, each counted each time it is reached (what is shared counts as often as it is met; a slice's spare places count too). A statement '..UptoSaid' is the law's where the arguments, and the package variables that the reading takes, are together of bulk at most 1048576: NARROWER than '..Said'. Prove '..Said' where nothing that the law and all that it calls make is longer than what came in: it says more and counts as full. Else prove '..UptoSaid'. A law counts once. -/
mutual
def uptoBulk {H : Type} : DataW H → Nat
  | .lit (.string bytes) => bytes.length + 1
  | .lit _ => 1
  | .nil => 1
  | .ptr d => uptoBulk d + 1
  | .slice elems spare => uptoBulkAll elems + uptoBulkAll spare + 1
  | .agg parts => uptoBulkAll parts + 1
  | .iface _ d => uptoBulk d + 1
  | .map entries => uptoBulkEntries entries + 1
  | .held _ => 1
def uptoBulkAll {H : Type} : List (DataW H) → Nat
  | [] => 0
  | d :: r => uptoBulk d + uptoBulkAll r
def uptoBulkEntries {H : Type} : List (Lit × DataW H) → Nat
  | [] => 0
  | x :: r => uptoBulkEntry x + uptoBulkEntries r
def uptoBulkEntry {H : Type} : Lit × DataW H → Nat
  | (.string bytes, d) => bytes.length + uptoBulk d + 1
  | (_, d) => uptoBulk d + 1
 end
def uptoSmall : (H : Type) → List (DataW H) → Bool := fun _ ds => decide (uptoBulkAll ds ≤ 1048576)
def OpenSpec.upto (s : _root_.Go.ChangeSpec) : _root_.Go.OpenSpec := { _root_.Go.OpenSpec.ofChange s with cond := some uptoSmall }

/-- 'laws.FnExactFieldRank', WHERE WHAT IT READS IS OF BULK AT MOST 1048576: true; the input reads as it did. -/
def fnExactFieldRankUptoRow : OpenClaim := { program := "ytbalkaphibnpcaa", sum := "2117f78084b227387062b3051781027e22caa9f1d8a460a552f119f67bab1fb9", func := "loop.example/g01144/laws.FnExactFieldRank", spec := "fnExactFieldRank", unfollowed := true, recurses := true, apart := false, narrowed := true }
def FnExactFieldRankUptoSaid : Prop := fnExactFieldRankUptoRow.holds Try.pinned (OpenSpec.upto fnExactFieldRankSpec)

/-- 'laws.FnExactFieldEchelon', WHERE WHAT IT READS IS OF BULK AT MOST 1048576: true; the input reads as it did. -/
def fnExactFieldEchelonUptoRow : OpenClaim := { program := "ytbalkaphibnpcaa", sum := "2117f78084b227387062b3051781027e22caa9f1d8a460a552f119f67bab1fb9", func := "loop.example/g01144/laws.FnExactFieldEchelon", spec := "fnExactFieldEchelon", unfollowed := true, recurses := true, apart := false, narrowed := true }
def FnExactFieldEchelonUptoSaid : Prop := fnExactFieldEchelonUptoRow.holds Try.pinned (OpenSpec.upto fnExactFieldEchelonSpec)

/-- 'laws.FnExactEdgesInto', WHERE WHAT IT READS IS OF BULK AT MOST 1048576: true; the input reads as it did. -/
def fnExactEdgesIntoUptoRow : OpenClaim := { program := "ytbalkaphibnpcaa", sum := "2117f78084b227387062b3051781027e22caa9f1d8a460a552f119f67bab1fb9", func := "loop.example/g01144/laws.FnExactEdgesInto", spec := "fnExactEdgesInto", unfollowed := true, recurses := true, apart := false, narrowed := true }
def FnExactEdgesIntoUptoSaid : Prop := fnExactEdgesIntoUptoRow.holds Try.pinned (OpenSpec.upto fnExactEdgesIntoSpec)

/-- 'laws.FnExactDualSpaces', WHERE WHAT IT READS IS OF BULK AT MOST 1048576: true; the input reads as it did. -/
def fnExactDualSpacesUptoRow : OpenClaim := { program := "ytbalkaphibnpcaa", sum := "2117f78084b227387062b3051781027e22caa9f1d8a460a552f119f67bab1fb9", func := "loop.example/g01144/laws.FnExactDualSpaces", spec := "fnExactDualSpaces", unfollowed := true, recurses := true, apart := false, narrowed := true }
def FnExactDualSpacesUptoSaid : Prop := fnExactDualSpacesUptoRow.holds Try.pinned (OpenSpec.upto fnExactDualSpacesSpec)

/-- 'laws.FnExactNearestSpaces', WHERE WHAT IT READS IS OF BULK AT MOST 1048576: true; the input reads as it did. -/
def fnExactNearestSpacesUptoRow : OpenClaim := { program := "ytbalkaphibnpcaa", sum := "2117f78084b227387062b3051781027e22caa9f1d8a460a552f119f67bab1fb9", func := "loop.example/g01144/laws.FnExactNearestSpaces", spec := "fnExactNearestSpaces", unfollowed := true, recurses := true, apart := false, narrowed := true }
def FnExactNearestSpacesUptoSaid : Prop := fnExactNearestSpacesUptoRow.holds Try.pinned (OpenSpec.upto fnExactNearestSpacesSpec)

end Rows
end Go.Proofs.Ytbalkaphibnpcaa
