/- The row of a law, as the printing program wrote it. -/
import Derived.Test.YtbalkaphibnpcaaRows
import Derived.Test.YtbalkaphibnpcaaPx50
import Derived.Test.YtbalkaphibnpcaaKDualSpaces
import Derived.Test.YtbalkaphibnpcaaOpen
import Derived.WalkKit
import Derived.ProofKit
import Derived.OpenShut
import Derived.ShutString
import Derived.ChangeOld
import Derived.Below
import Derived.SizedLaws
namespace Go.Proofs.Ytbalkaphibnpcaa.fnExactDualSpaces
open Go.ChangeShapes Go.WideShapes Go.ChangeAt Go.RowKit Go.Proofs.Ytbalkaphibnpcaa.P Go.Proofs.Ytbalkaphibnpcaa.Open Go.Proofs.YtbalkaphibnpcaaW.PrintWords
set_option linter.unusedVariables false
set_option maxHeartbeats 2000000
set_option maxRecDepth 100000
theorem own : ownKnob Try.prog.godebug = none := by kernel_rfl
theorem laidOut : laidOutB Try.prog = true := by kernel_rfl
theorem lifted (os : Os) (started : os.Started) (H : Type) (enc : TypeId × Value → H) :
 ReturnsInHanded {} Try.checked os 6 .any (Rows.fnExactDualSpacesSpec.pre6 enc Try.prog Try.f6 Rows.fnExactDualSpacesRow.domain false) (Rows.fnExactDualSpacesSpec.post enc Try.prog Try.f6 false true false false) := by
 refine returnsInHanded_of_change_sized (C := Try.checked) own started (by kernel_rfl) Try.func6
  (ChangeSpec.witness6 (enc := enc) (C := Try.checked) false ⟨#[], #[.slice none 0 0], []⟩ 8 (by kernel_rfl) (by kernel_rfl) (by kernel_rfl) (by kernel_rfl)) ?_
 intro W base args ds gs before hval0 hW hcnd hsz0 _
 have hval : ∀ (j : Nat) t v, Try.f6.params[j]? = some t → args[j]? = some v → Value.okWide Try.prog W .any base t v := hval0
 have hW' := hW
 obtain ⟨p, q, hA0, hV, rfl, hfz, hnd⟩ := hW
 have hA : DataW.TrodAll enc Try.prog W 0 (fun _ => true) true Try.f6.params.toList args.toList ds p := hA0
 rw [Try.params6] at hA hval
 obtain ⟨v0, vs0, d0, ds0, p0, q0, hargs, rfl, rfl, h0, r0⟩ := trodAll_cons hA
 obtain ⟨rfl, rfl, rfl⟩ := trodAll_nil r0
 obtain rfl : args = #[v0] := by cases args; simp_all
 obtain ⟨rfl, rfl⟩ := trodVars_none hV
 clear hA0 hval0 hsz0 hA hcnd
 have k0 := h0
 have lt0 : ∀ x ∈ p0, x.block < W.heap.size := by obtain ⟨m, hm⟩ := k0; exact DataW.trod_lt m _ _ _ hm
 have hv0 := hval 0 49 v0 rfl rfl
 obtain ⟨B0, len0, cap0, rfl⟩ := okWide_slice Try.underlying49 hv0
 obtain ⟨fuel0, hf0⟩ := h0
 obtain ⟨l0, ⟨A0, c0, e0, hc0, hr0⟩, gl0, gx0⟩ := (Opens.slice Try.underlying49 (by kernel_rfl) (show Opens Try.prog 59 k59 _ from Opens.iso (d := (Kd.pair (Kd.int .i64) (Kd.slice 2 (Kd.int .i64)))) (f := fun x => (x.f0, x.f1)) (fun a => (⟨a.1, a.2⟩ : S59)) (fun _ => rfl) (Opens.agg2 Try.underlying59 (Opens.int Try.underlying2) (Opens.slice Try.underlying38 (by kernel_rfl) (Opens.int Try.underlying2)) (by kernel_rfl) (by kernel_rfl) (by kernel_rfl) (by kernel_rfl) (by kernel_rfl)))) enc W 0 fuel0 _ _ hf0
 simp only [Value.cells, List.cons.injEq, Value.slice.injEq, and_true] at e0
 obtain ⟨rfl, rfl, rfl⟩ := e0
 obtain ⟨k, h⟩ := Pure.FnExactDualSpaces l0 gl0 gx0
 refine (laws_FnExactDualSpaces.calls k _ _ l0 true W hr0 hc0 h).mono fun e W' ⟨he, bel0⟩ => ?_
 have bel : Below W.heap.size W W' := bel0
 subst he
 exact ⟨_, rfl, _, _, _, [], _, [], hW', trodAll_mk1 (shut_bool Try.underlying4 _), (trodAll_cons_mk (Below.trod laidOut (by kernel_rfl) (of_decide_eq_true (by kernel_rfl)) k0 bel lt0) trodAll_mk0), rfl, bel.frame _, fun h => by cases h⟩
theorem over : Rows.fnExactDualSpacesRow.holds Try.pinned (OpenSpec.ofChange Rows.fnExactDualSpacesSpec) :=
 OpenClaim.holds_of_wide 6 Try.f6 rfl rfl rfl rfl rfl rfl rfl ⟨rfl, rfl, rfl, rfl, rfl⟩ rfl rfl rfl rfl rfl (by kernel_rfl) Try.func6 (by kernel_rfl)
  (of_decide_eq_true (by kernel_rfl)) (by unfold Func.isWrapper; first | (rw [if_pos (by decide +kernel)]; kernel_rfl) | (rw [if_neg (by decide +kernel)]; exact ⟨rfl, rfl⟩))
  (fun os started H enc _ => lifted os started H enc)
theorem proved : Rows.FnExactDualSpacesSaid := over
#print axioms proved
end Go.Proofs.Ytbalkaphibnpcaa.fnExactDualSpaces
namespace Go.Proofs.Ytbalkaphibnpcaa
theorem fnExactDualSpaces_holds : Rows.FnExactDualSpacesSaid := fnExactDualSpaces.proved
end Go.Proofs.Ytbalkaphibnpcaa
