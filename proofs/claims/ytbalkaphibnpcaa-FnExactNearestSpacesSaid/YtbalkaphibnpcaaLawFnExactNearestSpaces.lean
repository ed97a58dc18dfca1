/- The row of a law, as the printing program wrote it. -/
import Derived.Test.YtbalkaphibnpcaaRows
import Derived.Test.YtbalkaphibnpcaaPx51
import Derived.Test.YtbalkaphibnpcaaKNearestSpaces
import Derived.Test.YtbalkaphibnpcaaOpen
import Derived.WalkKit
import Derived.ProofKit
import Derived.OpenShut
import Derived.ShutString
import Derived.ChangeOld
import Derived.Below
import Derived.SizedLaws
namespace Go.Proofs.Ytbalkaphibnpcaa.fnExactNearestSpaces
open Go.ChangeShapes Go.WideShapes Go.ChangeAt Go.RowKit Go.Proofs.Ytbalkaphibnpcaa.P Go.Proofs.Ytbalkaphibnpcaa.Open Go.Proofs.YtbalkaphibnpcaaW.PrintWords
set_option linter.unusedVariables false
set_option maxHeartbeats 2000000
set_option maxRecDepth 100000
theorem own : ownKnob Try.prog.godebug = none := by kernel_rfl
theorem laidOut : laidOutB Try.prog = true := by kernel_rfl
theorem lifted (os : Os) (started : os.Started) (H : Type) (enc : TypeId × Value → H) :
 ReturnsInHanded {} Try.checked os 7 .any (Rows.fnExactNearestSpacesSpec.pre6 enc Try.prog Try.f7 Rows.fnExactNearestSpacesRow.domain false) (Rows.fnExactNearestSpacesSpec.post enc Try.prog Try.f7 false true false false) := by
 refine returnsInHanded_of_change_sized (C := Try.checked) own started (by kernel_rfl) Try.func7
  (ChangeSpec.witness6 (enc := enc) (C := Try.checked) false ⟨#[], #[.slice none 0 0, .agg #[.int .i64 0, .slice none 0 0]], []⟩ 8 (by kernel_rfl) (by kernel_rfl) (by kernel_rfl) (by kernel_rfl)) ?_
 intro W base args ds gs before hval0 hW hcnd hsz0 _
 have hval : ∀ (j : Nat) t v, Try.f7.params[j]? = some t → args[j]? = some v → Value.okWide Try.prog W .any base t v := hval0
 have hW' := hW
 obtain ⟨p, q, hA0, hV, rfl, hfz, hnd⟩ := hW
 have hA : DataW.TrodAll enc Try.prog W 0 (fun _ => true) true Try.f7.params.toList args.toList ds p := hA0
 rw [Try.params7] at hA hval
 obtain ⟨v0, vs0, d0, ds0, p0, q0, hargs, rfl, rfl, h0, r0⟩ := trodAll_cons hA
 obtain ⟨v1, vs1, d1, ds1, p1, q1, rfl, rfl, rfl, h1, r1⟩ := trodAll_cons r0
 obtain ⟨rfl, rfl, rfl⟩ := trodAll_nil r1
 obtain rfl : args = #[v0, v1] := by cases args; simp_all
 obtain ⟨rfl, rfl⟩ := trodVars_none hV
 clear hA0 hval0 hsz0 hA hcnd
 have k0 := h0
 have lt0 : ∀ x ∈ p0, x.block < W.heap.size := by obtain ⟨m, hm⟩ := k0; exact DataW.trod_lt m _ _ _ hm
 have hv0 := hval 0 49 v0 rfl rfl
 obtain ⟨B0, len0, cap0, rfl⟩ := okWide_slice Try.underlying49 hv0
 obtain ⟨fuel0, hf0⟩ := h0
 obtain ⟨l0, ⟨A0, c0, e0, hc0, hr0⟩, gl0, gx0⟩ := (Opens.slice Try.underlying49 (by kernel_rfl) (show Opens Try.prog 59 k59 _ from Opens.iso (d := (Kd.pair (Kd.int .i64) (Kd.slice 2 (Kd.int .i64)))) (f := fun x => (x.f0, x.f1)) (fun a => (⟨a.1, a.2⟩ : S59)) (fun _ => rfl) (Opens.agg2 Try.underlying59 (Opens.int Try.underlying2) (Opens.slice Try.underlying38 (by kernel_rfl) (Opens.int Try.underlying2)) (by kernel_rfl) (by kernel_rfl) (by kernel_rfl) (by kernel_rfl) (by kernel_rfl)))) enc W 0 fuel0 _ _ hf0
 simp only [Value.cells, List.cons.injEq, Value.slice.injEq, and_true] at e0
 obtain ⟨rfl, rfl, rfl⟩ := e0
 have k1 := h1
 have lt1 : ∀ x ∈ p1, x.block < W.heap.size := by obtain ⟨m, hm⟩ := k1; exact DataW.trod_lt m _ _ _ hm
 have hv1 := hval 1 59 v1 rfl rfl
 obtain ⟨cs1, rfl, _⟩ := okWide_struct Try.underlying59 hv1
 obtain ⟨fuel1, hf1⟩ := h1
 obtain ⟨m1, rfl⟩ : ∃ m : List Value, cs1 = m.toArray := ⟨cs1.toList, by simp⟩
 have hg1 : DataW.trod enc Try.prog W 0 (fun _ => true) true fuel1 59 m1 = some (d1, p1) := by simpa [Value.cells] using hf1
 obtain ⟨x1, K1, G1⟩ := (Opens.agg2 Try.underlying59 (Opens.int Try.underlying2) (Opens.slice Try.underlying38 (by kernel_rfl) (Opens.int Try.underlying2)) (by kernel_rfl) (by kernel_rfl) (by kernel_rfl) (by kernel_rfl) (by kernel_rfl)) enc W 0 fuel1 _ _ hg1
 obtain ⟨a1_0, l1_1⟩ := x1
 obtain ⟨_, _, rfl, rfl, ⟨A1_1, c1_1, rfl, hc1_1, hr1_1⟩⟩ := K1
 obtain ⟨g1_0, ⟨gl1_1, gx1_1⟩⟩ := G1
 obtain ⟨k, h⟩ := Pure.FnExactNearestSpaces l0 a1_0 l1_1 gl0 gx0 g1_0 gl1_1 gx1_1
 refine (laws_FnExactNearestSpaces.calls k _ _ l0 a1_0 _ _ l1_1 true W hr0 hc0 hr1_1 hc1_1 h).mono fun e W' ⟨he, bel0⟩ => ?_
 have bel : Below W.heap.size W W' := bel0
 subst he
 exact ⟨_, rfl, _, _, _, [], _, [], hW', trodAll_mk1 (shut_bool Try.underlying4 _), (trodAll_cons_mk (Below.trod laidOut (by kernel_rfl) (of_decide_eq_true (by kernel_rfl)) k0 bel lt0) (trodAll_cons_mk (Below.trod laidOut (by kernel_rfl) (of_decide_eq_true (by kernel_rfl)) k1 bel lt1) trodAll_mk0)), rfl, bel.frame _, fun h => by cases h⟩
theorem over : Rows.fnExactNearestSpacesRow.holds Try.pinned (OpenSpec.ofChange Rows.fnExactNearestSpacesSpec) :=
 OpenClaim.holds_of_wide 7 Try.f7 rfl rfl rfl rfl rfl rfl rfl ⟨rfl, rfl, rfl, rfl, rfl⟩ rfl rfl rfl rfl rfl (by kernel_rfl) Try.func7 (by kernel_rfl)
  (of_decide_eq_true (by kernel_rfl)) (by unfold Func.isWrapper; first | (rw [if_pos (by decide +kernel)]; kernel_rfl) | (rw [if_neg (by decide +kernel)]; exact ⟨rfl, rfl⟩))
  (fun os started H enc _ => lifted os started H enc)
theorem proved : Rows.FnExactNearestSpacesSaid := over
#print axioms proved
end Go.Proofs.Ytbalkaphibnpcaa.fnExactNearestSpaces
namespace Go.Proofs.Ytbalkaphibnpcaa
theorem fnExactNearestSpaces_holds : Rows.FnExactNearestSpacesSaid := fnExactNearestSpaces.proved
end Go.Proofs.Ytbalkaphibnpcaa
