/- The row of a law, as the printing program wrote it. -/
import Derived.Test.YtbgbblgdbcjibaaRows
import Derived.Test.YtbgbblgdbcjibaaPx36
import Derived.Test.YtbgbblgdbcjibaaKMatrixOfLinear
import Derived.Test.YtbgbblgdbcjibaaOpen
import Derived.WalkKit
import Derived.ProofKit
import Derived.OpenShut
import Derived.ShutString
import Derived.ChangeOld
import Derived.Below
import Derived.SizedLaws
namespace Go.Proofs.Ytbgbblgdbcjibaa.fnExactMatrixOfLinear
open Go.ChangeShapes Go.WideShapes Go.ChangeAt Go.RowKit Go.Proofs.Ytbgbblgdbcjibaa.P Go.Proofs.Ytbgbblgdbcjibaa.Open Go.Proofs.YtbgbblgdbcjibaaW.PrintWords
set_option linter.unusedVariables false
set_option maxHeartbeats 2000000
set_option maxRecDepth 100000
theorem own : ownKnob Try.prog.godebug = none := by kernel_rfl
theorem laidOut : laidOutB Try.prog = true := by kernel_rfl
theorem lifted (os : Os) (started : os.Started) (H : Type) (enc : TypeId × Value → H) :
 ReturnsInHanded {} Try.checked os 8 .any (Rows.fnExactMatrixOfLinearSpec.pre6 enc Try.prog Try.f8 Rows.fnExactMatrixOfLinearRow.domain false) (Rows.fnExactMatrixOfLinearSpec.post enc Try.prog Try.f8 false true false false) := by
 refine returnsInHanded_of_change_sized (C := Try.checked) own started (by kernel_rfl) Try.func8
  (ChangeSpec.witness6 (enc := enc) (C := Try.checked) false ⟨#[], #[.agg #[.int .i64 0, .int .i64 0], .slice none 0 0, .slice none 0 0], []⟩ 8 (by kernel_rfl) (by kernel_rfl) (by kernel_rfl) (by kernel_rfl)) ?_
 intro W base args ds gs before hval0 hW hcnd hsz0 _
 have hval : ∀ (j : Nat) t v, Try.f8.params[j]? = some t → args[j]? = some v → Value.okWide Try.prog W .any base t v := hval0
 have hW' := hW
 obtain ⟨p, q, hA0, hV, rfl, hfz, hnd⟩ := hW
 have hA : DataW.TrodAll enc Try.prog W 0 (fun _ => true) true Try.f8.params.toList args.toList ds p := hA0
 rw [Try.params8] at hA hval
 obtain ⟨v0, vs0, d0, ds0, p0, q0, hargs, rfl, rfl, h0, r0⟩ := trodAll_cons hA
 obtain ⟨v1, vs1, d1, ds1, p1, q1, rfl, rfl, rfl, h1, r1⟩ := trodAll_cons r0
 obtain ⟨v2, vs2, d2, ds2, p2, q2, rfl, rfl, rfl, h2, r2⟩ := trodAll_cons r1
 obtain ⟨rfl, rfl, rfl⟩ := trodAll_nil r2
 obtain rfl : args = #[v0, v1, v2] := by cases args; simp_all
 obtain ⟨rfl, rfl⟩ := trodVars_none hV
 clear hA0 hval0 hsz0 hA hcnd
 have k0 := h0
 have lt0 : ∀ x ∈ p0, x.block < W.heap.size := by obtain ⟨m, hm⟩ := k0; exact DataW.trod_lt m _ _ _ hm
 have hv0 := hval 0 23 v0 rfl rfl
 obtain ⟨cs0, rfl, _⟩ := okWide_struct Try.underlying23 hv0
 obtain ⟨fuel0, hf0⟩ := h0
 obtain ⟨m0, rfl⟩ : ∃ m : List Value, cs0 = m.toArray := ⟨cs0.toList, by simp⟩
 have hg0 : DataW.trod enc Try.prog W 0 (fun _ => true) true fuel0 23 m0 = some (d0, p0) := by simpa [Value.cells] using hf0
 obtain ⟨x0, K0, G0⟩ := (Opens.agg2 Try.underlying23 (Opens.int Try.underlying2) (Opens.int Try.underlying2) (by kernel_rfl) (by kernel_rfl) (by kernel_rfl) (by kernel_rfl) (by kernel_rfl)) enc W 0 fuel0 _ _ hg0
 obtain ⟨a0_0, a0_1⟩ := x0
 obtain ⟨_, _, rfl, rfl, rfl⟩ := K0
 obtain ⟨g0_0, g0_1⟩ := G0
 have k1 := h1
 have lt1 : ∀ x ∈ p1, x.block < W.heap.size := by obtain ⟨m, hm⟩ := k1; exact DataW.trod_lt m _ _ _ hm
 have hv1 := hval 1 29 v1 rfl rfl
 obtain ⟨B1, len1, cap1, rfl⟩ := okWide_slice Try.underlying29 hv1
 obtain ⟨fuel1, hf1⟩ := h1
 obtain ⟨l1, ⟨A1, c1, e1, hc1, hr1⟩, gl1, gx1⟩ := (Opens.slice Try.underlying29 (by kernel_rfl) (Opens.int Try.underlying2)) enc W 0 fuel1 _ _ hf1
 simp only [Value.cells, List.cons.injEq, Value.slice.injEq, and_true] at e1
 obtain ⟨rfl, rfl, rfl⟩ := e1
 have k2 := h2
 have lt2 : ∀ x ∈ p2, x.block < W.heap.size := by obtain ⟨m, hm⟩ := k2; exact DataW.trod_lt m _ _ _ hm
 have hv2 := hval 2 29 v2 rfl rfl
 obtain ⟨B2, len2, cap2, rfl⟩ := okWide_slice Try.underlying29 hv2
 obtain ⟨fuel2, hf2⟩ := h2
 obtain ⟨l2, ⟨A2, c2, e2, hc2, hr2⟩, gl2, gx2⟩ := (Opens.slice Try.underlying29 (by kernel_rfl) (Opens.int Try.underlying2)) enc W 0 fuel2 _ _ hf2
 simp only [Value.cells, List.cons.injEq, Value.slice.injEq, and_true] at e2
 obtain ⟨rfl, rfl, rfl⟩ := e2
 obtain ⟨k, h⟩ := Pure.FnExactMatrixOfLinear a0_0 a0_1 l1 l2 g0_0 g0_1 gl1 gx1 gl2 gx2
 refine (laws_FnExactMatrixOfLinear.calls k a0_0 a0_1 _ _ l1 _ _ l2 true W hr1 hc1 hr2 hc2 h).mono fun e W' ⟨he, bel0⟩ => ?_
 have bel : Below W.heap.size W W' := bel0
 subst he
 exact ⟨_, rfl, _, _, _, [], _, [], hW', trodAll_mk1 (shut_bool Try.underlying4 _), (trodAll_cons_mk (Below.trod laidOut (by kernel_rfl) (of_decide_eq_true (by kernel_rfl)) k0 bel lt0) (trodAll_cons_mk (Below.trod laidOut (by kernel_rfl) (of_decide_eq_true (by kernel_rfl)) k1 bel lt1) (trodAll_cons_mk (Below.trod laidOut (by kernel_rfl) (of_decide_eq_true (by kernel_rfl)) k2 bel lt2) trodAll_mk0))), rfl, bel.frame _, fun h => by cases h⟩
theorem over : Rows.fnExactMatrixOfLinearRow.holds Try.pinned (OpenSpec.ofChange Rows.fnExactMatrixOfLinearSpec) :=
 OpenClaim.holds_of_wide 8 Try.f8 rfl rfl rfl rfl rfl rfl rfl ⟨rfl, rfl, rfl, rfl, rfl⟩ rfl rfl rfl rfl rfl (by kernel_rfl) Try.func8 (by kernel_rfl)
  (of_decide_eq_true (by kernel_rfl)) (by unfold Func.isWrapper; first | (rw [if_pos (by decide +kernel)]; kernel_rfl) | (rw [if_neg (by decide +kernel)]; exact ⟨rfl, rfl⟩))
  (fun os started H enc _ => lifted os started H enc)
theorem proved : Rows.FnExactMatrixOfLinearSaid := over
#print axioms proved
end Go.Proofs.Ytbgbblgdbcjibaa.fnExactMatrixOfLinear
namespace Go.Proofs.Ytbgbblgdbcjibaa
theorem fnExactMatrixOfLinear_holds : Rows.FnExactMatrixOfLinearSaid := fnExactMatrixOfLinear.proved
end Go.Proofs.Ytbgbblgdbcjibaa
