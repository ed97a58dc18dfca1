/- The row of a law, as the printing program wrote it. -/
import Derived.Test.YtbalkaphibnpcaaRows
import Derived.Test.YtbalkaphibnpcaaPx48
import Derived.Test.YtbalkaphibnpcaaKFieldEchelon
import Derived.Test.YtbalkaphibnpcaaOpen
import Derived.WalkKit
import Derived.ProofKit
import Derived.OpenShut
import Derived.ShutString
import Derived.ChangeOld
import Derived.Below
import Derived.SizedLaws
namespace Go.Proofs.Ytbalkaphibnpcaa.fnExactFieldEchelon
open Go.ChangeShapes Go.WideShapes Go.ChangeAt Go.RowKit Go.Proofs.Ytbalkaphibnpcaa.P Go.Proofs.Ytbalkaphibnpcaa.Open Go.Proofs.YtbalkaphibnpcaaW.PrintWords
set_option linter.unusedVariables false
set_option maxHeartbeats 2000000
set_option maxRecDepth 100000
theorem own : ownKnob Try.prog.godebug = none := by kernel_rfl
theorem laidOut : laidOutB Try.prog = true := by kernel_rfl
theorem lifted (os : Os) (started : os.Started) (H : Type) (enc : TypeId × Value → H) :
 ReturnsInHanded {} Try.checked os 4 .any (Rows.fnExactFieldEchelonSpec.pre6 enc Try.prog Try.f4 Rows.fnExactFieldEchelonRow.domain false) (Rows.fnExactFieldEchelonSpec.post enc Try.prog Try.f4 false true false false) := by
 refine returnsInHanded_of_change_sized (C := Try.checked) own started (by kernel_rfl) Try.func4
  (ChangeSpec.witness6 (enc := enc) (C := Try.checked) false ⟨#[], #[.agg #[.int .i64 0, .int .i64 0], .int .i64 0, .slice none 0 0], []⟩ 8 (by kernel_rfl) (by kernel_rfl) (by kernel_rfl) (by kernel_rfl)) ?_
 intro W base args ds gs before hval0 hW hcnd hsz0 _
 have hval : ∀ (j : Nat) t v, Try.f4.params[j]? = some t → args[j]? = some v → Value.okWide Try.prog W .any base t v := hval0
 have hW' := hW
 obtain ⟨p, q, hA0, hV, rfl, hfz, hnd⟩ := hW
 have hA : DataW.TrodAll enc Try.prog W 0 (fun _ => true) true Try.f4.params.toList args.toList ds p := hA0
 rw [Try.params4] at hA hval
 obtain ⟨v0, vs0, d0, ds0, p0, q0, hargs, rfl, rfl, h0, r0⟩ := trodAll_cons hA
 obtain ⟨v1, vs1, d1, ds1, p1, q1, rfl, rfl, rfl, h1, r1⟩ := trodAll_cons r0
 obtain ⟨v2, vs2, d2, ds2, p2, q2, rfl, rfl, rfl, h2, r2⟩ := trodAll_cons r1
 obtain ⟨rfl, rfl, rfl⟩ := trodAll_nil r2
 obtain rfl : args = #[v0, v1, v2] := by cases args; simp_all
 obtain ⟨rfl, rfl⟩ := trodVars_none hV
 clear hA0 hval0 hsz0 hA hcnd
 have k0 := h0
 have lt0 : ∀ x ∈ p0, x.block < W.heap.size := by obtain ⟨m, hm⟩ := k0; exact DataW.trod_lt m _ _ _ hm
 have hv0 := hval 0 23 v0 rfl rfl
 obtain ⟨cs0, rfl, _⟩ := okWide_struct Try.underlying23 hv0
 obtain ⟨fuel0, hf0⟩ := h0
 obtain ⟨m0, rfl⟩ : ∃ m : List Value, cs0 = m.toArray := ⟨cs0.toList, by simp⟩
 have hg0 : DataW.trod enc Try.prog W 0 (fun _ => true) true fuel0 23 m0 = some (d0, p0) := by simpa [Value.cells] using hf0
 obtain ⟨x0, K0, G0⟩ := (Opens.agg2 Try.underlying23 (Opens.int Try.underlying2) (Opens.int Try.underlying2) (by kernel_rfl) (by kernel_rfl) (by kernel_rfl) (by kernel_rfl) (by kernel_rfl)) enc W 0 fuel0 _ _ hg0
 obtain ⟨a0_0, a0_1⟩ := x0
 obtain ⟨_, _, rfl, rfl, rfl⟩ := K0
 obtain ⟨g0_0, g0_1⟩ := G0
 have k1 := h1
 have lt1 : ∀ x ∈ p1, x.block < W.heap.size := by obtain ⟨m, hm⟩ := k1; exact DataW.trod_lt m _ _ _ hm
 have hv1 := hval 1 2 v1 rfl rfl
 obtain ⟨a1, rfl, rfl, rfl, g1⟩ := open_int Try.underlying2 hv1 h1
 have k2 := h2
 have lt2 : ∀ x ∈ p2, x.block < W.heap.size := by obtain ⟨m, hm⟩ := k2; exact DataW.trod_lt m _ _ _ hm
 have hv2 := hval 2 24 v2 rfl rfl
 obtain ⟨B2, len2, cap2, rfl⟩ := okWide_slice Try.underlying24 hv2
 obtain ⟨fuel2, hf2⟩ := h2
 obtain ⟨l2, ⟨A2, c2, e2, hc2, hr2⟩, gl2, gx2⟩ := (Opens.slice Try.underlying24 (by kernel_rfl) (Opens.slice Try.underlying38 (by kernel_rfl) (Opens.int Try.underlying2))) enc W 0 fuel2 _ _ hf2
 simp only [Value.cells, List.cons.injEq, Value.slice.injEq, and_true] at e2
 obtain ⟨rfl, rfl, rfl⟩ := e2
 obtain ⟨k, h⟩ := Pure.FnExactFieldEchelon a0_0 a0_1 a1 l2 g0_0 g0_1 g1 gl2 gx2
 refine (laws_FnExactFieldEchelon.calls k a0_0 a0_1 a1 _ _ l2 true W hr2 hc2 h).mono fun e W' ⟨he, bel0⟩ => ?_
 have bel : Below W.heap.size W W' := bel0
 subst he
 exact ⟨_, rfl, _, _, _, [], _, [], hW', trodAll_mk1 (shut_bool Try.underlying4 _), (trodAll_cons_mk (Below.trod laidOut (by kernel_rfl) (of_decide_eq_true (by kernel_rfl)) k0 bel lt0) (trodAll_cons_mk (Below.trod laidOut (by kernel_rfl) (of_decide_eq_true (by kernel_rfl)) k1 bel lt1) (trodAll_cons_mk (Below.trod laidOut (by kernel_rfl) (of_decide_eq_true (by kernel_rfl)) k2 bel lt2) trodAll_mk0))), rfl, bel.frame _, fun h => by cases h⟩
theorem over : Rows.fnExactFieldEchelonRow.holds Try.pinned (OpenSpec.ofChange Rows.fnExactFieldEchelonSpec) :=
 OpenClaim.holds_of_wide 4 Try.f4 rfl rfl rfl rfl rfl rfl rfl ⟨rfl, rfl, rfl, rfl, rfl⟩ rfl rfl rfl rfl rfl (by kernel_rfl) Try.func4 (by kernel_rfl)
  (of_decide_eq_true (by kernel_rfl)) (by unfold Func.isWrapper; first | (rw [if_pos (by decide +kernel)]; kernel_rfl) | (rw [if_neg (by decide +kernel)]; exact ⟨rfl, rfl⟩))
  (fun os started H enc _ => lifted os started H enc)
theorem proved : Rows.FnExactFieldEchelonSaid := over
#print axioms proved
end Go.Proofs.Ytbalkaphibnpcaa.fnExactFieldEchelon
namespace Go.Proofs.Ytbalkaphibnpcaa
theorem fnExactFieldEchelon_holds : Rows.FnExactFieldEchelonSaid := fnExactFieldEchelon.proved
end Go.Proofs.Ytbalkaphibnpcaa
