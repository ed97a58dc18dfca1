/- The row of a law, as the printing program wrote it. -/
import Derived.Test.YthjfilmdobkmlaaRows
import Derived.Test.YthjfilmdobkmlaaPx43
import Derived.Test.YthjfilmdobkmlaaKSendThrough
import Derived.Test.YthjfilmdobkmlaaOpen
import Derived.WalkKit
import Derived.ProofKit
import Derived.OpenShut
import Derived.ShutString
import Derived.ChangeOld
import Derived.Below
import Derived.SizedLaws
namespace Go.Proofs.Ythjfilmdobkmlaa.fnExactSendThrough
open Go.ChangeShapes Go.WideShapes Go.ChangeAt Go.RowKit Go.Proofs.Ythjfilmdobkmlaa.P Go.Proofs.Ythjfilmdobkmlaa.Open Go.Proofs.YthjfilmdobkmlaaW.PrintWords
set_option linter.unusedVariables false
set_option maxHeartbeats 2000000
set_option maxRecDepth 100000
theorem own : ownKnob Try.prog.godebug = none := by kernel_rfl
theorem laidOut : laidOutB Try.prog = true := by kernel_rfl
theorem lifted (os : Os) (started : os.Started) (H : Type) (enc : TypeId × Value → H) :
 ReturnsInHanded {} Try.checked os 6 .any (Rows.fnExactSendThroughSpec.pre6 enc Try.prog Try.f6 Rows.fnExactSendThroughRow.domain false) (Rows.fnExactSendThroughSpec.post enc Try.prog Try.f6 false true false false) := by
 refine returnsInHanded_of_change_sized (C := Try.checked) own started (by kernel_rfl) Try.func6
  (ChangeSpec.witness6 (enc := enc) (C := Try.checked) false ⟨#[], #[.agg #[.int .i64 0, .slice none 0 0], .agg #[.int .i64 0, .slice none 0 0], .agg #[.int .i64 0, .slice none 0 0]], []⟩ 8 (by kernel_rfl) (by kernel_rfl) (by kernel_rfl) (by kernel_rfl)) ?_
 intro W base args ds gs before hval0 hW hcnd hsz0 _
 have hval : ∀ (j : Nat) t v, Try.f6.params[j]? = some t → args[j]? = some v → Value.okWide Try.prog W .any base t v := hval0
 have hW' := hW
 obtain ⟨p, q, hA0, hV, rfl, hfz, hnd⟩ := hW
 have hA : DataW.TrodAll enc Try.prog W 0 (fun _ => true) true Try.f6.params.toList args.toList ds p := hA0
 rw [Try.params6] at hA hval
 obtain ⟨v0, vs0, d0, ds0, p0, q0, hargs, rfl, rfl, h0, r0⟩ := trodAll_cons hA
 obtain ⟨v1, vs1, d1, ds1, p1, q1, rfl, rfl, rfl, h1, r1⟩ := trodAll_cons r0
 obtain ⟨v2, vs2, d2, ds2, p2, q2, rfl, rfl, rfl, h2, r2⟩ := trodAll_cons r1
 obtain ⟨rfl, rfl, rfl⟩ := trodAll_nil r2
 obtain rfl : args = #[v0, v1, v2] := by cases args; simp_all
 obtain ⟨rfl, rfl⟩ := trodVars_none hV
 clear hA0 hval0 hsz0 hA hcnd
 have k0 := h0
 have lt0 : ∀ x ∈ p0, x.block < W.heap.size := by obtain ⟨m, hm⟩ := k0; exact DataW.trod_lt m _ _ _ hm
 have hv0 := hval 0 55 v0 rfl rfl
 obtain ⟨cs0, rfl, _⟩ := okWide_struct Try.underlying55 hv0
 obtain ⟨fuel0, hf0⟩ := h0
 obtain ⟨m0, rfl⟩ : ∃ m : List Value, cs0 = m.toArray := ⟨cs0.toList, by simp⟩
 have hg0 : DataW.trod enc Try.prog W 0 (fun _ => true) true fuel0 55 m0 = some (d0, p0) := by simpa [Value.cells] using hf0
 obtain ⟨x0, K0, G0⟩ := (Opens.agg2 Try.underlying55 (Opens.int Try.underlying2) (Opens.slice Try.underlying25 (by kernel_rfl) (Opens.int Try.underlying2)) (by kernel_rfl) (by kernel_rfl) (by kernel_rfl) (by kernel_rfl) (by kernel_rfl)) enc W 0 fuel0 _ _ hg0
 obtain ⟨a0_0, l0_1⟩ := x0
 obtain ⟨_, _, rfl, rfl, ⟨A0_1, c0_1, rfl, hc0_1, hr0_1⟩⟩ := K0
 obtain ⟨g0_0, ⟨gl0_1, gx0_1⟩⟩ := G0
 have k1 := h1
 have lt1 : ∀ x ∈ p1, x.block < W.heap.size := by obtain ⟨m, hm⟩ := k1; exact DataW.trod_lt m _ _ _ hm
 have hv1 := hval 1 55 v1 rfl rfl
 obtain ⟨cs1, rfl, _⟩ := okWide_struct Try.underlying55 hv1
 obtain ⟨fuel1, hf1⟩ := h1
 obtain ⟨m1, rfl⟩ : ∃ m : List Value, cs1 = m.toArray := ⟨cs1.toList, by simp⟩
 have hg1 : DataW.trod enc Try.prog W 0 (fun _ => true) true fuel1 55 m1 = some (d1, p1) := by simpa [Value.cells] using hf1
 obtain ⟨x1, K1, G1⟩ := (Opens.agg2 Try.underlying55 (Opens.int Try.underlying2) (Opens.slice Try.underlying25 (by kernel_rfl) (Opens.int Try.underlying2)) (by kernel_rfl) (by kernel_rfl) (by kernel_rfl) (by kernel_rfl) (by kernel_rfl)) enc W 0 fuel1 _ _ hg1
 obtain ⟨a1_0, l1_1⟩ := x1
 obtain ⟨_, _, rfl, rfl, ⟨A1_1, c1_1, rfl, hc1_1, hr1_1⟩⟩ := K1
 obtain ⟨g1_0, ⟨gl1_1, gx1_1⟩⟩ := G1
 have k2 := h2
 have lt2 : ∀ x ∈ p2, x.block < W.heap.size := by obtain ⟨m, hm⟩ := k2; exact DataW.trod_lt m _ _ _ hm
 have hv2 := hval 2 55 v2 rfl rfl
 obtain ⟨cs2, rfl, _⟩ := okWide_struct Try.underlying55 hv2
 obtain ⟨fuel2, hf2⟩ := h2
 obtain ⟨m2, rfl⟩ : ∃ m : List Value, cs2 = m.toArray := ⟨cs2.toList, by simp⟩
 have hg2 : DataW.trod enc Try.prog W 0 (fun _ => true) true fuel2 55 m2 = some (d2, p2) := by simpa [Value.cells] using hf2
 obtain ⟨x2, K2, G2⟩ := (Opens.agg2 Try.underlying55 (Opens.int Try.underlying2) (Opens.slice Try.underlying25 (by kernel_rfl) (Opens.int Try.underlying2)) (by kernel_rfl) (by kernel_rfl) (by kernel_rfl) (by kernel_rfl) (by kernel_rfl)) enc W 0 fuel2 _ _ hg2
 obtain ⟨a2_0, l2_1⟩ := x2
 obtain ⟨_, _, rfl, rfl, ⟨A2_1, c2_1, rfl, hc2_1, hr2_1⟩⟩ := K2
 obtain ⟨g2_0, ⟨gl2_1, gx2_1⟩⟩ := G2
 obtain ⟨k, h⟩ := Pure.FnExactSendThrough a0_0 l0_1 a1_0 l1_1 a2_0 l2_1 g0_0 gl0_1 gx0_1 g1_0 gl1_1 gx1_1 g2_0 gl2_1 gx2_1
 refine (laws_FnExactSendThrough.calls k a0_0 _ _ l0_1 a1_0 _ _ l1_1 a2_0 _ _ l2_1 true W hr0_1 hc0_1 hr1_1 hc1_1 hr2_1 hc2_1 h).mono fun e W' ⟨he, bel0⟩ => ?_
 have bel : Below W.heap.size W W' := bel0
 subst he
 exact ⟨_, rfl, _, _, _, [], _, [], hW', trodAll_mk1 (shut_bool Try.underlying4 _), (trodAll_cons_mk (Below.trod laidOut (by kernel_rfl) (of_decide_eq_true (by kernel_rfl)) k0 bel lt0) (trodAll_cons_mk (Below.trod laidOut (by kernel_rfl) (of_decide_eq_true (by kernel_rfl)) k1 bel lt1) (trodAll_cons_mk (Below.trod laidOut (by kernel_rfl) (of_decide_eq_true (by kernel_rfl)) k2 bel lt2) trodAll_mk0))), rfl, bel.frame _, fun h => by cases h⟩
theorem over : Rows.fnExactSendThroughRow.holds Try.pinned (OpenSpec.ofChange Rows.fnExactSendThroughSpec) :=
 OpenClaim.holds_of_wide 6 Try.f6 rfl rfl rfl rfl rfl rfl rfl ⟨rfl, rfl, rfl, rfl, rfl⟩ rfl rfl rfl rfl rfl (by kernel_rfl) Try.func6 (by kernel_rfl)
  (of_decide_eq_true (by kernel_rfl)) (by unfold Func.isWrapper; first | (rw [if_pos (by decide +kernel)]; kernel_rfl) | (rw [if_neg (by decide +kernel)]; exact ⟨rfl, rfl⟩))
  (fun os started H enc _ => lifted os started H enc)
theorem proved : Rows.FnExactSendThroughSaid := over
#print axioms proved
end Go.Proofs.Ythjfilmdobkmlaa.fnExactSendThrough
namespace Go.Proofs.Ythjfilmdobkmlaa
theorem fnExactSendThrough_holds : Rows.FnExactSendThroughSaid := fnExactSendThrough.proved
end Go.Proofs.Ythjfilmdobkmlaa
