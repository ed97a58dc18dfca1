/- The row of a law, as the printing program wrote it. -/
import Derived.Test.YtbaicdgkpnbipaaRows
import Derived.Test.YtbaicdgkpnbipaaPx67
import Derived.Test.YtbaicdgkpnbipaaKMeetOf
import Derived.Test.YtbaicdgkpnbipaaOpen
import Derived.WalkKit
import Derived.ProofKit
import Derived.OpenShut
import Derived.ShutString
import Derived.ChangeOld
import Derived.Below
import Derived.SizedLaws
namespace Go.Proofs.Ytbaicdgkpnbipaa.fnExactMeetOf
open Go.ChangeShapes Go.WideShapes Go.ChangeAt Go.RowKit Go.Proofs.Ytbaicdgkpnbipaa.P Go.Proofs.Ytbaicdgkpnbipaa.Open Go.Proofs.YtbaicdgkpnbipaaW.PrintWords
set_option linter.unusedVariables false
theorem own : ownKnob Try.prog.godebug = none := by kernel_rfl
theorem laidOut : laidOutB Try.prog = true := by kernel_rfl
set_option maxHeartbeats 2000000 in
set_option maxRecDepth 100000 in
theorem lifted (os : Os) (started : os.Started) (H : Type) (enc : TypeId × Value → H) :
 ReturnsInHanded {} Try.checked os 14 .any (Rows.fnExactMeetOfSpec.pre6 enc Try.prog Try.f14 Rows.fnExactMeetOfRow.domain false) (Rows.fnExactMeetOfSpec.post enc Try.prog Try.f14 false true false false) := by
 refine returnsInHanded_of_change_sized (C := Try.checked) own started (by kernel_rfl) Try.func14
  (ChangeSpec.witness6 (enc := enc) (C := Try.checked) false ⟨#[], #[.agg #[.int .i64 0, .slice none 0 0], .agg #[.int .i64 0, .slice none 0 0]], []⟩ 8 (by kernel_rfl) (by kernel_rfl) (by kernel_rfl) (by kernel_rfl)) ?_
 intro W base args ds gs before hval0 hW hcnd hsz0 _
 have hval : ∀ (j : Nat) t v, Try.f14.params[j]? = some t → args[j]? = some v → Value.okWide Try.prog W .any base t v := hval0
 have hW' := hW
 obtain ⟨p, q, hA0, hV, rfl, hfz, hnd⟩ := hW
 have hA : DataW.TrodAll enc Try.prog W 0 (fun _ => true) true Try.f14.params.toList args.toList ds p := hA0
 rw [Try.params14] at hA hval
 obtain ⟨v0, vs0, d0, ds0, p0, q0, hargs, rfl, rfl, h0, r0⟩ := trodAll_cons hA
 obtain ⟨v1, vs1, d1, ds1, p1, q1, rfl, rfl, rfl, h1, r1⟩ := trodAll_cons r0
 obtain ⟨rfl, rfl, rfl⟩ := trodAll_nil r1
 obtain rfl : args = #[v0, v1] := by cases args; simp_all
 obtain ⟨rfl, rfl⟩ := trodVars_none hV
 clear hA0 hval0 hsz0 hA hcnd
 have k0 := h0
 have lt0 : ∀ x ∈ p0, x.block < W.heap.size := by obtain ⟨m, hm⟩ := k0; exact DataW.trod_lt m _ _ _ hm
 have hv0 := hval 0 24 v0 rfl rfl
 obtain ⟨cs0, rfl, _⟩ := okWide_struct Try.underlying24 hv0
 obtain ⟨fuel0, hf0⟩ := h0
 obtain ⟨m0, rfl⟩ : ∃ m : List Value, cs0 = m.toArray := ⟨cs0.toList, by simp⟩
 have hg0 : DataW.trod enc Try.prog W 0 (fun _ => true) true fuel0 24 m0 = some (d0, p0) := by simpa [Value.cells] using hf0
 obtain ⟨x0, K0, G0⟩ := (Opens.agg2 Try.underlying24 (Opens.int Try.underlying2) (Opens.slice Try.underlying22 (by kernel_rfl) (Opens.int Try.underlying2)) (by kernel_rfl) (by kernel_rfl) (by kernel_rfl) (by kernel_rfl) (by kernel_rfl)) enc W 0 fuel0 _ _ hg0
 obtain ⟨a0_0, l0_1⟩ := x0
 obtain ⟨_, _, rfl, rfl, ⟨A0_1, c0_1, rfl, hc0_1, hr0_1⟩⟩ := K0
 obtain ⟨g0_0, ⟨gl0_1, gx0_1⟩⟩ := G0
 have k1 := h1
 have lt1 : ∀ x ∈ p1, x.block < W.heap.size := by obtain ⟨m, hm⟩ := k1; exact DataW.trod_lt m _ _ _ hm
 have hv1 := hval 1 24 v1 rfl rfl
 obtain ⟨cs1, rfl, _⟩ := okWide_struct Try.underlying24 hv1
 obtain ⟨fuel1, hf1⟩ := h1
 obtain ⟨m1, rfl⟩ : ∃ m : List Value, cs1 = m.toArray := ⟨cs1.toList, by simp⟩
 have hg1 : DataW.trod enc Try.prog W 0 (fun _ => true) true fuel1 24 m1 = some (d1, p1) := by simpa [Value.cells] using hf1
 obtain ⟨x1, K1, G1⟩ := (Opens.agg2 Try.underlying24 (Opens.int Try.underlying2) (Opens.slice Try.underlying22 (by kernel_rfl) (Opens.int Try.underlying2)) (by kernel_rfl) (by kernel_rfl) (by kernel_rfl) (by kernel_rfl) (by kernel_rfl)) enc W 0 fuel1 _ _ hg1
 obtain ⟨a1_0, l1_1⟩ := x1
 obtain ⟨_, _, rfl, rfl, ⟨A1_1, c1_1, rfl, hc1_1, hr1_1⟩⟩ := K1
 obtain ⟨g1_0, ⟨gl1_1, gx1_1⟩⟩ := G1
 obtain ⟨k, h⟩ := Pure.FnExactMeetOf a0_0 l0_1 a1_0 l1_1 g0_0 gl0_1 gx0_1 g1_0 gl1_1 gx1_1
 refine (qab.calls k a0_0 _ _ l0_1 a1_0 _ _ l1_1 true W hr0_1 hc0_1 hr1_1 hc1_1 h).mono fun e W' ⟨he, bel0⟩ => ?_
 have bel : Below W.heap.size W W' := bel0
 subst he
 exact ⟨_, rfl, _, _, _, [], _, [], hW', trodAll_mk1 (shut_bool Try.underlying4 _), (trodAll_cons_mk (Below.trod laidOut (by kernel_rfl) (of_decide_eq_true (by kernel_rfl)) k0 bel lt0) (trodAll_cons_mk (Below.trod laidOut (by kernel_rfl) (of_decide_eq_true (by kernel_rfl)) k1 bel lt1) trodAll_mk0)), rfl, bel.frame _, fun h => by cases h⟩
theorem over : Rows.fnExactMeetOfRow.holds Try.pinned (OpenSpec.ofChange Rows.fnExactMeetOfSpec) :=
 OpenClaim.holds_of_wide 14 Try.f14 rfl rfl rfl rfl rfl rfl rfl ⟨rfl, rfl, rfl, rfl, rfl⟩ rfl rfl rfl rfl rfl (by kernel_rfl) Try.func14 (by kernel_rfl)
  (of_decide_eq_true (by kernel_rfl)) (by unfold Func.isWrapper; first | (rw [if_pos (by decide +kernel)]; kernel_rfl) | (rw [if_neg (by decide +kernel)]; exact ⟨rfl, rfl⟩))
  (fun os started H enc _ => lifted os started H enc)
theorem proved : Rows.FnExactMeetOfSaid := over
#print axioms proved
end Go.Proofs.Ytbaicdgkpnbipaa.fnExactMeetOf
namespace Go.Proofs.Ytbaicdgkpnbipaa
theorem fnExactMeetOf_holds : Rows.FnExactMeetOfSaid := fnExactMeetOf.proved
end Go.Proofs.Ytbaicdgkpnbipaa
