/- The row of a law, as the printing program wrote it. -/
import Derived.Test.YtbalkaphibnpcaaRows
import Derived.Test.YtbalkaphibnpcaaPx49
import Derived.Test.YtbalkaphibnpcaaKEdgesInto
import Derived.Test.YtbalkaphibnpcaaOpen
import Derived.WalkKit
import Derived.ProofKit
import Derived.OpenShut
import Derived.ShutString
import Derived.ChangeOld
import Derived.Below
import Derived.SizedLaws
namespace Go.Proofs.Ytbalkaphibnpcaa.fnExactEdgesInto
open Go.ChangeShapes Go.WideShapes Go.ChangeAt Go.RowKit Go.Proofs.Ytbalkaphibnpcaa.P Go.Proofs.Ytbalkaphibnpcaa.Open Go.Proofs.YtbalkaphibnpcaaW.PrintWords
set_option linter.unusedVariables false
set_option maxHeartbeats 2000000
set_option maxRecDepth 100000
theorem own : ownKnob Try.prog.godebug = none := by kernel_rfl
theorem laidOut : laidOutB Try.prog = true := by kernel_rfl
theorem lifted (os : Os) (started : os.Started) (H : Type) (enc : TypeId × Value → H) :
 ReturnsInHanded {} Try.checked os 5 .any (Rows.fnExactEdgesIntoSpec.pre6 enc Try.prog Try.f5 Rows.fnExactEdgesIntoRow.domain false) (Rows.fnExactEdgesIntoSpec.post enc Try.prog Try.f5 false true false false) := by
 refine returnsInHanded_of_change_sized (C := Try.checked) own started (by kernel_rfl) Try.func5
  (ChangeSpec.witness6 (enc := enc) (C := Try.checked) false ⟨#[], #[.agg #[.int .i64 0, .int .i64 0, .int .i64 0, .int .i64 0, .slice none 0 0, .slice none 0 0], .int .i64 0], []⟩ 8 (by kernel_rfl) (by kernel_rfl) (by kernel_rfl) (by kernel_rfl)) ?_
 intro W base args ds gs before hval0 hW hcnd hsz0 _
 have hval : ∀ (j : Nat) t v, Try.f5.params[j]? = some t → args[j]? = some v → Value.okWide Try.prog W .any base t v := hval0
 have hW' := hW
 obtain ⟨p, q, hA0, hV, rfl, hfz, hnd⟩ := hW
 have hA : DataW.TrodAll enc Try.prog W 0 (fun _ => true) true Try.f5.params.toList args.toList ds p := hA0
 rw [Try.params5] at hA hval
 obtain ⟨v0, vs0, d0, ds0, p0, q0, hargs, rfl, rfl, h0, r0⟩ := trodAll_cons hA
 obtain ⟨v1, vs1, d1, ds1, p1, q1, rfl, rfl, rfl, h1, r1⟩ := trodAll_cons r0
 obtain ⟨rfl, rfl, rfl⟩ := trodAll_nil r1
 obtain rfl : args = #[v0, v1] := by cases args; simp_all
 obtain ⟨rfl, rfl⟩ := trodVars_none hV
 clear hA0 hval0 hsz0 hA hcnd
 have k0 := h0
 have lt0 : ∀ x ∈ p0, x.block < W.heap.size := by obtain ⟨m, hm⟩ := k0; exact DataW.trod_lt m _ _ _ hm
 have hv0 := hval 0 36 v0 rfl rfl
 obtain ⟨cs0, rfl, _⟩ := okWide_struct Try.underlying36 hv0
 obtain ⟨fuel0, hf0⟩ := h0
 obtain ⟨m0, rfl⟩ : ∃ m : List Value, cs0 = m.toArray := ⟨cs0.toList, by simp⟩
 have hg0 : DataW.trod enc Try.prog W 0 (fun _ => true) true fuel0 36 m0 = some (d0, p0) := by simpa [Value.cells] using hf0
 obtain ⟨x0, K0, G0⟩ := (Opens.agg5 Try.underlying36 (Opens.agg2 Try.underlying23 (Opens.int Try.underlying2) (Opens.int Try.underlying2) (by kernel_rfl) (by kernel_rfl) (by kernel_rfl) (by kernel_rfl) (by kernel_rfl)) (Opens.int Try.underlying2) (Opens.int Try.underlying2) (Opens.slice Try.underlying24 (by kernel_rfl) (Opens.slice Try.underlying38 (by kernel_rfl) (Opens.int Try.underlying2))) (Opens.slice Try.underlying24 (by kernel_rfl) (Opens.slice Try.underlying38 (by kernel_rfl) (Opens.int Try.underlying2))) (by kernel_rfl) (by kernel_rfl) (by kernel_rfl) (by kernel_rfl) (by kernel_rfl) (by kernel_rfl) (by kernel_rfl) (by kernel_rfl) (by kernel_rfl) (by kernel_rfl) (by kernel_rfl)) enc W 0 fuel0 _ _ hg0
 obtain ⟨⟨a0_0, a0_1⟩, ⟨a0_2, ⟨a0_3, ⟨l0_4, l0_5⟩⟩⟩⟩ := x0
 obtain ⟨_, _, rfl, ⟨_, _, rfl, rfl, rfl⟩, ⟨_, _, rfl, rfl, ⟨_, _, rfl, rfl, ⟨_, _, rfl, ⟨A0_4, c0_4, rfl, hc0_4, hr0_4⟩, ⟨A0_5, c0_5, rfl, hc0_5, hr0_5⟩⟩⟩⟩⟩ := K0
 obtain ⟨⟨g0_0, g0_1⟩, ⟨g0_2, ⟨g0_3, ⟨⟨gl0_4, gx0_4⟩, ⟨gl0_5, gx0_5⟩⟩⟩⟩⟩ := G0
 have k1 := h1
 have lt1 : ∀ x ∈ p1, x.block < W.heap.size := by obtain ⟨m, hm⟩ := k1; exact DataW.trod_lt m _ _ _ hm
 have hv1 := hval 1 2 v1 rfl rfl
 obtain ⟨a1, rfl, rfl, rfl, g1⟩ := open_int Try.underlying2 hv1 h1
 obtain ⟨k, h⟩ := Pure.FnExactEdgesInto a0_0 a0_1 a0_2 a0_3 l0_4 l0_5 a1 g0_0 g0_1 g0_2 g0_3 gl0_4 gx0_4 gl0_5 gx0_5 g1
 refine (laws_FnExactEdgesInto.calls k a0_0 a0_1 a0_2 a0_3 _ _ l0_4 _ _ l0_5 a1 true W hr0_4 hc0_4 hr0_5 hc0_5 h).mono fun e W' ⟨he, bel0⟩ => ?_
 have bel : Below W.heap.size W W' := bel0
 subst he
 exact ⟨_, rfl, _, _, _, [], _, [], hW', trodAll_mk1 (shut_bool Try.underlying4 _), (trodAll_cons_mk (Below.trod laidOut (by kernel_rfl) (of_decide_eq_true (by kernel_rfl)) k0 bel lt0) (trodAll_cons_mk (Below.trod laidOut (by kernel_rfl) (of_decide_eq_true (by kernel_rfl)) k1 bel lt1) trodAll_mk0)), rfl, bel.frame _, fun h => by cases h⟩
theorem over : Rows.fnExactEdgesIntoRow.holds Try.pinned (OpenSpec.ofChange Rows.fnExactEdgesIntoSpec) :=
 OpenClaim.holds_of_wide 5 Try.f5 rfl rfl rfl rfl rfl rfl rfl ⟨rfl, rfl, rfl, rfl, rfl⟩ rfl rfl rfl rfl rfl (by kernel_rfl) Try.func5 (by kernel_rfl)
  (of_decide_eq_true (by kernel_rfl)) (by unfold Func.isWrapper; first | (rw [if_pos (by decide +kernel)]; kernel_rfl) | (rw [if_neg (by decide +kernel)]; exact ⟨rfl, rfl⟩))
  (fun os started H enc _ => lifted os started H enc)
theorem proved : Rows.FnExactEdgesIntoSaid := over
#print axioms proved
end Go.Proofs.Ytbalkaphibnpcaa.fnExactEdgesInto
namespace Go.Proofs.Ytbalkaphibnpcaa
theorem fnExactEdgesInto_holds : Rows.FnExactEdgesIntoSaid := fnExactEdgesInto.proved
end Go.Proofs.Ytbalkaphibnpcaa
