/- What the functions of the law FnConjugates tell without rounds, and its pure statement. -/
import Derived.Test.YtkedpfkdnhameaaPx0
import Derived.Test.YtkedpfkdnhameaaPx1
import Derived.Test.YtkedpfkdnhameaaPx2
import Derived.Test.YtkedpfkdnhameaaPx3
import Derived.Test.YtkedpfkdnhameaaPx4
import Derived.Test.YtkedpfkdnhameaaPx5
import Derived.Test.YtkedpfkdnhameaaPx6
import Derived.Test.YtkedpfkdnhameaaPx7
import Derived.Test.YtkedpfkdnhameaaPx8
import Derived.ProofKit
section
namespace Go.Proofs.Ytkedpfkdnhameaa.P
open Go.RowKit Go.Proofs.YtkedpfkdnhameaaW.PrintWords Go.Proofs.YtkedpfkdnhameaaW.PrintLast Go.Proofs.YtkedpfkdnhameaaW.PrintMore
def IsLim {α : Type} (g : Nat → Option α) (v : Option α) : Prop := (∀ k, LeO (g k) (g (k + 1))) ∧ ∀ r, v = some r ↔ ∃ k, g k = some r
theorem leO_le {α : Type} {g : Nat → Option α} (h : ∀ k, LeO (g k) (g (k + 1))) {j k : Nat} (hjk : j ≤ k) : LeO (g j) (g k) := by
  induction hjk with
  | refl => exact fun _ e => e
  | step _ ih => exact fun r e => h _ r (ih r e)
open Classical in
noncomputable def lim {α : Type} (g : Nat → Option α) : Option α := if h : ∃ r, ∃ k, g k = some r then some h.choose else none
theorem lim_spec {α : Type} {g : Nat → Option α} (h : ∀ k, LeO (g k) (g (k + 1))) : IsLim g (lim g) := by
  refine ⟨h, fun r => ?_⟩
  unfold lim
  by_cases hx : ∃ r, ∃ k, g k = some r
  · rw [dif_pos hx]
    obtain ⟨k, hk⟩ := hx.choose_spec
    constructor
    · intro e; exact ⟨k, by rw [hk]; exact e⟩
    · rintro ⟨j, hj⟩
      have a := leO_le h (Nat.le_max_left j k) _ hj
      have b := leO_le h (Nat.le_max_right j k) _ hk
      rw [a] at b; exact b.symm
  · rw [dif_neg hx]
    constructor
    · intro e; cases e
    · rintro ⟨k, hk⟩; exact absurd ⟨r, k, hk⟩ hx
theorem IsLim.unique {α : Type} {g : Nat → Option α} {v v' : Option α} (h : IsLim g v) (h' : IsLim g v') : v = v' :=
  Option.ext fun r => (h.2 r).trans (h'.2 r).symm
theorem IsLim.const {α : Type} (v : Option α) : IsLim (fun _ => v) v := ⟨fun _ _ e => e, fun _ => ⟨fun e => ⟨0, e⟩, fun ⟨_, e⟩ => e⟩⟩
theorem IsLim.ite {α : Type} {c : Prop} [Decidable c] {g g' : Nat → Option α} {v v' : Option α} (h : IsLim g v) (h' : IsLim g' v') :
    IsLim (fun k => if c then g k else g' k) (if c then v else v') := by
  by_cases hc : c
  · simp only [if_pos hc]; exact h
  · simp only [if_neg hc]; exact h'
theorem IsLim.bind {α β : Type} {g : Nat → Option α} {v : Option α} {q : Nat → α → Option β} {w : α → Option β}
    (h : IsLim g v) (hq : ∀ x, IsLim (fun k => q k x) (w x)) : IsLim (fun k => (g k).bind (q k)) (v.bind w) := by
  refine ⟨fun k r e => ?_, fun r => ?_⟩
  · obtain ⟨x, hx, hr⟩ := Option.bind_eq_some_iff.mp e
    exact Option.bind_eq_some_iff.mpr ⟨x, h.1 k x hx, (hq x).1 k r hr⟩
  · constructor
    · intro e
      obtain ⟨x, hx, hr⟩ := Option.bind_eq_some_iff.mp e
      obtain ⟨j, hj⟩ := (h.2 x).mp hx
      obtain ⟨k, hk⟩ := ((hq x).2 r).mp hr
      exact ⟨max j k, Option.bind_eq_some_iff.mpr ⟨x, leO_le h.1 (Nat.le_max_left j k) _ hj, leO_le (hq x).1 (Nat.le_max_right j k) _ hk⟩⟩
    · rintro ⟨k, e⟩
      obtain ⟨x, hx, hr⟩ := Option.bind_eq_some_iff.mp e
      exact Option.bind_eq_some_iff.mpr ⟨x, (h.2 x).mpr ⟨k, hx⟩, ((hq x).2 r).mpr ⟨k, hr⟩⟩
theorem IsLim.shift {α : Type} {g : Nat → Option α} {v : Option α} (h0 : g 0 = none) (h : IsLim (fun k => g (k + 1)) v) : IsLim g v := by
  refine ⟨fun k => ?_, fun r => ?_⟩
  · cases k with
    | zero => intro r e; rw [h0] at e; cases e
    | succ k => exact h.1 k
  · rw [h.2 r]
    constructor
    · rintro ⟨k, e⟩; exact ⟨k + 1, e⟩
    · rintro ⟨k, e⟩
      cases k with
      | zero => rw [h0] at e; cases e
      | succ k => exact ⟨k, e⟩
theorem IsLim.some_ {α : Type} {g : Nat → Option α} {v : Option α} {r : α} (h : IsLim g v) (e : v = some r) : ∃ k, g k = some r := (h.2 r).mp e
end Go.Proofs.Ytkedpfkdnhameaa.P
end
section
namespace Go.Proofs.Ytkedpfkdnhameaa.P
open Go.RowKit Go.Proofs.YtkedpfkdnhameaaW.PrintWords Go.Proofs.YtkedpfkdnhameaaW.PrintLast Go.Proofs.YtkedpfkdnhameaaW.PrintMore
set_option linter.unusedVariables false
set_option linter.unusedSimpArgs false
noncomputable def spec_l01Fields.d (a0 : Int) : Option ((List (S25))) := lim (fun k => spec_l01Fields.f k a0)
theorem spec_l01Fields.lim (a0 : Int) : IsLim (fun k => spec_l01Fields.f k a0) (spec_l01Fields.d a0) := lim_spec (fun k => spec_l01Fields.mono a0 k)
end Go.Proofs.Ytkedpfkdnhameaa.P
end
section
namespace Go.Proofs.Ytkedpfkdnhameaa.P
open Go.RowKit Go.Proofs.YtkedpfkdnhameaaW.PrintWords Go.Proofs.YtkedpfkdnhameaaW.PrintLast Go.Proofs.YtkedpfkdnhameaaW.PrintMore
set_option linter.unusedVariables false
set_option linter.unusedSimpArgs false
noncomputable def spec_l01Drawn.d (s0_0 : List Int) (s0_1 : Int) (s0_2 : Int) : Option (Int × Int × Int × Int) := lim (fun k => spec_l01Drawn.f k s0_0 s0_1 s0_2)
theorem spec_l01Drawn.lim (s0_0 : List Int) (s0_1 : Int) (s0_2 : Int) : IsLim (fun k => spec_l01Drawn.f k s0_0 s0_1 s0_2) (spec_l01Drawn.d s0_0 s0_1 s0_2) := lim_spec (fun k => spec_l01Drawn.mono s0_0 s0_1 s0_2 k)
theorem spec_l01Drawn.d_eq (s0_0 : List Int) (s0_1 : Int) (s0_2 : Int) : spec_l01Drawn.d s0_0 s0_1 s0_2 = (spec_l00Src_among.f s0_0 s0_1 s0_2 (([1, 2, 3, 3, 4, 4, 5] : List Int))).bind fun bt129 => ((spec_l01Fields.d bt129.1).bind fun t132 => ((spec_l00Src_pick.f s0_0 bt129.2.1 bt129.2.2 (t132.length : Int)).bind fun bt135 => (if 0 ≤ bt135.1 then (if bt135.1 < (t132.length : Int) then (some ((rd_T25 t132 bt135.1).f0, (rd_T25 t132 bt135.1).f1, bt135.2.1, bt135.2.2)) else (none)) else (none)))) := by
  refine IsLim.unique (spec_l01Drawn.lim _ _ _) ?_
  unfold spec_l01Drawn.f
  repeat' (first | exact IsLim.const _ | refine IsLim.ite ?_ ?_ | refine IsLim.bind ?_ (fun _ => ?_) | exact spec_l01Fields.lim ..)
noncomputable def spec_A2Field.d (l0 : List Int) : Option (Int × Int) := lim (fun k => spec_A2Field.f k l0)
theorem spec_A2Field.lim (l0 : List Int) : IsLim (fun k => spec_A2Field.f k l0) (spec_A2Field.d l0) := lim_spec (fun k => spec_A2Field.mono l0 k)
theorem spec_A2Field.d_eq (l0 : List Int) : spec_A2Field.d l0 = (spec_l00From.f l0).bind fun bt141 => ((spec_l01Drawn.d bt141.1 bt141.2.1 bt141.2.2).bind fun bt145 => (some (bt145.1, bt145.2.1))) := by
  refine IsLim.unique (spec_A2Field.lim _) ?_
  unfold spec_A2Field.f
  repeat' (first | exact IsLim.const _ | refine IsLim.ite ?_ ?_ | refine IsLim.bind ?_ (fun _ => ?_) | exact spec_l01Drawn.lim ..)
noncomputable def spec_A2Element.l0d (x2 : Int) (x8 : Int) (x9 : Int) (x151000 : Int) (x151001 : Int) (x155000 : List Int) (x155001 : Int) (x155002 : Int) : Option (Int) := lim (fun k => spec_A2Element.l0 k x2 x8 x9 x151000 x151001 x155000 x155001 x155002)
theorem spec_A2Element.l0lim (x2 : Int) (x8 : Int) (x9 : Int) (x151000 : Int) (x151001 : Int) (x155000 : List Int) (x155001 : Int) (x155002 : Int) : IsLim (fun k => spec_A2Element.l0 k x2 x8 x9 x151000 x151001 x155000 x155001 x155002) (spec_A2Element.l0d x2 x8 x9 x151000 x151001 x155000 x155001 x155002) := lim_spec (fun k => (spec_A2Element.mono_l k) x2 x8 x9 x151000 x151001 x155000 x155001 x155002)
theorem spec_A2Element.l0d_eq (x2 : Int) (x8 : Int) (x9 : Int) (x151000 : Int) (x151001 : Int) (x155000 : List Int) (x155001 : Int) (x155002 : Int) : spec_A2Element.l0d x2 x8 x9 x151000 x151001 x155000 x155001 x155002 = if x9 ≤ x2 then ((spec_l01Size.f x151000 x151001).bind fun t155 => ((spec_l00Src_pick.f x155000 x155001 x155002 t155).bind fun bt156 => (spec_A2Element.l0d x2 bt156.1 (wrap64 (x9 + 1)) x151000 x151001 x155000 bt156.2.1 bt156.2.2))) else (some x8) := by
  refine IsLim.unique (spec_A2Element.l0lim _ _ _ _ _ _ _ _) ?_
  refine IsLim.shift (by rfl) ?_
  simp only [spec_A2Element.l0]
  repeat' (first | exact IsLim.const _ | refine IsLim.ite ?_ ?_ | refine IsLim.bind ?_ (fun _ => ?_) | exact spec_A2Element.l0lim ..)
noncomputable def spec_A2Element.d (l0 : List Int) (a1_0 : Int) (a1_1 : Int) (a2 : Int) : Option (Int) := lim (fun k => spec_A2Element.f k l0 a1_0 a1_1 a2)
theorem spec_A2Element.lim (l0 : List Int) (a1_0 : Int) (a1_1 : Int) (a2 : Int) : IsLim (fun k => spec_A2Element.f k l0 a1_0 a1_1 a2) (spec_A2Element.d l0 a1_0 a1_1 a2) := lim_spec (fun k => spec_A2Element.mono l0 a1_0 a1_1 a2 k)
theorem spec_A2Element.d_eq (l0 : List Int) (a1_0 : Int) (a1_1 : Int) (a2 : Int) : spec_A2Element.d l0 a1_0 a1_1 a2 = (spec_l00From.f l0).bind fun bt151 => (spec_A2Element.l0d a2 0 0 a1_0 a1_1 bt151.1 bt151.2.1 bt151.2.2) := by
  refine IsLim.unique (spec_A2Element.lim _ _ _ _) ?_
  unfold spec_A2Element.f
  repeat' (first | exact IsLim.const _ | refine IsLim.ite ?_ ?_ | refine IsLim.bind ?_ (fun _ => ?_) | exact spec_A2Element.l0lim ..)
noncomputable def impl_degreeOf.l0d (x0 : Int) (x3 : Int) : Option (Int) := lim (fun k => impl_degreeOf.l0 k x0 x3)
theorem impl_degreeOf.l0lim (x0 : Int) (x3 : Int) : IsLim (fun k => impl_degreeOf.l0 k x0 x3) (impl_degreeOf.l0d x0 x3) := lim_spec (fun k => (impl_degreeOf.mono_l k) x0 x3)
theorem impl_degreeOf.l0d_eq (x0 : Int) (x3 : Int) : impl_degreeOf.l0d x0 x3 = if x0 > 0 then (impl_degreeOf.l0d (x0 / 2) (wrap64 (x3 + 1))) else (some x3) := by
  refine IsLim.unique (impl_degreeOf.l0lim _ _) ?_
  refine IsLim.shift (by rfl) ?_
  simp only [impl_degreeOf.l0]
  repeat' (first | exact IsLim.const _ | refine IsLim.ite ?_ ?_ | refine IsLim.bind ?_ (fun _ => ?_) | exact impl_degreeOf.l0lim ..)
noncomputable def impl_degreeOf.d (a0 : Int) : Option (Int) := lim (fun k => impl_degreeOf.f k a0)
theorem impl_degreeOf.lim (a0 : Int) : IsLim (fun k => impl_degreeOf.f k a0) (impl_degreeOf.d a0) := lim_spec (fun k => impl_degreeOf.mono a0 k)
theorem impl_degreeOf.d_eq (a0 : Int) : impl_degreeOf.d a0 = impl_degreeOf.l0d a0 (-1) := by
  refine IsLim.unique (impl_degreeOf.lim _) ?_
  unfold impl_degreeOf.f
  repeat' (first | exact IsLim.const _ | refine IsLim.ite ?_ ?_ | refine IsLim.bind ?_ (fun _ => ?_) | exact impl_degreeOf.l0lim ..)
noncomputable def impl_restOf.l0d (x0 : Int) (x1 : Int) (x5 : Int) : Option (Int) := lim (fun k => impl_restOf.l0 k x0 x1 x5)
theorem impl_restOf.l0lim (x0 : Int) (x1 : Int) (x5 : Int) : IsLim (fun k => impl_restOf.l0 k x0 x1 x5) (impl_restOf.l0d x0 x1 x5) := lim_spec (fun k => (impl_restOf.mono_l k) x0 x1 x5)
theorem impl_restOf.l0d_eq (x0 : Int) (x1 : Int) (x5 : Int) : impl_restOf.l0d x0 x1 x5 = (impl_degreeOf.d x0).bind fun t160 => (if t160 ≥ x5 then ((impl_degreeOf.d x0).bind fun t161 => (if 0 ≤ (wrap64 (t161 - x5)) then (impl_restOf.l0d (Go.bits .xor .i64 x0 (shl .i64 x1 (wrap64 (t161 - x5)))) x1 x5) else (none))) else (some x0)) := by
  refine IsLim.unique (impl_restOf.l0lim _ _ _) ?_
  refine IsLim.shift (by rfl) ?_
  simp only [impl_restOf.l0]
  repeat' (first | exact IsLim.const _ | refine IsLim.ite ?_ ?_ | refine IsLim.bind ?_ (fun _ => ?_) | exact impl_degreeOf.lim .. | exact impl_restOf.l0lim ..)
noncomputable def impl_restOf.d (a0 : Int) (a1 : Int) : Option (Int) := lim (fun k => impl_restOf.f k a0 a1)
theorem impl_restOf.lim (a0 : Int) (a1 : Int) : IsLim (fun k => impl_restOf.f k a0 a1) (impl_restOf.d a0 a1) := lim_spec (fun k => impl_restOf.mono a0 a1 k)
theorem impl_restOf.d_eq (a0 : Int) (a1 : Int) : impl_restOf.d a0 a1 = (impl_degreeOf.d a1).bind fun t159 => (impl_restOf.l0d a0 a1 t159) := by
  refine IsLim.unique (impl_restOf.lim _ _) ?_
  unfold impl_restOf.f
  repeat' (first | exact IsLim.const _ | refine IsLim.ite ?_ ?_ | refine IsLim.bind ?_ (fun _ => ?_) | exact impl_degreeOf.lim .. | exact impl_restOf.l0lim ..)
end Go.Proofs.Ytkedpfkdnhameaa.P
end
section
namespace Go.Proofs.Ytkedpfkdnhameaa.P
open Go.RowKit Go.Proofs.YtkedpfkdnhameaaW.PrintWords Go.Proofs.YtkedpfkdnhameaaW.PrintLast Go.Proofs.YtkedpfkdnhameaaW.PrintMore
set_option linter.unusedVariables false
set_option linter.unusedSimpArgs false
noncomputable def impl_IsIrreducible.j0d (x0 : Int) (x9 : Bool) : Option (Bool) := lim (fun k => impl_IsIrreducible.j0 k x0 x9)
theorem impl_IsIrreducible.j0lim (x0 : Int) (x9 : Bool) : IsLim (fun k => impl_IsIrreducible.j0 k x0 x9) (impl_IsIrreducible.j0d x0 x9) := lim_spec (fun k => (impl_IsIrreducible.mono_l k).1 x0 x9)
noncomputable def impl_IsIrreducible.l0d (x0 : Int) (x3 : Int) : Option (Bool) := lim (fun k => impl_IsIrreducible.l0 k x0 x3)
theorem impl_IsIrreducible.l0lim (x0 : Int) (x3 : Int) : IsLim (fun k => impl_IsIrreducible.l0 k x0 x3) (impl_IsIrreducible.l0d x0 x3) := lim_spec (fun k => (impl_IsIrreducible.mono_l k).2 x0 x3)
theorem impl_IsIrreducible.j0d_eq (x0 : Int) (x9 : Bool) : impl_IsIrreducible.j0d x0 x9 = if x9 = true then (some false) else (impl_IsIrreducible.l0d x0 2) := by
  refine IsLim.unique (impl_IsIrreducible.j0lim _ _) ?_
  refine IsLim.shift (by rfl) ?_
  simp only [impl_IsIrreducible.j0]
  repeat' (first | exact IsLim.const _ | refine IsLim.ite ?_ ?_ | refine IsLim.bind ?_ (fun _ => ?_) | exact impl_IsIrreducible.l0lim ..)
noncomputable def impl_IsIrreducible.d (a0 : Int) : Option (Bool) := lim (fun k => impl_IsIrreducible.f k a0)
theorem impl_IsIrreducible.lim (a0 : Int) : IsLim (fun k => impl_IsIrreducible.f k a0) (impl_IsIrreducible.d a0) := lim_spec (fun k => impl_IsIrreducible.mono a0 k)
theorem impl_IsIrreducible.d_eq (a0 : Int) : impl_IsIrreducible.d a0 = if a0 < 2 then (impl_IsIrreducible.j0d a0 true) else (impl_IsIrreducible.j0d a0 (decide (a0 ≥ 64))) := by
  refine IsLim.unique (impl_IsIrreducible.lim _) ?_
  unfold impl_IsIrreducible.f
  repeat' (first | exact IsLim.const _ | refine IsLim.ite ?_ ?_ | refine IsLim.bind ?_ (fun _ => ?_) | exact impl_IsIrreducible.j0lim ..)
noncomputable def impl_ValidField.d (a0_0 : Int) (a0_1 : Int) : Option (Bool) := lim (fun k => impl_ValidField.f k a0_0 a0_1)
theorem impl_ValidField.lim (a0_0 : Int) (a0_1 : Int) : IsLim (fun k => impl_ValidField.f k a0_0 a0_1) (impl_ValidField.d a0_0 a0_1) := lim_spec (fun k => impl_ValidField.mono a0_0 a0_1 k)
theorem impl_ValidField.d_eq (a0_0 : Int) (a0_1 : Int) : impl_ValidField.d a0_0 a0_1 = (impl_within.f a0_0 1 5).bind fun t166 => (if t166 = true then ((impl_IsIrreducible.d a0_1).bind fun t167 => (if t167 = true then ((impl_degreeOf.d a0_1).bind fun t168 => (some (t168 == a0_0))) else (some false))) else (some false)) := by
  refine IsLim.unique (impl_ValidField.lim _ _) ?_
  unfold impl_ValidField.f
  repeat' (first | exact IsLim.const _ | refine IsLim.ite ?_ ?_ | refine IsLim.bind ?_ (fun _ => ?_) | exact impl_IsIrreducible.lim .. | exact impl_degreeOf.lim ..)
noncomputable def slices_IndexFunc_int64_int64_AT_impl_Field_has_1.l0d (x0 : List Int) (x7 : Int) (x8 : Int) (x49000 : Int) (x49001 : Int) : Option (Int) := lim (fun k => slices_IndexFunc_int64_int64_AT_impl_Field_has_1.l0 k x0 x7 x8 x49000 x49001)
theorem slices_IndexFunc_int64_int64_AT_impl_Field_has_1.l0lim (x0 : List Int) (x7 : Int) (x8 : Int) (x49000 : Int) (x49001 : Int) : IsLim (fun k => slices_IndexFunc_int64_int64_AT_impl_Field_has_1.l0 k x0 x7 x8 x49000 x49001) (slices_IndexFunc_int64_int64_AT_impl_Field_has_1.l0d x0 x7 x8 x49000 x49001) := lim_spec (fun k => (slices_IndexFunc_int64_int64_AT_impl_Field_has_1.mono_l k) x0 x7 x8 x49000 x49001)
theorem slices_IndexFunc_int64_int64_AT_impl_Field_has_1.l0d_eq (x0 : List Int) (x7 : Int) (x8 : Int) (x49000 : Int) (x49001 : Int) : slices_IndexFunc_int64_int64_AT_impl_Field_has_1.l0d x0 x7 x8 x49000 x49001 = if x8 < x7 then (if 0 ≤ x8 then (if x8 < (x0.length : Int) then ((impl_Field_has_1.f (rd x0 x8) x49000 x49001).bind fun t173 => (if t173 = true then (some x8) else (slices_IndexFunc_int64_int64_AT_impl_Field_has_1.l0d x0 x7 (wrap64 (x8 + 1)) x49000 x49001))) else (none)) else (none)) else (some (-1)) := by
  refine IsLim.unique (slices_IndexFunc_int64_int64_AT_impl_Field_has_1.l0lim _ _ _ _ _) ?_
  refine IsLim.shift (by rfl) ?_
  simp only [slices_IndexFunc_int64_int64_AT_impl_Field_has_1.l0]
  repeat' (first | exact IsLim.const _ | refine IsLim.ite ?_ ?_ | refine IsLim.bind ?_ (fun _ => ?_) | exact slices_IndexFunc_int64_int64_AT_impl_Field_has_1.l0lim ..)
noncomputable def slices_IndexFunc_int64_int64_AT_impl_Field_has_1.d (l0 : List Int) (a1_0 : Int) (a1_1 : Int) : Option (Int) := lim (fun k => slices_IndexFunc_int64_int64_AT_impl_Field_has_1.f k l0 a1_0 a1_1)
theorem slices_IndexFunc_int64_int64_AT_impl_Field_has_1.lim (l0 : List Int) (a1_0 : Int) (a1_1 : Int) : IsLim (fun k => slices_IndexFunc_int64_int64_AT_impl_Field_has_1.f k l0 a1_0 a1_1) (slices_IndexFunc_int64_int64_AT_impl_Field_has_1.d l0 a1_0 a1_1) := lim_spec (fun k => slices_IndexFunc_int64_int64_AT_impl_Field_has_1.mono l0 a1_0 a1_1 k)
theorem slices_IndexFunc_int64_int64_AT_impl_Field_has_1.d_eq (l0 : List Int) (a1_0 : Int) (a1_1 : Int) : slices_IndexFunc_int64_int64_AT_impl_Field_has_1.d l0 a1_0 a1_1 = slices_IndexFunc_int64_int64_AT_impl_Field_has_1.l0d l0 (l0.length : Int) 0 a1_0 a1_1 := by
  refine IsLim.unique (slices_IndexFunc_int64_int64_AT_impl_Field_has_1.lim _ _ _) ?_
  unfold slices_IndexFunc_int64_int64_AT_impl_Field_has_1.f
  repeat' (first | exact IsLim.const _ | refine IsLim.ite ?_ ?_ | refine IsLim.bind ?_ (fun _ => ?_) | exact slices_IndexFunc_int64_int64_AT_impl_Field_has_1.l0lim ..)
noncomputable def slices_ContainsFunc_int64_int64_AT_impl_Field_has_1.d (l0 : List Int) (a1_0 : Int) (a1_1 : Int) : Option (Bool) := lim (fun k => slices_ContainsFunc_int64_int64_AT_impl_Field_has_1.f k l0 a1_0 a1_1)
theorem slices_ContainsFunc_int64_int64_AT_impl_Field_has_1.lim (l0 : List Int) (a1_0 : Int) (a1_1 : Int) : IsLim (fun k => slices_ContainsFunc_int64_int64_AT_impl_Field_has_1.f k l0 a1_0 a1_1) (slices_ContainsFunc_int64_int64_AT_impl_Field_has_1.d l0 a1_0 a1_1) := lim_spec (fun k => slices_ContainsFunc_int64_int64_AT_impl_Field_has_1.mono l0 a1_0 a1_1 k)
theorem slices_ContainsFunc_int64_int64_AT_impl_Field_has_1.d_eq (l0 : List Int) (a1_0 : Int) (a1_1 : Int) : slices_ContainsFunc_int64_int64_AT_impl_Field_has_1.d l0 a1_0 a1_1 = (slices_IndexFunc_int64_int64_AT_impl_Field_has_1.d l0 a1_0 a1_1).bind fun t174 => (some (decide (t174 ≥ 0))) := by
  refine IsLim.unique (slices_ContainsFunc_int64_int64_AT_impl_Field_has_1.lim _ _ _) ?_
  unfold slices_ContainsFunc_int64_int64_AT_impl_Field_has_1.f
  repeat' (first | exact IsLim.const _ | refine IsLim.ite ?_ ?_ | refine IsLim.bind ?_ (fun _ => ?_) | exact slices_IndexFunc_int64_int64_AT_impl_Field_has_1.lim ..)
noncomputable def impl_Field_has.d (a0_0 : Int) (a0_1 : Int) (l1 : List Int) : Option (Bool) := lim (fun k => impl_Field_has.f k a0_0 a0_1 l1)
theorem impl_Field_has.lim (a0_0 : Int) (a0_1 : Int) (l1 : List Int) : IsLim (fun k => impl_Field_has.f k a0_0 a0_1 l1) (impl_Field_has.d a0_0 a0_1 l1) := lim_spec (fun k => impl_Field_has.mono a0_0 a0_1 l1 k)
theorem impl_Field_has.d_eq (a0_0 : Int) (a0_1 : Int) (l1 : List Int) : impl_Field_has.d a0_0 a0_1 l1 = (slices_ContainsFunc_int64_int64_AT_impl_Field_has_1.d l1 a0_0 a0_1).bind fun t176 => (some (!t176)) := by
  refine IsLim.unique (impl_Field_has.lim _ _ _) ?_
  unfold impl_Field_has.f
  repeat' (first | exact IsLim.const _ | refine IsLim.ite ?_ ?_ | refine IsLim.bind ?_ (fun _ => ?_) | exact slices_ContainsFunc_int64_int64_AT_impl_Field_has_1.lim ..)
end Go.Proofs.Ytkedpfkdnhameaa.P
end
section
namespace Go.Proofs.Ytkedpfkdnhameaa.P
open Go.RowKit Go.Proofs.YtkedpfkdnhameaaW.PrintWords Go.Proofs.YtkedpfkdnhameaaW.PrintLast Go.Proofs.YtkedpfkdnhameaaW.PrintMore
set_option linter.unusedVariables false
set_option linter.unusedSimpArgs false
noncomputable def impl_Field_code.d (a0_0 : Int) (a0_1 : Int) (a1 : Bool) (l2 : List Int) : Option (Int) := lim (fun k => impl_Field_code.f k a0_0 a0_1 a1 l2)
theorem impl_Field_code.lim (a0_0 : Int) (a0_1 : Int) (a1 : Bool) (l2 : List Int) : IsLim (fun k => impl_Field_code.f k a0_0 a0_1 a1 l2) (impl_Field_code.d a0_0 a0_1 a1 l2) := lim_spec (fun k => impl_Field_code.mono a0_0 a0_1 a1 l2 k)
theorem impl_Field_code.d_eq (a0_0 : Int) (a0_1 : Int) (a1 : Bool) (l2 : List Int) : impl_Field_code.d a0_0 a0_1 a1 l2 = (impl_ValidField.d a0_0 a0_1).bind fun t178 => (if t178 = true then ((impl_Field_has.d a0_0 a0_1 l2).bind fun t179 => (if t179 = true then (if a1 = true then (some 0) else (some 2)) else (some 2))) else (some 1)) := by
  refine IsLim.unique (impl_Field_code.lim _ _ _ _) ?_
  unfold impl_Field_code.f
  repeat' (first | exact IsLim.const _ | refine IsLim.ite ?_ ?_ | refine IsLim.bind ?_ (fun _ => ?_) | exact impl_ValidField.lim .. | exact impl_Field_has.lim ..)
noncomputable def impl_product.l0d (x0 : Int) (x1 : Int) (x5 : Int) : Option (Int) := lim (fun k => impl_product.l0 k x0 x1 x5)
theorem impl_product.l0lim (x0 : Int) (x1 : Int) (x5 : Int) : IsLim (fun k => impl_product.l0 k x0 x1 x5) (impl_product.l0d x0 x1 x5) := lim_spec (fun k => (impl_product.mono_l k) x0 x1 x5)
theorem impl_product.l0d_eq (x0 : Int) (x1 : Int) (x5 : Int) : impl_product.l0d x0 x1 x5 = if x1 > 0 then (if (Go.bits .and .i64 x1 1) = 1 then (impl_product.l0d (wrap64 (x0 * 2)) (x1 / 2) (Go.bits .xor .i64 x5 x0)) else (impl_product.l0d (wrap64 (x0 * 2)) (x1 / 2) x5)) else (some x5) := by
  refine IsLim.unique (impl_product.l0lim _ _ _) ?_
  refine IsLim.shift (by rfl) ?_
  simp only [impl_product.l0]
  repeat' (first | exact IsLim.const _ | refine IsLim.ite ?_ ?_ | refine IsLim.bind ?_ (fun _ => ?_) | exact impl_product.l0lim ..)
noncomputable def impl_product.d (a0 : Int) (a1 : Int) : Option (Int) := lim (fun k => impl_product.f k a0 a1)
theorem impl_product.lim (a0 : Int) (a1 : Int) : IsLim (fun k => impl_product.f k a0 a1) (impl_product.d a0 a1) := lim_spec (fun k => impl_product.mono a0 a1 k)
theorem impl_product.d_eq (a0 : Int) (a1 : Int) : impl_product.d a0 a1 = impl_product.l0d a0 a1 0 := by
  refine IsLim.unique (impl_product.lim _ _) ?_
  unfold impl_product.f
  repeat' (first | exact IsLim.const _ | refine IsLim.ite ?_ ?_ | refine IsLim.bind ?_ (fun _ => ?_) | exact impl_product.l0lim ..)
noncomputable def impl_Field_mul.d (a0_0 : Int) (a0_1 : Int) (a1 : Int) (a2 : Int) : Option (Int) := lim (fun k => impl_Field_mul.f k a0_0 a0_1 a1 a2)
theorem impl_Field_mul.lim (a0_0 : Int) (a0_1 : Int) (a1 : Int) (a2 : Int) : IsLim (fun k => impl_Field_mul.f k a0_0 a0_1 a1 a2) (impl_Field_mul.d a0_0 a0_1 a1 a2) := lim_spec (fun k => impl_Field_mul.mono a0_0 a0_1 a1 a2 k)
theorem impl_Field_mul.d_eq (a0_0 : Int) (a0_1 : Int) (a1 : Int) (a2 : Int) : impl_Field_mul.d a0_0 a0_1 a1 a2 = (impl_product.d a1 a2).bind fun t181 => ((impl_restOf.d t181 a0_1).bind fun t182 => (some t182)) := by
  refine IsLim.unique (impl_Field_mul.lim _ _ _ _) ?_
  unfold impl_Field_mul.f
  repeat' (first | exact IsLim.const _ | refine IsLim.ite ?_ ?_ | refine IsLim.bind ?_ (fun _ => ?_) | exact impl_product.lim .. | exact impl_restOf.lim ..)
noncomputable def impl_ConjugatesIn.d (a0_0 : Int) (a0_1 : Int) (a1 : Int) : Option (List Int × Int) := lim (fun k => impl_ConjugatesIn.f k a0_0 a0_1 a1)
theorem impl_ConjugatesIn.lim (a0_0 : Int) (a0_1 : Int) (a1 : Int) : IsLim (fun k => impl_ConjugatesIn.f k a0_0 a0_1 a1) (impl_ConjugatesIn.d a0_0 a0_1 a1) := lim_spec (fun k => impl_ConjugatesIn.mono a0_0 a0_1 a1 k)
end Go.Proofs.Ytkedpfkdnhameaa.P
end
section
namespace Go.Proofs.Ytkedpfkdnhameaa.P
open Go.RowKit Go.Proofs.YtkedpfkdnhameaaW.PrintWords Go.Proofs.YtkedpfkdnhameaaW.PrintLast Go.Proofs.YtkedpfkdnhameaaW.PrintMore
set_option linter.unusedVariables false
set_option linter.unusedSimpArgs false
noncomputable def impl_MinimalPoly.d (a0_0 : Int) (a0_1 : Int) (a1 : Int) : Option (Int × Int) := lim (fun k => impl_MinimalPoly.f k a0_0 a0_1 a1)
theorem impl_MinimalPoly.lim (a0_0 : Int) (a0_1 : Int) (a1 : Int) : IsLim (fun k => impl_MinimalPoly.f k a0_0 a0_1 a1) (impl_MinimalPoly.d a0_0 a0_1 a1) := lim_spec (fun k => impl_MinimalPoly.mono a0_0 a0_1 a1 k)
end Go.Proofs.Ytkedpfkdnhameaa.P
end
section
namespace Go.Proofs.Ytkedpfkdnhameaa.P
open Go.RowKit Go.Proofs.YtkedpfkdnhameaaW.PrintWords Go.Proofs.YtkedpfkdnhameaaW.PrintLast Go.Proofs.YtkedpfkdnhameaaW.PrintMore
set_option linter.unusedVariables false
set_option linter.unusedSimpArgs false
noncomputable def laws_a2Below.l0d (x0 : List Int) (x1 : Int) (x5 : Int) : Option (Bool) := lim (fun k => laws_a2Below.l0 k x0 x1 x5)
theorem laws_a2Below.l0lim (x0 : List Int) (x1 : Int) (x5 : Int) : IsLim (fun k => laws_a2Below.l0 k x0 x1 x5) (laws_a2Below.l0d x0 x1 x5) := lim_spec (fun k => (laws_a2Below.mono_l k) x0 x1 x5)
theorem laws_a2Below.l0d_eq (x0 : List Int) (x1 : Int) (x5 : Int) : laws_a2Below.l0d x0 x1 x5 = if x5 < (x0.length : Int) then (if 0 ≤ x5 then (if (rd x0 x5) < 0 then (some false) else (if (rd x0 x5) ≥ x1 then (some false) else (laws_a2Below.l0d x0 x1 (wrap64 (x5 + 1))))) else (none)) else (some true) := by
  refine IsLim.unique (laws_a2Below.l0lim _ _ _) ?_
  refine IsLim.shift (by rfl) ?_
  simp only [laws_a2Below.l0]
  repeat' (first | exact IsLim.const _ | refine IsLim.ite ?_ ?_ | refine IsLim.bind ?_ (fun _ => ?_) | exact laws_a2Below.l0lim ..)
noncomputable def laws_a2Below.d (l0 : List Int) (a1 : Int) : Option (Bool) := lim (fun k => laws_a2Below.f k l0 a1)
theorem laws_a2Below.lim (l0 : List Int) (a1 : Int) : IsLim (fun k => laws_a2Below.f k l0 a1) (laws_a2Below.d l0 a1) := lim_spec (fun k => laws_a2Below.mono l0 a1 k)
theorem laws_a2Below.d_eq (l0 : List Int) (a1 : Int) : laws_a2Below.d l0 a1 = laws_a2Below.l0d l0 a1 0 := by
  refine IsLim.unique (laws_a2Below.lim _ _) ?_
  unfold laws_a2Below.f
  repeat' (first | exact IsLim.const _ | refine IsLim.ite ?_ ?_ | refine IsLim.bind ?_ (fun _ => ?_) | exact laws_a2Below.l0lim ..)
noncomputable def impl_Field_power.l0d (x1 : Int) (x2 : Int) (x7 : Int) (x226000 : Int) (x226001 : Int) : Option (Int) := lim (fun k => impl_Field_power.l0 k x1 x2 x7 x226000 x226001)
theorem impl_Field_power.l0lim (x1 : Int) (x2 : Int) (x7 : Int) (x226000 : Int) (x226001 : Int) : IsLim (fun k => impl_Field_power.l0 k x1 x2 x7 x226000 x226001) (impl_Field_power.l0d x1 x2 x7 x226000 x226001) := lim_spec (fun k => (impl_Field_power.mono_l k) x1 x2 x7 x226000 x226001)
theorem impl_Field_power.l0d_eq (x1 : Int) (x2 : Int) (x7 : Int) (x226000 : Int) (x226001 : Int) : impl_Field_power.l0d x1 x2 x7 x226000 x226001 = if x2 > 0 then (if (Go.bits .and .i64 x2 1) = 1 then ((impl_Field_mul.d x226000 x226001 x7 x1).bind fun t226 => ((impl_Field_mul.d x226000 x226001 x1 x1).bind fun t227 => (impl_Field_power.l0d t227 (x2 / 2) t226 x226000 x226001))) else ((impl_Field_mul.d x226000 x226001 x1 x1).bind fun t228 => (impl_Field_power.l0d t228 (x2 / 2) x7 x226000 x226001))) else (some x7) := by
  refine IsLim.unique (impl_Field_power.l0lim _ _ _ _ _) ?_
  refine IsLim.shift (by rfl) ?_
  simp only [impl_Field_power.l0]
  repeat' (first | exact IsLim.const _ | refine IsLim.ite ?_ ?_ | refine IsLim.bind ?_ (fun _ => ?_) | exact impl_Field_mul.lim .. | exact impl_Field_power.l0lim ..)
noncomputable def impl_Field_power.d (a0_0 : Int) (a0_1 : Int) (a1 : Int) (a2 : Int) : Option (Int) := lim (fun k => impl_Field_power.f k a0_0 a0_1 a1 a2)
theorem impl_Field_power.lim (a0_0 : Int) (a0_1 : Int) (a1 : Int) (a2 : Int) : IsLim (fun k => impl_Field_power.f k a0_0 a0_1 a1 a2) (impl_Field_power.d a0_0 a0_1 a1 a2) := lim_spec (fun k => impl_Field_power.mono a0_0 a0_1 a1 a2 k)
theorem impl_Field_power.d_eq (a0_0 : Int) (a0_1 : Int) (a1 : Int) (a2 : Int) : impl_Field_power.d a0_0 a0_1 a1 a2 = impl_Field_power.l0d a1 a2 1 a0_0 a0_1 := by
  refine IsLim.unique (impl_Field_power.lim _ _ _ _) ?_
  unfold impl_Field_power.f
  repeat' (first | exact IsLim.const _ | refine IsLim.ite ?_ ?_ | refine IsLim.bind ?_ (fun _ => ?_) | exact impl_Field_power.l0lim ..)
noncomputable def impl_PowerIn.d (a0_0 : Int) (a0_1 : Int) (a1 : Int) (a2 : Int) : Option (Int × Int) := lim (fun k => impl_PowerIn.f k a0_0 a0_1 a1 a2)
theorem impl_PowerIn.lim (a0_0 : Int) (a0_1 : Int) (a1 : Int) (a2 : Int) : IsLim (fun k => impl_PowerIn.f k a0_0 a0_1 a1 a2) (impl_PowerIn.d a0_0 a0_1 a1 a2) := lim_spec (fun k => impl_PowerIn.mono a0_0 a0_1 a1 a2 k)
theorem impl_PowerIn.d_eq (a0_0 : Int) (a0_1 : Int) (a1 : Int) (a2 : Int) : impl_PowerIn.d a0_0 a0_1 a1 a2 = (impl_within.f a2 0 1000).bind fun t230 => ((impl_Field_code.d a0_0 a0_1 t230 (([a1] : List Int))).bind fun t234 => (if t234 = 0 then ((impl_Field_power.d a0_0 a0_1 a1 a2).bind fun t235 => (some (t235, 0))) else (some (0, t234)))) := by
  refine IsLim.unique (impl_PowerIn.lim _ _ _ _) ?_
  unfold impl_PowerIn.f
  repeat' (first | exact IsLim.const _ | refine IsLim.ite ?_ ?_ | refine IsLim.bind ?_ (fun _ => ?_) | exact impl_Field_code.lim .. | exact impl_Field_power.lim ..)
end Go.Proofs.Ytkedpfkdnhameaa.P
end
section
namespace Go.Proofs.Ytkedpfkdnhameaa.P
open Go.RowKit Go.Proofs.YtkedpfkdnhameaaW.PrintWords Go.Proofs.YtkedpfkdnhameaaW.PrintLast Go.Proofs.YtkedpfkdnhameaaW.PrintMore
set_option linter.unusedVariables false
set_option linter.unusedSimpArgs false
noncomputable def impl_TraceIn.d (a0_0 : Int) (a0_1 : Int) (a1 : Int) : Option (Int × Int) := lim (fun k => impl_TraceIn.f k a0_0 a0_1 a1)
theorem impl_TraceIn.lim (a0_0 : Int) (a0_1 : Int) (a1 : Int) : IsLim (fun k => impl_TraceIn.f k a0_0 a0_1 a1) (impl_TraceIn.d a0_0 a0_1 a1) := lim_spec (fun k => impl_TraceIn.mono a0_0 a0_1 a1 k)
noncomputable def impl_SplitIn.d (a0_0 : Int) (a0_1 : Int) (a1 : Int) : Option (Int × Int) := lim (fun k => impl_SplitIn.f k a0_0 a0_1 a1)
theorem impl_SplitIn.lim (a0_0 : Int) (a0_1 : Int) (a1 : Int) : IsLim (fun k => impl_SplitIn.f k a0_0 a0_1 a1) (impl_SplitIn.d a0_0 a0_1 a1) := lim_spec (fun k => impl_SplitIn.mono a0_0 a0_1 a1 k)
noncomputable def impl_MulIn.d (a0_0 : Int) (a0_1 : Int) (a1 : Int) (a2 : Int) : Option (Int × Int) := lim (fun k => impl_MulIn.f k a0_0 a0_1 a1 a2)
theorem impl_MulIn.lim (a0_0 : Int) (a0_1 : Int) (a1 : Int) (a2 : Int) : IsLim (fun k => impl_MulIn.f k a0_0 a0_1 a1 a2) (impl_MulIn.d a0_0 a0_1 a1 a2) := lim_spec (fun k => impl_MulIn.mono a0_0 a0_1 a1 a2 k)
theorem impl_MulIn.d_eq (a0_0 : Int) (a0_1 : Int) (a1 : Int) (a2 : Int) : impl_MulIn.d a0_0 a0_1 a1 a2 = (impl_Field_code.d a0_0 a0_1 true (([a1, a2] : List Int))).bind fun t268 => (if t268 = 0 then ((impl_Field_mul.d a0_0 a0_1 a1 a2).bind fun t269 => (some (t269, 0))) else (some (0, t268))) := by
  refine IsLim.unique (impl_MulIn.lim _ _ _ _) ?_
  unfold impl_MulIn.f
  repeat' (first | exact IsLim.const _ | refine IsLim.ite ?_ ?_ | refine IsLim.bind ?_ (fun _ => ?_) | exact impl_Field_code.lim .. | exact impl_Field_mul.lim ..)
end Go.Proofs.Ytkedpfkdnhameaa.P
end
section
namespace Go.Proofs.Ytkedpfkdnhameaa.P
open Go.RowKit Go.Proofs.YtkedpfkdnhameaaW.PrintWords Go.Proofs.YtkedpfkdnhameaaW.PrintLast Go.Proofs.YtkedpfkdnhameaaW.PrintMore
set_option linter.unusedVariables false
set_option linter.unusedSimpArgs false
noncomputable def laws_FnConjugates.j0d (x6 : Int) (x7 : Int) (x8 : Int) (x9 : List Int) (x11 : Int) (x97 : Bool) (x274000 : Int) (x274001 : Int) : Option (Bool) := lim (fun k => laws_FnConjugates.j0 k x6 x7 x8 x9 x11 x97 x274000 x274001)
theorem laws_FnConjugates.j0lim (x6 : Int) (x7 : Int) (x8 : Int) (x9 : List Int) (x11 : Int) (x97 : Bool) (x274000 : Int) (x274001 : Int) : IsLim (fun k => laws_FnConjugates.j0 k x6 x7 x8 x9 x11 x97 x274000 x274001) (laws_FnConjugates.j0d x6 x7 x8 x9 x11 x97 x274000 x274001) := lim_spec (fun k => (laws_FnConjugates.mono_l k).1 x6 x7 x8 x9 x11 x97 x274000 x274001)
noncomputable def laws_FnConjugates.l0d (x6 : Int) (x7 : Int) (x8 : Int) (x9 : List Int) (x11 : Int) (x13 : Int) (x274000 : Int) (x274001 : Int) : Option (Bool) := lim (fun k => laws_FnConjugates.l0 k x6 x7 x8 x9 x11 x13 x274000 x274001)
theorem laws_FnConjugates.l0lim (x6 : Int) (x7 : Int) (x8 : Int) (x9 : List Int) (x11 : Int) (x13 : Int) (x274000 : Int) (x274001 : Int) : IsLim (fun k => laws_FnConjugates.l0 k x6 x7 x8 x9 x11 x13 x274000 x274001) (laws_FnConjugates.l0d x6 x7 x8 x9 x11 x13 x274000 x274001) := lim_spec (fun k => (laws_FnConjugates.mono_l k).2.1 x6 x7 x8 x9 x11 x13 x274000 x274001)
noncomputable def laws_FnConjugates.l1d (x6 : Int) (x7 : Int) (x8 : Int) (x9 : List Int) (x11 : Int) (x13 : Int) (x14 : Int) (x15 : Int) (x16 : Int) (x17 : Int) (x274000 : Int) (x274001 : Int) : Option (Bool) := lim (fun k => laws_FnConjugates.l1 k x6 x7 x8 x9 x11 x13 x14 x15 x16 x17 x274000 x274001)
theorem laws_FnConjugates.l1lim (x6 : Int) (x7 : Int) (x8 : Int) (x9 : List Int) (x11 : Int) (x13 : Int) (x14 : Int) (x15 : Int) (x16 : Int) (x17 : Int) (x274000 : Int) (x274001 : Int) : IsLim (fun k => laws_FnConjugates.l1 k x6 x7 x8 x9 x11 x13 x14 x15 x16 x17 x274000 x274001) (laws_FnConjugates.l1d x6 x7 x8 x9 x11 x13 x14 x15 x16 x17 x274000 x274001) := lim_spec (fun k => (laws_FnConjugates.mono_l k).2.2.1 x6 x7 x8 x9 x11 x13 x14 x15 x16 x17 x274000 x274001)
noncomputable def laws_FnConjugates.l2d (x6 : Int) (x7 : Int) (x8 : Int) (x20 : Int) (x21 : Int) (x274000 : Int) (x274001 : Int) : Option (Bool) := lim (fun k => laws_FnConjugates.l2 k x6 x7 x8 x20 x21 x274000 x274001)
theorem laws_FnConjugates.l2lim (x6 : Int) (x7 : Int) (x8 : Int) (x20 : Int) (x21 : Int) (x274000 : Int) (x274001 : Int) : IsLim (fun k => laws_FnConjugates.l2 k x6 x7 x8 x20 x21 x274000 x274001) (laws_FnConjugates.l2d x6 x7 x8 x20 x21 x274000 x274001) := lim_spec (fun k => (laws_FnConjugates.mono_l k).2.2.2.1 x6 x7 x8 x20 x21 x274000 x274001)
noncomputable def laws_FnConjugates.j4d (x6 : Int) (x7 : Int) (x8 : Int) (x20 : Int) (x21 : Int) (x22 : Int) (x24 : Int) (x184 : Bool) (x274000 : Int) (x274001 : Int) : Option (Bool) := lim (fun k => laws_FnConjugates.j4 k x6 x7 x8 x20 x21 x22 x24 x184 x274000 x274001)
theorem laws_FnConjugates.j4lim (x6 : Int) (x7 : Int) (x8 : Int) (x20 : Int) (x21 : Int) (x22 : Int) (x24 : Int) (x184 : Bool) (x274000 : Int) (x274001 : Int) : IsLim (fun k => laws_FnConjugates.j4 k x6 x7 x8 x20 x21 x22 x24 x184 x274000 x274001) (laws_FnConjugates.j4d x6 x7 x8 x20 x21 x22 x24 x184 x274000 x274001) := lim_spec (fun k => (laws_FnConjugates.mono_l k).2.2.2.2.1 x6 x7 x8 x20 x21 x22 x24 x184 x274000 x274001)
noncomputable def laws_FnConjugates.j5d (x6 : Int) (x7 : Int) (x8 : Int) (x20 : Int) (x21 : Int) (x24 : Int) (x196 : Bool) (x274000 : Int) (x274001 : Int) : Option (Bool) := lim (fun k => laws_FnConjugates.j5 k x6 x7 x8 x20 x21 x24 x196 x274000 x274001)
theorem laws_FnConjugates.j5lim (x6 : Int) (x7 : Int) (x8 : Int) (x20 : Int) (x21 : Int) (x24 : Int) (x196 : Bool) (x274000 : Int) (x274001 : Int) : IsLim (fun k => laws_FnConjugates.j5 k x6 x7 x8 x20 x21 x24 x196 x274000 x274001) (laws_FnConjugates.j5d x6 x7 x8 x20 x21 x24 x196 x274000 x274001) := lim_spec (fun k => (laws_FnConjugates.mono_l k).2.2.2.2.2 x6 x7 x8 x20 x21 x24 x196 x274000 x274001)
theorem laws_FnConjugates.j0d_eq (x6 : Int) (x7 : Int) (x8 : Int) (x9 : List Int) (x11 : Int) (x97 : Bool) (x274000 : Int) (x274001 : Int) : laws_FnConjugates.j0d x6 x7 x8 x9 x11 x97 x274000 x274001 = if x97 = true then (some false) else (laws_FnConjugates.l0d x6 x7 x8 x9 x11 0 x274000 x274001) := by
  refine IsLim.unique (laws_FnConjugates.j0lim _ _ _ _ _ _ _ _) ?_
  refine IsLim.shift (by rfl) ?_
  simp only [laws_FnConjugates.j0]
  repeat' (first | exact IsLim.const _ | refine IsLim.ite ?_ ?_ | refine IsLim.bind ?_ (fun _ => ?_) | exact laws_FnConjugates.l0lim ..)
theorem laws_FnConjugates.l0d_eq (x6 : Int) (x7 : Int) (x8 : Int) (x9 : List Int) (x11 : Int) (x13 : Int) (x274000 : Int) (x274001 : Int) : laws_FnConjugates.l0d x6 x7 x8 x9 x11 x13 x274000 x274001 = if x13 < (x9.length : Int) then (if 0 ≤ x13 then ((impl_MinimalPoly.d x274000 x274001 (rd x9 x13)).bind fun bt286 => (laws_FnConjugates.l1d x6 x7 x8 x9 x11 x13 bt286.1 bt286.2 0 0 x274000 x274001)) else (none)) else (laws_FnConjugates.l2d x6 x7 x8 0 0 x274000 x274001) := by
  refine IsLim.unique (laws_FnConjugates.l0lim _ _ _ _ _ _ _ _) ?_
  refine IsLim.shift (by rfl) ?_
  simp only [laws_FnConjugates.l0]
  repeat' (first | exact IsLim.const _ | refine IsLim.ite ?_ ?_ | refine IsLim.bind ?_ (fun _ => ?_) | exact impl_MinimalPoly.lim .. | exact laws_FnConjugates.l1lim .. | exact laws_FnConjugates.l2lim ..)
theorem laws_FnConjugates.l1d_eq (x6 : Int) (x7 : Int) (x8 : Int) (x9 : List Int) (x11 : Int) (x13 : Int) (x14 : Int) (x15 : Int) (x16 : Int) (x17 : Int) (x274000 : Int) (x274001 : Int) : laws_FnConjugates.l1d x6 x7 x8 x9 x11 x13 x14 x15 x16 x17 x274000 x274001 = if x17 ≤ (x9.length : Int) then (if 0 ≤ (IntKind.u64.wrap (x17)) then (if (Go.bits .and .i64 (shr .i64 x11 (IntKind.u64.wrap (x17))) 1) = 1 then (if 0 ≤ x13 then (if x13 < (x9.length : Int) then ((impl_PowerIn.d x274000 x274001 (rd x9 x13) x17).bind fun bt289 => (if bt289.2 = 0 then (laws_FnConjugates.l1d x6 x7 x8 x9 x11 x13 x14 x15 (Go.bits .xor .i64 x16 bt289.1) (wrap64 (x17 + 1)) x274000 x274001) else (some false))) else (none)) else (none)) else (laws_FnConjugates.l1d x6 x7 x8 x9 x11 x13 x14 x15 x16 (wrap64 (x17 + 1)) x274000 x274001)) else (none)) else (if x15 = 0 then (if x14 = x11 then (if x16 = 0 then (laws_FnConjugates.l0d x6 x7 x8 x9 x11 (wrap64 (x13 + 1)) x274000 x274001) else (some false)) else (some false)) else (some false)) := by
  refine IsLim.unique (laws_FnConjugates.l1lim _ _ _ _ _ _ _ _ _ _ _ _) ?_
  refine IsLim.shift (by rfl) ?_
  simp only [laws_FnConjugates.l1]
  repeat' (first | exact IsLim.const _ | refine IsLim.ite ?_ ?_ | refine IsLim.bind ?_ (fun _ => ?_) | exact impl_PowerIn.lim .. | exact laws_FnConjugates.l1lim .. | exact laws_FnConjugates.l0lim ..)
theorem laws_FnConjugates.l2d_eq (x6 : Int) (x7 : Int) (x8 : Int) (x20 : Int) (x21 : Int) (x274000 : Int) (x274001 : Int) : laws_FnConjugates.l2d x6 x7 x8 x20 x21 x274000 x274001 = if x21 < x6 then ((impl_TraceIn.d x274000 x274001 x21).bind fun bt297 => ((impl_SplitIn.d x274000 x274001 x21).bind fun bt299 => (if bt297.2 = 0 then (if bt297.1 = 0 then (laws_FnConjugates.j4d x6 x7 x8 x20 x21 bt297.1 bt299.1 ((bt299.2 == 0) != (bt297.1 == 0)) x274000 x274001) else (if bt297.1 = 1 then (laws_FnConjugates.j4d x6 x7 x8 x20 x21 bt297.1 bt299.1 ((bt299.2 == 0) != (bt297.1 == 0)) x274000 x274001) else (laws_FnConjugates.j4d x6 x7 x8 x20 x21 bt297.1 bt299.1 true x274000 x274001))) else (laws_FnConjugates.j4d x6 x7 x8 x20 x21 bt297.1 bt299.1 true x274000 x274001)))) else ((impl_TraceIn.d x274000 x274001 x7).bind fun bt291 => ((impl_TraceIn.d x274000 x274001 x8).bind fun bt293 => ((impl_TraceIn.d x274000 x274001 (Go.bits .xor .i64 x7 x8)).bind fun bt295 => (if bt291.2 = 0 then (if bt293.2 = 0 then (if bt295.2 = 0 then (if bt295.1 = (Go.bits .xor .i64 bt291.1 bt293.1) then (some ((wrap64 (2 * x20)) == x6)) else (some false)) else (some false)) else (some false)) else (some false))))) := by
  refine IsLim.unique (laws_FnConjugates.l2lim _ _ _ _ _ _ _) ?_
  refine IsLim.shift (by rfl) ?_
  simp only [laws_FnConjugates.l2]
  repeat' (first | exact IsLim.const _ | refine IsLim.ite ?_ ?_ | refine IsLim.bind ?_ (fun _ => ?_) | exact impl_TraceIn.lim .. | exact impl_SplitIn.lim .. | exact laws_FnConjugates.j4lim ..)
theorem laws_FnConjugates.j4d_eq (x6 : Int) (x7 : Int) (x8 : Int) (x20 : Int) (x21 : Int) (x22 : Int) (x24 : Int) (x184 : Bool) (x274000 : Int) (x274001 : Int) : laws_FnConjugates.j4d x6 x7 x8 x20 x21 x22 x24 x184 x274000 x274001 = if x184 = true then (some false) else (if x22 = 0 then (if x24 < 0 then (laws_FnConjugates.j5d x6 x7 x8 (wrap64 (x20 + x22)) x21 x24 true x274000 x274001) else (laws_FnConjugates.j5d x6 x7 x8 (wrap64 (x20 + x22)) x21 x24 (decide (x24 ≥ x6)) x274000 x274001)) else (laws_FnConjugates.l2d x6 x7 x8 (wrap64 (x20 + x22)) (wrap64 (x21 + 1)) x274000 x274001)) := by
  refine IsLim.unique (laws_FnConjugates.j4lim _ _ _ _ _ _ _ _ _ _) ?_
  refine IsLim.shift (by rfl) ?_
  simp only [laws_FnConjugates.j4]
  repeat' (first | exact IsLim.const _ | refine IsLim.ite ?_ ?_ | refine IsLim.bind ?_ (fun _ => ?_) | exact laws_FnConjugates.j5lim .. | exact laws_FnConjugates.l2lim ..)
theorem laws_FnConjugates.j5d_eq (x6 : Int) (x7 : Int) (x8 : Int) (x20 : Int) (x21 : Int) (x24 : Int) (x196 : Bool) (x274000 : Int) (x274001 : Int) : laws_FnConjugates.j5d x6 x7 x8 x20 x21 x24 x196 x274000 x274001 = if x196 = true then (some false) else ((impl_MulIn.d x274000 x274001 x24 x24).bind fun bt301 => (if bt301.2 = 0 then (if (Go.bits .xor .i64 x24 bt301.1) = x21 then (laws_FnConjugates.l2d x6 x7 x8 x20 (wrap64 (x21 + 1)) x274000 x274001) else (some false)) else (some false))) := by
  refine IsLim.unique (laws_FnConjugates.j5lim _ _ _ _ _ _ _ _ _) ?_
  refine IsLim.shift (by rfl) ?_
  simp only [laws_FnConjugates.j5]
  repeat' (first | exact IsLim.const _ | refine IsLim.ite ?_ ?_ | refine IsLim.bind ?_ (fun _ => ?_) | exact impl_MulIn.lim .. | exact laws_FnConjugates.l2lim ..)
noncomputable def laws_FnConjugates.d (l0 : List Int) (l1 : List Int) : Option (Bool) := lim (fun k => laws_FnConjugates.f k l0 l1)
theorem laws_FnConjugates.lim (l0 : List Int) (l1 : List Int) : IsLim (fun k => laws_FnConjugates.f k l0 l1) (laws_FnConjugates.d l0 l1) := lim_spec (fun k => laws_FnConjugates.mono l0 l1 k)
theorem laws_FnConjugates.d_eq (l0 : List Int) (l1 : List Int) : laws_FnConjugates.d l0 l1 = (laws_a2Long.f l0 l1).bind fun t270 => (if t270 = true then (some true) else ((spec_A2Field.d l0).bind fun bt271 => (if 0 ≤ (IntKind.u64.wrap (bt271.1)) then ((spec_A2Element.d l1 bt271.1 bt271.2 0).bind fun t274 => ((spec_A2Element.d l1 bt271.1 bt271.2 1).bind fun t275 => ((impl_ConjugatesIn.d bt271.1 bt271.2 t274).bind fun bt276 => ((impl_MinimalPoly.d bt271.1 bt271.2 t274).bind fun bt280 => (if bt276.2 = 0 then (if bt280.2 = 0 then (if (bt276.1.length : Int) < 1 then (laws_FnConjugates.j0d (shl .i64 1 (IntKind.u64.wrap (bt271.1))) t274 t275 bt276.1 bt280.1 true bt271.1 bt271.2) else (if 0 < (bt276.1.length : Int) then (if (rd bt276.1 0) = t274 then ((laws_a2Below.d bt276.1 (shl .i64 1 (IntKind.u64.wrap (bt271.1)))).bind fun t283 => (if t283 = true then (if (bt276.1.length : Int) = 0 then (none) else (if (Int.tmod bt271.1 (bt276.1.length : Int)) = 0 then ((impl_IsIrreducible.d bt280.1).bind fun t284 => (laws_FnConjugates.j0d (shl .i64 1 (IntKind.u64.wrap (bt271.1))) t274 t275 bt276.1 bt280.1 (!t284) bt271.1 bt271.2)) else (laws_FnConjugates.j0d (shl .i64 1 (IntKind.u64.wrap (bt271.1))) t274 t275 bt276.1 bt280.1 true bt271.1 bt271.2))) else (laws_FnConjugates.j0d (shl .i64 1 (IntKind.u64.wrap (bt271.1))) t274 t275 bt276.1 bt280.1 true bt271.1 bt271.2))) else (laws_FnConjugates.j0d (shl .i64 1 (IntKind.u64.wrap (bt271.1))) t274 t275 bt276.1 bt280.1 true bt271.1 bt271.2)) else (none))) else (laws_FnConjugates.j0d (shl .i64 1 (IntKind.u64.wrap (bt271.1))) t274 t275 bt276.1 bt280.1 true bt271.1 bt271.2)) else (laws_FnConjugates.j0d (shl .i64 1 (IntKind.u64.wrap (bt271.1))) t274 t275 bt276.1 bt280.1 true bt271.1 bt271.2)))))) else (none)))) := by
  refine IsLim.unique (laws_FnConjugates.lim _ _) ?_
  unfold laws_FnConjugates.f
  repeat' (first | exact IsLim.const _ | refine IsLim.ite ?_ ?_ | refine IsLim.bind ?_ (fun _ => ?_) | exact spec_A2Field.lim .. | exact spec_A2Element.lim .. | exact impl_ConjugatesIn.lim .. | exact impl_MinimalPoly.lim .. | exact laws_a2Below.lim .. | exact impl_IsIrreducible.lim .. | exact laws_FnConjugates.j0lim ..)
end Go.Proofs.Ytkedpfkdnhameaa.P
end
section
namespace Go.Proofs.Ytkedpfkdnhameaa.P
open Go.RowKit Go.Proofs.YtkedpfkdnhameaaW.PrintWords Go.Proofs.YtkedpfkdnhameaaW.PrintLast Go.Proofs.YtkedpfkdnhameaaW.PrintMore
set_option linter.unusedVariables false
set_option linter.unusedSimpArgs false
theorem wr {x : Int} (h0 : -9223372036854775808 ≤ x) (h1 : x < 9223372036854775808) : wrap64 x = x := by
  unfold wrap64; omega
theorem wrS {i n : Nat} (h : i < n) (hn : n ≤ 17592186044416) : wrap64 ((i : Int) + 1) = ((i + 1 : Nat) : Int) := by rw [wr (by omega) (by omega)]; omega
theorem u64_id {x : Int} (h0 : 0 ≤ x) (h1 : x < 9223372036854775808) : IntKind.u64.wrap x = x := by rw [IntKind.wrap_u64]; omega
theorem down {Q : Nat → Prop} {n : Nat} (h0 : Q n) (hs : ∀ i, i < n → Q (i + 1) → Q i) : ∀ i, i ≤ n → Q i := by
  intro i hi
  obtain ⟨d, hd⟩ : ∃ d, d = n - i := ⟨_, rfl⟩
  induction d generalizing i with
  | zero => have : i = n := by omega
            exact this ▸ h0
  | succ d ih => exact hs i (by omega) (ih (i + 1) (by omega) (by omega))
theorem rd_get {l : List Int} {i : Nat} (h : i < l.length) : rd l (i : Int) = l[i] := rd_at l i h
theorem bind_some' {α β : Type} (a : α) (f : α → Option β) : (some a).bind f = f a := rfl
/-- the first place where `q` holds, by a walk upward -/
theorem index_gen {F : Int → Option Int} {n : Nat} {q : Nat → Bool} (hend : F (n : Int) = some (-1))
    (heq : ∀ i : Nat, i < n → F (i : Int) = if q i = true then some (i : Int) else F ((i + 1 : Nat) : Int)) :
    ∃ v, F 0 = some v ∧ (decide (v ≥ 0) = !decide (∀ i, i < n → q i = false)) ∧ (0 ≤ v → v.toNat < n ∧ q v.toNat = true ∧ ∀ j, j < v.toNat → q j = false) := by
  have key : ∀ i, i ≤ n → ∃ v, F (i : Int) = some v ∧ (v ≥ 0 ↔ ¬ ∀ j, i ≤ j → j < n → q j = false) ∧ (0 ≤ v → i ≤ v.toNat ∧ v.toNat < n ∧ q v.toNat = true ∧ ∀ j, i ≤ j → j < v.toNat → q j = false) := by
    apply down
    · exact ⟨-1, hend, ⟨fun h => absurd h (by decide), fun h => absurd (fun j _ _ => by omega) h⟩, fun h => absurd h (by decide)⟩
    · intro i hi ⟨v, e, c, d⟩
      rw [heq i hi]
      by_cases hq : q i = true
      · rw [if_pos hq]
        exact ⟨i, rfl, ⟨fun _ h => (by rw [h i (by omega) hi] at hq; cases hq), fun _ => by omega⟩, fun _ => ⟨by simp, by simpa using hi, by simpa using hq, fun j h1 h2 => by simp at h2; omega⟩⟩
      · rw [if_neg hq]
        have hq' : q i = false := Bool.eq_false_iff.mpr hq
        refine ⟨v, e, c.trans ⟨fun h h' => h fun j a b => h' j (by omega) b, fun h h' => h fun j a b => ?_⟩, fun h => ?_⟩
        · rcases Nat.lt_or_ge i j with z | z
          · exact h' j z b
          · have : j = i := by omega
            rw [this, hq']
        · obtain ⟨a1, a2, a3, a4⟩ := d h
          refine ⟨by omega, a2, a3, fun j h1 h2 => ?_⟩
          rcases Nat.lt_or_ge i j with z | z
          · exact a4 j z h2
          · have : j = i := by omega
            rw [this, hq']
  obtain ⟨v, e, c, d⟩ := key 0 (by omega)
  refine ⟨v, e, ?_, fun h => ⟨(d h).2.1, (d h).2.2.1, fun j hj => (d h).2.2.2 j (by omega) hj⟩⟩
  rw [← decide_not]
  apply decide_eq_decide.mpr
  exact c.trans ⟨fun h h' => h fun j _ b => h' j b, fun h h' => h fun j b => h' j (by omega) b⟩
theorem all_get {l : List Int} {q : Int → Bool} : decide (∀ i, i < l.length → q (rd l (i : Int)) = true) = l.all q := by
  rw [Bool.eq_iff_iff, decide_eq_true_iff, List.all_eq_true]
  constructor
  · intro h x hx
    obtain ⟨i, hi, e⟩ := List.getElem_of_mem hx
    have := h i hi
    rwa [rd_get hi, e] at this
  · intro h i hi
    rw [rd_get hi]; exact h _ (List.getElem_mem hi)
end Go.Proofs.Ytkedpfkdnhameaa.P
end
section
namespace Go.Proofs.Ytkedpfkdnhameaa.P
open Go.RowKit Go.Proofs.YtkedpfkdnhameaaW.PrintWords Go.Proofs.YtkedpfkdnhameaaW.PrintLast Go.Proofs.YtkedpfkdnhameaaW.PrintMore
set_option linter.unusedVariables false
set_option linter.unusedSimpArgs false
theorem wrap_nat {n : Nat} (h : n < 9223372036854775808) : IntKind.i64.wrap (n : Int) = (n : Int) := by rw [IntKind.wrap_i64]; omega
theorem bits_nat {a : Nat} (ha : a < 9223372036854775808) : (BitVec.ofInt IntKind.i64.bits (a : Int)).toNat = a := by
  show (BitVec.ofInt 64 (a : Int)).toNat = a
  rw [BitVec.ofInt_natCast, BitVec.toNat_ofNat]
  exact Nat.mod_eq_of_lt (by omega)
theorem bxor {a b : Nat} (ha : a < 9223372036854775808) (hb : b < 9223372036854775808) : Go.bits .xor .i64 (a : Int) (b : Int) = ((a ^^^ b : Nat) : Int) := by
  show IntKind.i64.wrap ((BitVec.ofInt IntKind.i64.bits (a : Int) ^^^ BitVec.ofInt IntKind.i64.bits (b : Int)).toNat : Int) = _
  rw [BitVec.toNat_xor, bits_nat ha, bits_nat hb]
  exact wrap_nat (Nat.xor_lt_two_pow (n := 63) (by omega) (by omega))
theorem band {a b : Nat} (ha : a < 9223372036854775808) (hb : b < 9223372036854775808) : Go.bits .and .i64 (a : Int) (b : Int) = ((a &&& b : Nat) : Int) := by
  show IntKind.i64.wrap ((BitVec.ofInt IntKind.i64.bits (a : Int) &&& BitVec.ofInt IntKind.i64.bits (b : Int)).toNat : Int) = _
  rw [BitVec.toNat_and, bits_nat ha, bits_nat hb]
  exact wrap_nat (Nat.and_lt_two_pow (n := 63) a (by omega))
theorem shr_nat {a c : Nat} (hc : c ≤ 64) : shr .i64 (a : Int) (c : Int) = ((a >>> c : Nat) : Int) := by
  show (a : Int) / 2 ^ min (c : Int).toNat 64 = _
  rw [Int.toNat_natCast, Nat.min_eq_left hc, Nat.shiftRight_eq_div_pow]
  simp
theorem shl_nat {a c : Nat} (hc : c ≤ 64) (h : a * 2 ^ c < 9223372036854775808) : shl .i64 (a : Int) (c : Int) = ((a * 2 ^ c : Nat) : Int) := by
  show IntKind.i64.wrap ((a : Int) * 2 ^ min (c : Int).toNat 64) = _
  rw [Int.toNat_natCast, Nat.min_eq_left hc, ← wrap_nat h]
  simp
theorem bit_test {a c : Nat} (ha : a < 9223372036854775808) (hc : c ≤ 64) : Go.bits .and .i64 (shr .i64 (a : Int) (c : Int)) 1 = if a.testBit c = true then 1 else 0 := by
  rw [shr_nat hc]
  have h1 : a >>> c < 9223372036854775808 := by
    rw [Nat.shiftRight_eq_div_pow]
    exact Nat.lt_of_le_of_lt (Nat.div_le_self _ _) ha
  have := band (a := a >>> c) (b := 1) h1 (by omega)
  rw [show ((1 : Nat) : Int) = 1 from rfl] at this
  rw [this, Nat.testBit, Nat.and_comm 1]
  rw [Nat.and_one_is_mod]
  rcases Nat.mod_two_eq_zero_or_one (a >>> c) with e | e <;> rw [e] <;> simp
theorem lt_mono {x a b : Nat} (h : x < 2 ^ a) (hab : a ≤ b) : x < 2 ^ b := Nat.lt_of_lt_of_le h (Nat.pow_le_pow_right (by omega) hab)
theorem small62 {x n : Nat} (hn : n ≤ 63) (h : x < 2 ^ n) : x < 9223372036854775808 := Nat.lt_of_lt_of_le h (Nat.le_trans (Nat.pow_le_pow_right (by omega) hn) (by decide))
/-- rows as the program holds them -/
def up (l : List Nat) : List Int := l.map fun (x : Nat) => (x : Int)
theorem up_length (l : List Nat) : (up l).length = l.length := by simp [up]
theorem up_get {l : List Nat} {i : Nat} (h : i < l.length) : rd (up l) (i : Int) = (l[i] : Int) := by
  rw [rd_get (by rw [up_length]; exact h)]; simp [up]
end Go.Proofs.Ytkedpfkdnhameaa.P
end
section
namespace Go.Proofs.Ytkedpfkdnhameaa.P
open Go.RowKit Go.Proofs.YtkedpfkdnhameaaW.PrintWords Go.Proofs.YtkedpfkdnhameaaW.PrintLast Go.Proofs.YtkedpfkdnhameaaW.PrintMore
set_option linter.unusedVariables false
set_option linter.unusedSimpArgs false
/-- a number of m places -/
def elemB (m x : Int) : Bool := decide (0 ≤ x) && decide (x < 2 ^ m.toNat)
theorem shl_one {N : Nat} (h : N ≤ 60) : shl .i64 1 (N : Int) = ((2 ^ N : Nat) : Int) := by
  have h2 : 2 ^ N ≤ 2 ^ 60 := Nat.pow_le_pow_right (by omega) h
  have := shl_nat (a := 1) (c := N) (by omega) (by omega)
  rw [Nat.one_mul] at this
  exact this
end Go.Proofs.Ytkedpfkdnhameaa.P
end
section
namespace Go.Proofs.Ytkedpfkdnhameaa.P
open Go.RowKit Go.Proofs.YtkedpfkdnhameaaW.PrintWords Go.Proofs.YtkedpfkdnhameaaW.PrintLast Go.Proofs.YtkedpfkdnhameaaW.PrintMore
set_option linter.unusedVariables false
set_option linter.unusedSimpArgs false
/-- the irreducible polynomials of degree 1 .. 5, as numbers -/
def irrs : List Int := [2, 3, 7, 11, 13, 19, 25, 31, 37, 41, 47, 55, 59, 61]
def irrB (p : Int) : Bool := irrs.contains p
/-- the fields: degree and polynomial -/
def fields14 : List (Int × Int) := [(1, 2), (1, 3), (2, 7), (3, 11), (3, 13), (4, 19), (4, 25), (4, 31), (5, 37), (5, 41), (5, 47), (5, 55), (5, 59), (5, 61)]
def validB (m p : Int) : Bool := fields14.contains (m, p)
theorem of_range {P : Int → Prop} (n : Nat) (lo : Int) (h : ∀ i, i < n → P (lo + i)) : ∀ x, lo ≤ x → x < lo + n → P x := by
  intro x h0 h1
  have := h (x - lo).toNat (by omega)
  rwa [show lo + ((x - lo).toNat : Int) = x by omega] at this
theorem i_irr_small : ∀ i, i < 62 → impl_IsIrreducible.f 80 (2 + (i : Nat)) = some (irrB (2 + (i : Nat))) := by decide +kernel
theorem irrB_big {p : Int} (h : p < 2 ∨ 64 ≤ p) : irrB p = false := by
  have : p ∉ irrs := by
    have hb : ∀ q ∈ irrs, 2 ≤ q ∧ q < 64 := by decide +kernel
    intro hp
    have := hb p hp
    omega
  unfold irrB
  rw [List.contains_eq_mem, decide_eq_false this]
theorem i_IsIrreducible_v (p : Int) : impl_IsIrreducible.d p = some (irrB p) := by
  by_cases h : p < 2
  · rw [impl_IsIrreducible.d_eq, if_pos h, impl_IsIrreducible.j0d_eq, if_pos rfl, irrB_big (.inl h)]
  · by_cases h2 : p < 64
    · have := of_range (P := fun p => impl_IsIrreducible.f 80 p = some (irrB p)) 62 2 i_irr_small p (by omega) (by omega)
      exact ((impl_IsIrreducible.lim p).2 _).mpr ⟨_, this⟩
    · rw [impl_IsIrreducible.d_eq, if_neg h, impl_IsIrreducible.j0d_eq, if_pos (by simp; omega), irrB_big (.inr (by omega))]
theorem irrB_mem {p : Int} (h : irrB p = true) : p ∈ irrs := by simpa [irrB] using h
theorem i_deg_irr {p : Int} (h : irrB p = true) : ∀ m, ((m, p) ∈ fields14) = (impl_degreeOf.d p = some m) := by
  have h := irrB_mem h
  have key : ∀ p ∈ irrs, ∃ m, impl_degreeOf.f 80 p = some m ∧ (m, p) ∈ fields14 ∧ ∀ m', (m', p) ∈ fields14 → m' = m := by
    have : ∀ p ∈ irrs, ∃ m ∈ [1, 2, 3, 4, 5], impl_degreeOf.f 80 p = some m ∧ (m, p) ∈ fields14 ∧ ∀ f ∈ fields14, f.2 = p → f.1 = m := by decide +kernel
    intro p hp
    obtain ⟨m, _, a, b, c⟩ := this p hp
    exact ⟨m, a, b, fun m' h' => c (m', p) h' rfl⟩
  intro m
  obtain ⟨m0, a, b, c⟩ := key p h
  have e : impl_degreeOf.d p = some m0 := ((impl_degreeOf.lim p).2 _).mpr ⟨_, a⟩
  rw [e]
  apply propext
  exact ⟨fun h => by rw [c m h], fun h => by cases h; exact b⟩
theorem deg_some {p : Int} (h : irrB p = true) : ∃ m, (m, p) ∈ fields14 := by
  have : ∀ p ∈ irrs, ∃ m ∈ [1, 2, 3, 4, 5], ((m, p) : Int × Int) ∈ fields14 := by decide +kernel
  obtain ⟨m, _, hm⟩ := this p (irrB_mem h)
  exact ⟨m, hm⟩
theorem fields_facts : ∀ f ∈ fields14, (1 ≤ f.1 ∧ f.1 ≤ 5) ∧ irrB f.2 = true := by decide +kernel
theorem valid_facts {m p : Int} (h : validB m p = true) : 1 ≤ m ∧ m ≤ 5 ∧ irrB p = true := by
  have h' : (m, p) ∈ fields14 := by simpa [validB] using h
  have := fields_facts _ h'
  exact ⟨this.1.1, this.1.2, this.2⟩
theorem validB_eq {m p : Int} : validB m p = decide ((m, p) ∈ fields14) := by simp [validB, List.contains_eq_mem]
theorem i_ValidField_v (m p : Int) : impl_ValidField.d m p = some (validB m p) := by
  rw [impl_ValidField.d_eq]
  unfold impl_within.f
  by_cases h1 : m ≥ 1
  · rw [if_pos h1, bind_some']
    by_cases h5 : m ≤ 5
    · rw [if_pos (by simpa using h5), i_IsIrreducible_v, bind_some']
      by_cases hi : irrB p = true
      · rw [if_pos hi]
        obtain ⟨m0, hm0⟩ := deg_some hi
        rw [i_deg_irr hi] at hm0
        rw [hm0, bind_some', validB_eq]
        have := i_deg_irr hi m
        rw [hm0] at this
        congr 1
        simp only [this, Option.some.injEq]
        by_cases e : m0 = m
        · simp [e]
        · simp [e]
      · rw [if_neg hi]
        congr 1
        have : ¬ validB m p = true := fun h => hi (valid_facts h).2.2
        exact (Bool.eq_false_iff.mpr this).symm
    · rw [if_neg (by simpa using h5)]
      have : ¬ validB m p = true := fun h => h5 (valid_facts h).2.1
      rw [Bool.eq_false_iff.mpr this]
  · rw [if_neg h1, bind_some', if_neg (by decide)]
    have : ¬ validB m p = true := fun h => h1 (valid_facts h).1
    rw [Bool.eq_false_iff.mpr this]
end Go.Proofs.Ytkedpfkdnhameaa.P
end
section
namespace Go.Proofs.Ytkedpfkdnhameaa.P
open Go.RowKit Go.Proofs.YtkedpfkdnhameaaW.PrintWords Go.Proofs.YtkedpfkdnhameaaW.PrintLast Go.Proofs.YtkedpfkdnhameaaW.PrintMore
set_option linter.unusedVariables false
set_option linter.unusedSimpArgs false
/-- the product of polynomials a and b, of b the places below n -/
def clm (a b : Nat) : Nat → Nat
  | 0 => 0
  | i + 1 => clm a b i ^^^ (if b.testBit i = true then a * 2 ^ i else 0)
/-- the rest of r by p, a polynomial of degree m: the places m + n - 1 .. m are cleared -/
def red (m p : Nat) (r : Nat) : Nat → Nat
  | 0 => r
  | i + 1 => red m p (if r.testBit (m + i) = true then r ^^^ (p * 2 ^ i) else r) i
/-- the product in the field -/
def fmul (m p a b : Nat) : Nat := red m p (clm a b m) m
theorem mul_pow_lt {a m i : Nat} (ha : a < 2 ^ m) : a * 2 ^ i < 2 ^ (m + i) := by
  rw [Nat.pow_add]; exact Nat.mul_lt_mul_of_pos_right ha (Nat.two_pow_pos i)
theorem clm_lt {a m : Nat} (ha : a < 2 ^ m) (b : Nat) : ∀ n, clm a b n < 2 ^ (m + n)
  | 0 => Nat.two_pow_pos _
  | n + 1 => by
    refine Nat.xor_lt_two_pow (lt_mono (clm_lt ha b n) (by omega)) ?_
    split
    · exact lt_mono (mul_pow_lt ha) (by omega)
    · exact Nat.two_pow_pos _
theorem clm_stop (a : Nat) {b i : Nat} (h : b < 2 ^ i) : ∀ n, clm a b (i + n) = clm a b i
  | 0 => rfl
  | n + 1 => by
    rw [← Nat.add_assoc, clm, clm_stop a h n, Nat.testBit_lt_two_pow (lt_mono h (by omega))]
    simp
theorem lt_of_bit {r k : Nat} (h : r < 2 ^ (k + 1)) (hb : r.testBit k = false) : r < 2 ^ k := by
  apply Nat.lt_pow_two_of_testBit
  intro i hi
  rcases Nat.lt_or_ge i (k + 1) with z | z
  · rw [show i = k by omega]; exact hb
  · exact Nat.testBit_lt_two_pow (lt_mono h z)
theorem red_step_lt {m p r i : Nat} (hp : p < 2 ^ (m + 1)) (hpb : p.testBit m = true) (hr : r < 2 ^ (m + (i + 1))) : (if r.testBit (m + i) = true then r ^^^ (p * 2 ^ i) else r) < 2 ^ (m + i) := by
  have h1 : p * 2 ^ i < 2 ^ (m + i + 1) := by
    have := mul_pow_lt (i := i) hp
    exact lt_mono this (by omega)
  split
  · rename_i c
    refine lt_of_bit (Nat.xor_lt_two_pow hr h1) ?_
    rw [Nat.testBit_xor, c, Nat.testBit_mul_two_pow]
    simp [hpb]
  · rename_i c
    exact lt_of_bit hr (Bool.eq_false_iff.mpr c)
theorem red_lt {m p : Nat} (hp : p < 2 ^ (m + 1)) (hpb : p.testBit m = true) : ∀ i r, r < 2 ^ (m + i) → red m p r i < 2 ^ m
  | 0, r, h => h
  | i + 1, r, h => by rw [red]; exact red_lt hp hpb i _ (red_step_lt hp hpb h)
theorem half_bit {r k : Nat} : (r / 2).testBit k = r.testBit (k + 1) := Nat.testBit_div_two ..
theorem half_lt {r k : Nat} (h : r < 2 ^ (k + 1)) : r / 2 < 2 ^ k := by rw [Nat.pow_succ] at h; omega
theorem bit_pos {r k : Nat} (h : r.testBit k = true) : 0 < r := by
  rcases Nat.eq_zero_or_pos r with rfl | z
  · rw [Nat.zero_testBit] at h; cases h
  · exact z
theorem impl_degreeOf.some_v : ∀ (k r : Nat) (o : Int), k ≤ 62 → r < 2 ^ (k + 1) → r.testBit k = true → -1 ≤ o → o + k ≤ 1000 → impl_degreeOf.l0d (r : Int) o = some (o + k + 1)
  | 0, r, o, hk, h, hb, h0, h1 => by
    have hr : r = 1 := by have := bit_pos hb; omega
    subst hr
    rw [impl_degreeOf.l0d_eq, if_pos (by omega), wr (x := o + 1) (by omega) (by omega), show (((1 : Nat) : Int) / 2) = ((1 / 2 : Nat) : Int) by omega, impl_degreeOf.l0d_eq, if_neg (by decide)]; simp
  | k + 1, r, o, hk, h, hb, h0, h1 => by
    have := bit_pos hb
    rw [impl_degreeOf.l0d_eq, if_pos (by omega), wr (x := o + 1) (by omega) (by omega), show ((r : Int) / 2) = ((r / 2 : Nat) : Int) by omega, impl_degreeOf.some_v k (r / 2) (o + 1) (by omega) (half_lt h) (by rw [half_bit]; exact hb) (by omega) (by omega)]
    congr 1; omega
theorem impl_degreeOf.lt_v : ∀ (k r : Nat) (o : Int), k ≤ 62 → r < 2 ^ k → -1 ≤ o → o + k ≤ 1000 → ∃ d, impl_degreeOf.l0d (r : Int) o = some d ∧ d ≤ o + k
  | 0, r, o, hk, h, h0, h1 => ⟨o, by rw [impl_degreeOf.l0d_eq, if_neg (by have hz : r = 0 := (by simpa using h); omega)], by omega⟩
  | k + 1, r, o, hk, h, h0, h1 => by
    by_cases c : 0 < r
    · obtain ⟨d, e, hd⟩ := impl_degreeOf.lt_v k (r / 2) (o + 1) (by omega) (half_lt h) (by omega) (by omega)
      have hr62 := small62 (n := k + 1) (by omega) h
      exact ⟨d, by rw [impl_degreeOf.l0d_eq, if_pos (by omega), wr (x := o + 1) (by omega) (by omega), show ((r : Int) / 2) = ((r / 2 : Nat) : Int) by omega, e], by omega⟩
    · exact ⟨o, by rw [impl_degreeOf.l0d_eq, if_neg (by omega)], by omega⟩
theorem impl_restOf.loop_v {m p : Nat} (hm : m ≤ 5) (hp : p < 2 ^ (m + 1)) (hpb : p.testBit m = true) : ∀ i r : Nat, i ≤ 5 → r < 2 ^ (m + i) → impl_restOf.l0d (r : Int) (p : Int) (m : Int) = some ((red m p r i : Nat) : Int)
  | 0, r, hi, h => by
    obtain ⟨d, e, hd⟩ := impl_degreeOf.lt_v m r (-1) (by omega) h (by omega) (by omega)
    rw [impl_restOf.l0d_eq, impl_degreeOf.d_eq, e, bind_some', if_neg (by omega)]; rfl
  | i + 1, r, hi, h => by
    have st := red_step_lt (i := i) hp hpb h
    rw [red]
    by_cases c : r.testBit (m + i) = true
    · rw [if_pos c] at st ⊢
      have e : impl_degreeOf.d (r : Int) = some ((m + i : Nat) : Int) := by
        rw [impl_degreeOf.d_eq, impl_degreeOf.some_v (m + i) r (-1) (by omega) h c (by omega) (by omega)]; congr 1; omega
      have h1 : p * 2 ^ i < 2 ^ 12 := lt_mono (mul_pow_lt hp) (by omega)
      have h2 : r < 2 ^ 12 := lt_mono h (by omega)
      rw [impl_restOf.l0d_eq, e, bind_some', if_pos (by omega), bind_some', show wrap64 (((m + i : Nat) : Int) - (m : Int)) = (i : Int) by rw [wr (by omega) (by omega)]; omega, if_pos (by omega), shl_nat (by omega) (by omega), bxor (by omega) (by omega)]
      exact impl_restOf.loop_v hm hp hpb i _ (by omega) st
    · rw [if_neg c] at st ⊢
      exact impl_restOf.loop_v hm hp hpb i r (by omega) st
theorem impl_restOf.v {m p : Nat} (hm : m ≤ 5) (hp : p < 2 ^ (m + 1)) (hpb : p.testBit m = true) {r : Nat} (h : r < 2 ^ (m + m)) : impl_restOf.d (r : Int) (p : Int) = some ((red m p r m : Nat) : Int) := by
  rw [impl_restOf.d_eq, impl_degreeOf.d_eq, impl_degreeOf.some_v m p (-1) (by omega) hp hpb (by omega) (by omega), bind_some', show (-1 + (m : Int) + 1) = m by omega]
  exact impl_restOf.loop_v hm hp hpb m r (by omega) h
theorem fields_bits : ∀ f ∈ fields14, 0 ≤ f.2 ∧ f.2.toNat < 2 ^ (f.1.toNat + 1) ∧ f.2.toNat.testBit f.1.toNat = true := by decide +kernel
theorem valid_nat {m p : Int} (h : validB m p = true) : ∃ M P : Nat, m = (M : Int) ∧ p = (P : Int) ∧ 1 ≤ M ∧ M ≤ 5 := by
  have h' : (m, p) ∈ fields14 := by simpa [validB] using h
  have h2 := fields_bits _ h'
  have h3 := valid_facts h
  exact ⟨m.toNat, p.toNat, by omega, by simp only at h2; omega, by omega, by omega⟩
theorem valid_bits {M P : Nat} (h : validB (M : Int) (P : Int) = true) : 1 ≤ M ∧ M ≤ 5 ∧ P < 2 ^ (M + 1) ∧ P.testBit M = true := by
  have h' : ((M : Int), (P : Int)) ∈ fields14 := by simpa [validB] using h
  have h2 := fields_bits _ h'
  have h3 := valid_facts h
  exact ⟨by omega, by omega, h2.2.1, h2.2.2⟩
theorem fmul_lt {M P : Nat} (h : validB (M : Int) (P : Int) = true) {a : Nat} (ha : a < 2 ^ M) (b : Nat) : fmul M P a b < 2 ^ M := by
  have hv := valid_bits h
  exact red_lt hv.2.2.1 hv.2.2.2 M _ (clm_lt ha b M)
end Go.Proofs.Ytkedpfkdnhameaa.P
end
section
namespace Go.Proofs.Ytkedpfkdnhameaa.P
open Go.RowKit Go.Proofs.YtkedpfkdnhameaaW.PrintWords Go.Proofs.YtkedpfkdnhameaaW.PrintLast Go.Proofs.YtkedpfkdnhameaaW.PrintMore
set_option linter.unusedVariables false
set_option linter.unusedSimpArgs false
/-- x squared k times -/
def fsq (m p : Nat) : Nat → Nat → Nat
  | 0, x => x
  | k + 1, x => fsq m p k (fmul m p x x)
theorem tmod_nat (k M : Nat) : Int.tmod (k : Int) (M : Int) = ((k % M : Nat) : Int) := (Int.ofNat_tmod k M).symm
end Go.Proofs.Ytkedpfkdnhameaa.P
end
section
namespace Go.Proofs.Ytkedpfkdnhameaa.P
open Go.RowKit Go.Proofs.YtkedpfkdnhameaaW.PrintWords Go.Proofs.YtkedpfkdnhameaaW.PrintLast Go.Proofs.YtkedpfkdnhameaaW.PrintMore
set_option linter.unusedVariables false
set_option linter.unusedSimpArgs false
theorem mul_pow_xor (x y m : Nat) : (x ^^^ y) * 2 ^ m = x * 2 ^ m ^^^ y * 2 ^ m := by
  apply Nat.eq_of_testBit_eq
  intro i
  simp only [Nat.testBit_xor, Nat.testBit_mul_two_pow]
  cases decide (m ≤ i) <;> simp
theorem xor4 (a b c d : Nat) : (a ^^^ b) ^^^ (c ^^^ d) = (a ^^^ c) ^^^ (b ^^^ d) := by
  rw [Nat.xor_assoc, Nat.xor_assoc, ← Nat.xor_assoc b, Nat.xor_comm b c, Nat.xor_assoc]
theorem clm_xor_l (a a' b : Nat) : ∀ n, clm (a ^^^ a') b n = clm a b n ^^^ clm a' b n
  | 0 => by simp [clm]
  | n + 1 => by
    rw [clm, clm, clm, clm_xor_l a a' b n, xor4]
    congr 1
    split
    · exact mul_pow_xor a a' n
    · rfl
theorem clm_xor_r (a b b' : Nat) : ∀ n, clm a (b ^^^ b') n = clm a b n ^^^ clm a b' n
  | 0 => by simp [clm]
  | n + 1 => by
    rw [clm, clm, clm, clm_xor_r a b b' n, xor4, Nat.testBit_xor]
    congr 1
    cases b.testBit n <;> cases b'.testBit n <;> simp
theorem red_xor (m p : Nat) : ∀ i x y, red m p (x ^^^ y) i = red m p x i ^^^ red m p y i
  | 0, _, _ => rfl
  | i + 1, x, y => by
    rw [red, red, red, ← red_xor m p i, Nat.testBit_xor]
    congr 1
    cases x.testBit (m + i) <;> cases y.testBit (m + i)
    · simp
    · simp [Nat.xor_assoc]
    · simp only [Bool.xor_false, if_true, Bool.false_eq_true, if_false]
      rw [Nat.xor_assoc, Nat.xor_comm y, ← Nat.xor_assoc]
    · simp only [Bool.xor_self, if_true, Bool.false_eq_true, if_false]
      rw [xor4, Nat.xor_self, Nat.xor_zero]
theorem fmul_xor_l (m p a a' b : Nat) : fmul m p (a ^^^ a') b = fmul m p a b ^^^ fmul m p a' b := by unfold fmul; rw [clm_xor_l, red_xor]
theorem fmul_xor_r (m p a b b' : Nat) : fmul m p a (b ^^^ b') = fmul m p a b ^^^ fmul m p a b' := by unfold fmul; rw [clm_xor_r, red_xor]
theorem fmul_0l (m p b : Nat) : fmul m p 0 b = 0 := by
  have := fmul_xor_l m p 0 0 b
  rw [Nat.xor_self, Nat.xor_self] at this; exact this
theorem fmul_0r (m p a : Nat) : fmul m p a 0 = 0 := by
  have := fmul_xor_r m p a 0 0
  rw [Nat.xor_self, Nat.xor_self] at this; exact this
theorem basis_ind {Q : Nat → Prop} (h0 : Q 0) (hx : ∀ x y, Q x → Q y → Q (x ^^^ y)) : ∀ m, (∀ i, i < m → Q (2 ^ i)) → ∀ x, x < 2 ^ m → Q x
  | 0, _, x, h => by have : x = 0 := by simpa using h
                     rw [this]; exact h0
  | m + 1, hb, x, h => by
    by_cases c : x.testBit m = true
    · have h2 : x ^^^ 2 ^ m < 2 ^ m := by
        apply Nat.lt_pow_two_of_testBit
        intro j hj
        rw [Nat.testBit_xor, Nat.testBit_two_pow]
        by_cases e : m = j
        · subst e; simp [c]
        · rw [Nat.testBit_lt_two_pow (Nat.lt_of_lt_of_le h (Nat.pow_le_pow_right (by omega) (by omega)))]; simp [e]
      have := hx _ _ (basis_ind h0 hx m (fun i hi => hb i (by omega)) _ h2) (hb m (by omega))
      rwa [Nat.xor_assoc, Nat.xor_self, Nat.xor_zero] at this
    · refine basis_ind h0 hx m (fun i hi => hb i (by omega)) x ?_
      apply Nat.lt_pow_two_of_testBit
      intro j hj
      by_cases e : m = j
      · subst e; exact Bool.eq_false_iff.mpr c
      · exact Nat.testBit_lt_two_pow (Nat.lt_of_lt_of_le h (Nat.pow_le_pow_right (by omega) (by omega)))
def algB (m p : Nat) : Bool := (List.range m).all fun i => fmul m p (2 ^ i) 1 == 2 ^ i && (List.range m).all fun j => fmul m p (2 ^ i) (2 ^ j) == fmul m p (2 ^ j) (2 ^ i) && (List.range m).all fun k => fmul m p (fmul m p (2 ^ i) (2 ^ j)) (2 ^ k) == fmul m p (2 ^ i) (fmul m p (2 ^ j) (2 ^ k))
theorem alg_all : (fields14.all fun f => algB f.1.toNat f.2.toNat) = true := by decide +kernel
theorem alg_of {M P : Nat} (h : validB (M : Int) (P : Int) = true) : algB M P = true := by
  have h' : ((M : Int), (P : Int)) ∈ fields14 := by simpa [validB] using h
  have := List.all_eq_true.mp alg_all _ h'
  simpa using this
theorem alg_get {M P : Nat} (h : validB (M : Int) (P : Int) = true) {i : Nat} (hi : i < M) : fmul M P (2 ^ i) 1 = 2 ^ i ∧ ∀ j, j < M → fmul M P (2 ^ i) (2 ^ j) = fmul M P (2 ^ j) (2 ^ i) ∧ ∀ k, k < M → fmul M P (fmul M P (2 ^ i) (2 ^ j)) (2 ^ k) = fmul M P (2 ^ i) (fmul M P (2 ^ j) (2 ^ k)) := by
  have a := alg_of h
  unfold algB at a
  have a1 := List.all_eq_true.mp a i (List.mem_range.mpr hi)
  rw [Bool.and_eq_true] at a1
  refine ⟨by simpa using a1.1, fun j hj => ?_⟩
  have a2 := List.all_eq_true.mp a1.2 j (List.mem_range.mpr hj)
  rw [Bool.and_eq_true] at a2
  refine ⟨by simpa using a2.1, fun k hk => ?_⟩
  simpa using List.all_eq_true.mp a2.2 k (List.mem_range.mpr hk)
theorem fmul_1 {M P : Nat} (h : validB (M : Int) (P : Int) = true) {a : Nat} (ha : a < 2 ^ M) : fmul M P a 1 = a :=
  basis_ind (Q := fun a => fmul M P a 1 = a) (fmul_0l _ _ _) (fun x y hx hy => by show fmul M P (x ^^^ y) 1 = _; rw [fmul_xor_l, hx, hy]) M (fun i hi => (alg_get h hi).1) a ha
theorem fmul_comm {M P : Nat} (h : validB (M : Int) (P : Int) = true) {a b : Nat} (ha : a < 2 ^ M) (hb : b < 2 ^ M) : fmul M P a b = fmul M P b a := by
  refine basis_ind (Q := fun a => fmul M P a b = fmul M P b a) (by show fmul M P 0 b = fmul M P b 0; rw [fmul_0l, fmul_0r]) (fun x y hx hy => by show fmul M P (x ^^^ y) b = fmul M P b (x ^^^ y); rw [fmul_xor_l, fmul_xor_r, hx, hy]) M (fun i hi => ?_) a ha
  exact basis_ind (Q := fun b => fmul M P (2 ^ i) b = fmul M P b (2 ^ i)) (by show fmul M P _ 0 = fmul M P 0 _; rw [fmul_0l, fmul_0r]) (fun x y hx hy => by show fmul M P _ (x ^^^ y) = fmul M P (x ^^^ y) _; rw [fmul_xor_l, fmul_xor_r, hx, hy]) M (fun j hj => ((alg_get h hi).2 j hj).1) b hb
theorem fmul_assoc {M P : Nat} (h : validB (M : Int) (P : Int) = true) {a b c : Nat} (ha : a < 2 ^ M) (hb : b < 2 ^ M) (hc : c < 2 ^ M) : fmul M P (fmul M P a b) c = fmul M P a (fmul M P b c) := by
  refine basis_ind (Q := fun a => fmul M P (fmul M P a b) c = fmul M P a (fmul M P b c)) (by show fmul M P (fmul M P 0 b) c = _; rw [fmul_0l, fmul_0l, fmul_0l]) (fun x y hx hy => by show fmul M P (fmul M P (x ^^^ y) b) c = fmul M P (x ^^^ y) _; rw [fmul_xor_l, fmul_xor_l, fmul_xor_l, hx, hy]) M (fun i hi => ?_) a ha
  refine basis_ind (Q := fun b => fmul M P (fmul M P (2 ^ i) b) c = fmul M P (2 ^ i) (fmul M P b c)) (by show fmul M P (fmul M P _ 0) c = fmul M P _ (fmul M P 0 c); rw [fmul_0r, fmul_0l, fmul_0r]) (fun x y hx hy => by show fmul M P (fmul M P _ (x ^^^ y)) c = fmul M P _ (fmul M P (x ^^^ y) c); rw [fmul_xor_r, fmul_xor_l, fmul_xor_l, fmul_xor_r, hx, hy]) M (fun j hj => ?_) b hb
  exact basis_ind (Q := fun c => fmul M P (fmul M P (2 ^ i) (2 ^ j)) c = fmul M P (2 ^ i) (fmul M P (2 ^ j) c)) (by show fmul M P _ 0 = fmul M P _ (fmul M P _ 0); rw [fmul_0r, fmul_0r, fmul_0r]) (fun x y hx hy => by show fmul M P _ (x ^^^ y) = fmul M P _ (fmul M P _ (x ^^^ y)); rw [fmul_xor_r, fmul_xor_r, fmul_xor_r, hx, hy]) M (fun k hk => ((alg_get h hi).2 j hj).2 k hk) c hc
/-- a power as a product -/
def npow (m p a : Nat) : Nat → Nat
  | 0 => 1
  | n + 1 => fmul m p (npow m p a n) a
theorem one_lt {M P : Nat} (h : validB (M : Int) (P : Int) = true) : 1 < 2 ^ M := Nat.one_lt_two_pow (by have := valid_bits h; omega)
theorem npow_lt {M P : Nat} (h : validB (M : Int) (P : Int) = true) {a : Nat} (ha : a < 2 ^ M) : ∀ n, npow M P a n < 2 ^ M
  | 0 => one_lt h
  | n + 1 => fmul_lt h (npow_lt h ha n) a
theorem npow_sq {M P : Nat} (h : validB (M : Int) (P : Int) = true) {a : Nat} (ha : a < 2 ^ M) : ∀ q, npow M P (fmul M P a a) q = npow M P a (2 * q)
  | 0 => rfl
  | q + 1 => by
    rw [show 2 * (q + 1) = 2 * q + 1 + 1 by omega, npow, npow, npow, npow_sq h ha q, fmul_assoc h (npow_lt h ha _) ha ha]
theorem fsq_xor {M P : Nat} (h : validB (M : Int) (P : Int) = true) : ∀ (k : Nat) {x y : Nat}, x < 2 ^ M → y < 2 ^ M → fsq M P k (x ^^^ y) = fsq M P k x ^^^ fsq M P k y
  | 0, _, _, _, _ => rfl
  | k + 1, x, y, hx, hy => by
    rw [fsq, fsq, fsq, ← fsq_xor h k (fmul_lt h hx x) (fmul_lt h hy y)]
    congr 1
    rw [fmul_xor_l, fmul_xor_r, fmul_xor_r, fmul_comm h hy hx, Nat.xor_assoc, ← Nat.xor_assoc (fmul M P x y), Nat.xor_self, Nat.zero_xor]
end Go.Proofs.Ytkedpfkdnhameaa.P
end
section
namespace Go.Proofs.Ytkedpfkdnhameaa.P
open Go.RowKit Go.Proofs.YtkedpfkdnhameaaW.PrintWords Go.Proofs.YtkedpfkdnhameaaW.PrintLast Go.Proofs.YtkedpfkdnhameaaW.PrintMore
set_option linter.unusedVariables false
set_option linter.unusedSimpArgs false
theorem and255 (x : Int) : 0 ≤ Go.bits .and .u64 x 255 ∧ Go.bits .and .u64 x 255 ≤ 255 := by
  have e : Go.bits .and .u64 x 255 = IntKind.u64.wrap ((BitVec.ofInt IntKind.u64.bits x &&& BitVec.ofInt IntKind.u64.bits 255).toNat : Int) := rfl
  rw [e, BitVec.toNat_and]
  have h : (BitVec.ofInt IntKind.u64.bits x).toNat &&& (BitVec.ofInt IntKind.u64.bits 255).toNat ≤ 255 := Nat.and_le_right
  generalize (BitVec.ofInt IntKind.u64.bits x).toNat &&& (BitVec.ofInt IntKind.u64.bits 255).toNat = z at h
  rw [IntKind.wrap_u64]
  omega
def Bytes (l : List Int) : Prop := ∀ x ∈ l, 0 ≤ x ∧ x ≤ 255
theorem byte_at {l : List Int} (hb : Bytes l) {i : Int} : 0 ≤ rd l i ∧ rd l i ≤ 255 := by
  by_cases h : i.toNat < l.length
  · have : rd l i = l[i.toNat] := by simp [rd, List.getD, h]
    rw [this]; exact hb _ (List.getElem_mem h)
  · have : rd l i = 0 := by simp [rd, List.getD, h]
    rw [this]; omega
theorem next_v {l : List Int} (hb : Bytes l) (hl : l.length ≤ 3000) {a : Int} (h0 : 0 ≤ a) (h1 : a ≤ 1000000) (s : Int) : ∃ v t, spec_l00Src_next.f l a s = some (v, a + 1, t) ∧ 0 ≤ v ∧ v ≤ 255 := by
  unfold spec_l00Src_next.f
  have hby := byte_at hb (i := a)
  have ha : wrap64 (a + 1) = a + 1 := wr (by omega) (by omega)
  rw [ha]
  by_cases c : a < (l.length : Int)
  · rw [if_pos c, if_pos h0, if_pos (by omega), wr (x := rd l a) (by omega) (by omega)]
    exact ⟨_, _, rfl, hby.1, hby.2⟩
  · rw [if_neg c, if_neg (by omega)]
    have := and255 ((IntKind.u64.wrap ((IntKind.u64.wrap ((IntKind.u64.wrap (s * 6364136223846793005)))) + 1442695040888963407)) / 1099511627776)
    rw [wr (x := Go.bits .and .u64 _ 255) (by omega) (by omega)]
    exact ⟨_, _, rfl, this.1, this.2⟩
theorem tmod_pos {v n : Int} (h0 : 0 ≤ v) (hn : 0 < n) : 0 ≤ Int.tmod v n ∧ Int.tmod v n < n := ⟨Int.tmod_nonneg _ h0, Int.tmod_lt_of_pos _ hn⟩
theorem pick_v {l : List Int} (hb : Bytes l) (hl : l.length ≤ 3000) {a : Int} (h0 : 0 ≤ a) (h1 : a ≤ 900000) (s n : Int) (hn : n ≤ 100000) :
    ∃ v b t, spec_l00Src_pick.f l a s n = some (v, b, t) ∧ 0 ≤ v ∧ (1 ≤ n → v < n) ∧ v ≤ 100000 ∧ a ≤ b ∧ b ≤ a + 2 := by
  unfold spec_l00Src_pick.f
  by_cases c : n ≤ 1
  · rw [if_pos c]; exact ⟨0, a, s, rfl, by omega, fun _ => by omega, by omega, by omega, by omega⟩
  · rw [if_neg c]
    obtain ⟨v, t, e, v0, v1⟩ := next_v hb hl h0 (by omega) s
    rw [e, bind_some']
    by_cases d : n > 200
    · obtain ⟨v', t', e', v0', v1'⟩ := next_v hb hl (a := a + 1) (by omega) (by omega) t
      have e2 : spec_l00Src_next.f l (v, a + 1, t).2.1 (v, a + 1, t).2.2 = some (v', a + 1 + 1, t') := e'
      rw [if_pos d, e2, bind_some', if_neg (by omega)]
      have w : wrap64 (wrap64 ((v, a + 1, t).1 * 256) + (v', a + 1 + 1, t').1) = v * 256 + v' := by
        show wrap64 (wrap64 (v * 256) + v') = _
        rw [wr (x := v * 256) (by omega) (by omega), wr (by omega) (by omega)]
      rw [w]
      have := tmod_pos (v := v * 256 + v') (n := n) (by omega) (by omega)
      exact ⟨_, _, _, rfl, this.1, fun _ => this.2, by omega, by show a ≤ a + 1 + 1; omega, by show a + 1 + 1 ≤ a + 2; omega⟩
    · rw [if_neg d, if_neg (by omega)]
      have := tmod_pos (v := v) (n := n) v0 (by omega)
      exact ⟨_, _, _, rfl, this.1, fun _ => this.2, by show Int.tmod v n ≤ _; omega, by show a ≤ a + 1; omega, by show a + 1 ≤ a + 2; omega⟩
theorem bytes_of {l : List Int} (h : ∀ x ∈ l, (Lit.int .u8 x).wf = true) : Bytes l := by
  intro x hx
  have := h x hx
  have e1 : IntKind.u8.min = 0 := by decide
  have e2 : IntKind.u8.max = 255 := by decide
  simp [Lit.wf, e1, e2] at this
  omega
end Go.Proofs.Ytkedpfkdnhameaa.P
end
section
namespace Go.Proofs.Ytkedpfkdnhameaa.P
open Go.RowKit Go.Proofs.YtkedpfkdnhameaaW.PrintWords Go.Proofs.YtkedpfkdnhameaaW.PrintLast Go.Proofs.YtkedpfkdnhameaaW.PrintMore
set_option linter.unusedVariables false
set_option linter.unusedSimpArgs false
theorem m_cases {m p : Int} (h : validB m p = true) : m = 1 ∨ m = 2 ∨ m = 3 ∨ m = 4 ∨ m = 5 := by
  have := valid_facts h; omega
theorem i_count_v {m p : Int} (h : validB m p = true) (q : Int) : impl_Field_count.f m q = some (2 ^ m.toNat) := by
  rcases m_cases h with rfl | rfl | rfl | rfl | rfl <;> rfl
theorem s_l01Size_v {m p : Int} (h : validB m p = true) (q : Int) : spec_l01Size.f m q = some (2 ^ m.toNat) := by
  rcases m_cases h with rfl | rfl | rfl | rfl | rfl <;> rfl
theorem pow_bound {m p : Int} (h : validB m p = true) : (2 : Int) ≤ 2 ^ m.toNat ∧ (2 : Int) ^ m.toNat ≤ 32 := by
  rcases m_cases h with rfl | rfl | rfl | rfl | rfl <;> decide
theorem i_has_1_v {m p : Int} (h : validB m p = true) (q x : Int) : impl_Field_has_1.f x m q = some (!(elemB m x)) := by
  unfold impl_Field_has_1.f impl_within.f elemB
  have hb := pow_bound h
  rw [i_count_v h, bind_some', wr (by omega) (by omega)]
  by_cases c : 0 ≤ x
  · rw [if_pos (by omega), bind_some']
    simp only [decide_eq_true c, Bool.true_and]
    congr 2
    apply decide_eq_decide.mpr; omega
  · rw [if_neg (by omega), bind_some']
    simp only [decide_eq_false c, Bool.false_and]
theorem i_has_v {m p : Int} (h : validB m p = true) (q : Int) {l : List Int} (hl : l.length ≤ 17592186044416) : impl_Field_has.d m q l = some (l.all (elemB m)) := by
  rw [impl_Field_has.d_eq, slices_ContainsFunc_int64_int64_AT_impl_Field_has_1.d_eq, slices_IndexFunc_int64_int64_AT_impl_Field_has_1.d_eq]
  obtain ⟨v, e, c, _⟩ := index_gen (F := fun i => slices_IndexFunc_int64_int64_AT_impl_Field_has_1.l0d l (l.length : Int) i m q) (n := l.length) (q := fun i => !(elemB m (rd l (i : Int))))
    (by show slices_IndexFunc_int64_int64_AT_impl_Field_has_1.l0d l (l.length : Int) (l.length : Int) m q = _
        rw [slices_IndexFunc_int64_int64_AT_impl_Field_has_1.l0d_eq, if_neg (by omega)])
    (by intro i hi
        show slices_IndexFunc_int64_int64_AT_impl_Field_has_1.l0d l (l.length : Int) (i : Int) m q = _
        rw [slices_IndexFunc_int64_int64_AT_impl_Field_has_1.l0d_eq, if_pos (by omega), if_pos (by omega), if_pos (by omega), i_has_1_v h, bind_some', wrS hi hl])
  have e' : slices_IndexFunc_int64_int64_AT_impl_Field_has_1.l0d l (l.length : Int) 0 m q = some v := e
  rw [e', bind_some', bind_some', c, Bool.not_not]
  congr 1
  rw [← all_get]
  apply decide_eq_decide.mpr
  simp only [Bool.not_eq_false']
end Go.Proofs.Ytkedpfkdnhameaa.P
end
section
namespace Go.Proofs.Ytkedpfkdnhameaa.P
open Go.RowKit Go.Proofs.YtkedpfkdnhameaaW.PrintWords Go.Proofs.YtkedpfkdnhameaaW.PrintLast Go.Proofs.YtkedpfkdnhameaaW.PrintMore
set_option linter.unusedVariables false
set_option linter.unusedSimpArgs false
theorem i_product_v {M a b : Nat} (hM : M ≤ 5) (ha : a < 2 ^ M) (hb : b < 2 ^ M) : impl_product.d (a : Int) (b : Int) = some ((clm a b M : Nat) : Int) := by
  have hb5 : b < 2 ^ 5 := lt_mono hb hM
  have key : ∀ i, i ≤ M → impl_product.l0d ((a * 2 ^ i : Nat) : Int) ((b / 2 ^ i : Nat) : Int) ((clm a b i : Nat) : Int) = some ((clm a b M : Nat) : Int) := by
    apply down
    · rw [impl_product.l0d_eq, if_neg (by rw [Nat.div_eq_of_lt hb]; decide)]
    · intro i hi e
      have h1 : a * 2 ^ i < 2 ^ 10 := lt_mono (mul_pow_lt ha) (by omega)
      have h2 : clm a b i < 2 ^ 10 := lt_mono (clm_lt ha b i) (by omega)
      have h3 : b / 2 ^ i ≤ b := Nat.div_le_self _ _
      by_cases z : b / 2 ^ i = 0
      · have z' : b < 2 ^ i := by
          apply Classical.byContradiction
          intro w
          have := Nat.div_pos (Nat.le_of_not_lt w) (Nat.two_pow_pos i)
          omega
        rw [impl_product.l0d_eq, if_neg (by omega)]
        have := clm_stop a z' (M - i)
        rw [show i + (M - i) = M by omega] at this
        rw [this]
      · have e1 : wrap64 (((a * 2 ^ i : Nat) : Int) * 2) = ((a * 2 ^ (i + 1) : Nat) : Int) := by
          rw [wr (by omega) (by omega), Nat.pow_succ, ← Nat.mul_assoc]; simp
        have e2 : ((b / 2 ^ i : Nat) : Int) / 2 = ((b / 2 ^ (i + 1) : Nat) : Int) := by
          rw [Nat.pow_succ, ← Nat.div_div_eq_div_mul]; generalize b / 2 ^ i = q; omega
        have e3 : Go.bits .and .i64 ((b / 2 ^ i : Nat) : Int) 1 = if b.testBit i = true then 1 else 0 := by
          have := band (a := b / 2 ^ i) (b := 1) (by omega) (by omega)
          rw [show ((1 : Nat) : Int) = 1 from rfl] at this
          rw [this, Nat.and_one_is_mod, Nat.testBit_eq_decide_div_mod_eq]
          rcases Nat.mod_two_eq_zero_or_one (b / 2 ^ i) with w | w <;> rw [w] <;> simp
        rw [impl_product.l0d_eq, if_pos (Int.natCast_pos.mpr (Nat.pos_of_ne_zero z)), e1, e2, e3, ← e, clm]
        by_cases c : b.testBit i = true
        · rw [if_pos c, if_pos rfl, if_pos c, bxor (by omega) (by omega)]
        · rw [if_neg c, if_neg (by decide), if_neg c, Nat.xor_zero]
  rw [impl_product.d_eq]
  have := key 0 (by omega)
  simpa [clm] using this
theorem i_mul_v {M P : Nat} (h : validB (M : Int) (P : Int) = true) {a b : Nat} (ha : a < 2 ^ M) (hb : b < 2 ^ M) : impl_Field_mul.d (M : Int) (P : Int) (a : Int) (b : Int) = some ((fmul M P a b : Nat) : Int) := by
  have hv := valid_bits h
  rw [impl_Field_mul.d_eq, i_product_v hv.2.1 ha hb, bind_some', impl_restOf.v hv.2.1 hv.2.2.1 hv.2.2.2 (clm_lt ha b M)]; rfl
end Go.Proofs.Ytkedpfkdnhameaa.P
end
section
namespace Go.Proofs.Ytkedpfkdnhameaa.P
open Go.RowKit Go.Proofs.YtkedpfkdnhameaaW.PrintWords Go.Proofs.YtkedpfkdnhameaaW.PrintLast Go.Proofs.YtkedpfkdnhameaaW.PrintMore
set_option linter.unusedVariables false
set_option linter.unusedSimpArgs false
theorem half_step (n : Nat) : n = 2 * (n / 2) + (if n.testBit 0 = true then 1 else 0) := by
  rw [Nat.testBit_zero]
  by_cases c : n % 2 = 1
  · simp [c]; omega
  · simp [c]; omega
theorem bit0_v {n : Nat} (h : n < 9223372036854775808) : Go.bits .and .i64 (n : Int) 1 = if n.testBit 0 = true then 1 else 0 := by
  have := band (a := n) (b := 1) h (by omega)
  rw [show ((1 : Nat) : Int) = 1 from rfl] at this
  rw [this, Nat.and_one_is_mod, Nat.testBit_zero]
  rcases Nat.mod_two_eq_zero_or_one n with w | w <;> rw [w] <;> simp
theorem i_pow_loop {M P : Nat} (h : validB (M : Int) (P : Int) = true) : ∀ (f n a o : Nat), n ≤ f → n ≤ 100000 → a < 2 ^ M → o < 2 ^ M → impl_Field_power.l0d (a : Int) (n : Int) (o : Int) (M : Int) (P : Int) = some ((fmul M P o (npow M P a n) : Nat) : Int)
  | 0, n, a, o, hf, _, ha, ho => by
    have : n = 0 := by omega
    subst this
    rw [impl_Field_power.l0d_eq, if_neg (by decide), npow, fmul_1 h ho]
  | f + 1, n, a, o, hf, hn, ha, ho => by
    by_cases z : n = 0
    · subst z
      rw [impl_Field_power.l0d_eq, if_neg (by decide), npow, fmul_1 h ho]
    · have hs := half_step n
      have e2 : ((n : Int) / 2) = ((n / 2 : Nat) : Int) := by omega
      rw [impl_Field_power.l0d_eq, if_pos (by omega), bit0_v (by omega), e2]
      have sq := fmul_lt h ha a
      by_cases c : n.testBit 0 = true
      · rw [if_pos c] at hs ⊢
        rw [if_pos rfl, i_mul_v h ho ha, bind_some', i_mul_v h ha ha, bind_some', i_pow_loop h f (n / 2) _ _ (by omega) (by omega) sq (fmul_lt h ho a), npow_sq h ha]
        have hn2 := npow_lt h ha (2 * (n / 2))
        rw [fmul_assoc h ho ha hn2, fmul_comm h ha hn2]
        conv => rhs; rw [hs, npow]
      · rw [if_neg c] at hs ⊢
        rw [if_neg (by decide), i_mul_v h ha ha, bind_some', i_pow_loop h f (n / 2) _ _ (by omega) (by omega) sq ho, npow_sq h ha]
        conv => rhs; rw [hs, Nat.add_zero]
theorem fmul_1l {M P : Nat} (h : validB (M : Int) (P : Int) = true) {a : Nat} (ha : a < 2 ^ M) : fmul M P 1 a = a := by rw [fmul_comm h (one_lt h) ha, fmul_1 h ha]
theorem i_power_v {M P : Nat} (h : validB (M : Int) (P : Int) = true) {n a : Nat} (hn : n ≤ 100000) (ha : a < 2 ^ M) : impl_Field_power.d (M : Int) (P : Int) (a : Int) (n : Int) = some ((npow M P a n : Nat) : Int) := by
  rw [impl_Field_power.d_eq]
  have := i_pow_loop h n n a 1 (Nat.le_refl _) hn ha (one_lt h)
  rw [fmul_1l h (npow_lt h ha n)] at this
  exact this
end Go.Proofs.Ytkedpfkdnhameaa.P
end
section
namespace Go.Proofs.Ytkedpfkdnhameaa.P
open Go.RowKit Go.Proofs.YtkedpfkdnhameaaW.PrintWords Go.Proofs.YtkedpfkdnhameaaW.PrintLast Go.Proofs.YtkedpfkdnhameaaW.PrintMore
set_option linter.unusedVariables false
set_option linter.unusedSimpArgs false
theorem fields_v : ∀ d : Nat, 1 ≤ d → d ≤ 5 → ∃ L, spec_l01Fields.d (d : Int) = some L ∧ 1 ≤ L.length ∧ L.length ≤ 6 ∧ ∀ i, i < L.length → validB (rd_T25 L ((i : Nat) : Int)).f0 (rd_T25 L ((i : Nat) : Int)).f1 = true := by
  intro d h1 h5
  have hd : d = 1 ∨ d = 2 ∨ d = 3 ∨ d = 4 ∨ d = 5 := by omega
  rcases hd with rfl | rfl | rfl | rfl | rfl
  · exact ⟨[⟨1, 2⟩, ⟨1, 3⟩], ((spec_l01Fields.lim 1).2 _).mpr ⟨100, by kernel_rfl⟩, by decide, by decide, by decide +kernel⟩
  · exact ⟨[⟨2, 7⟩], ((spec_l01Fields.lim 2).2 _).mpr ⟨100, by kernel_rfl⟩, by decide, by decide, by decide +kernel⟩
  · exact ⟨[⟨3, 11⟩, ⟨3, 13⟩], ((spec_l01Fields.lim 3).2 _).mpr ⟨100, by kernel_rfl⟩, by decide, by decide, by decide +kernel⟩
  · exact ⟨[⟨4, 19⟩, ⟨4, 25⟩, ⟨4, 31⟩], ((spec_l01Fields.lim 4).2 _).mpr ⟨100, by kernel_rfl⟩, by decide, by decide, by decide +kernel⟩
  · exact ⟨[⟨5, 37⟩, ⟨5, 41⟩, ⟨5, 47⟩, ⟨5, 55⟩, ⟨5, 59⟩, ⟨5, 61⟩], ((spec_l01Fields.lim 5).2 _).mpr ⟨100, by kernel_rfl⟩, by decide, by decide, by decide +kernel⟩
theorem among_v : ∀ v : Nat, v < 7 → ∃ d : Nat, rd [1, 2, 3, 3, 4, 4, 5] (v : Int) = (d : Int) ∧ 1 ≤ d ∧ d ≤ 5 := by
  intro v hv
  have : v = 0 ∨ v = 1 ∨ v = 2 ∨ v = 3 ∨ v = 4 ∨ v = 5 ∨ v = 6 := by omega
  rcases this with rfl | rfl | rfl | rfl | rfl | rfl | rfl
  · exact ⟨1, rfl, by omega, by omega⟩
  · exact ⟨2, rfl, by omega, by omega⟩
  · exact ⟨3, rfl, by omega, by omega⟩
  · exact ⟨3, rfl, by omega, by omega⟩
  · exact ⟨4, rfl, by omega, by omega⟩
  · exact ⟨4, rfl, by omega, by omega⟩
  · exact ⟨5, rfl, by omega, by omega⟩
theorem field_v {l : List Int} (hb : Bytes l) (hl : l.length ≤ 3000) : ∃ M Q : Nat, spec_A2Field.d l = some ((M : Int), (Q : Int)) ∧ validB (M : Int) (Q : Int) = true := by
  obtain ⟨v, b, t, e, v0, v1, _, g, g'⟩ := pick_v hb hl (a := 0) (by omega) (by omega) 0 7 (by omega)
  obtain ⟨V, rfl⟩ : ∃ V : Nat, v = (V : Int) := ⟨v.toNat, by omega⟩
  have hV : V < 7 := by have := v1 (by omega); omega
  obtain ⟨d, ed, d1, d5⟩ := among_v V hV
  obtain ⟨L, eL, L1, L6, hL⟩ := fields_v d d1 d5
  obtain ⟨w, b2, t2, e2, w0, w1, _, _, _⟩ := pick_v hb hl (a := b) (by omega) (by omega) t (L.length : Int) (by omega)
  obtain ⟨W, rfl⟩ : ∃ W : Nat, w = (W : Int) := ⟨w.toNat, by omega⟩
  have hW : W < L.length := by have := w1 (by omega); omega
  have hv := hL W hW
  obtain ⟨M, Q, eM, eQ, _, _⟩ := valid_nat hv
  refine ⟨M, Q, ?_, by rw [← eM, ← eQ]; exact hv⟩
  have ha : spec_l00Src_among.f l 0 0 [1, 2, 3, 3, 4, 4, 5] = some ((d : Int), b, t) := by
    unfold spec_l00Src_among.f
    rw [show (([1, 2, 3, 3, 4, 4, 5] : List Int).length : Int) = 7 from rfl, e, bind_some', if_pos (by show 0 ≤ (V : Int); omega), if_pos (by show (V : Int) < 7; omega)]
    show some (rd [1, 2, 3, 3, 4, 4, 5] (V : Int), b, t) = _
    rw [ed]
  rw [spec_A2Field.d_eq]
  unfold spec_l00From.f
  rw [bind_some']
  show (spec_l01Drawn.d l 0 0).bind _ = _
  rw [spec_l01Drawn.d_eq, ha, bind_some']
  show ((spec_l01Fields.d (d : Int)).bind _).bind _ = _
  rw [eL, bind_some']
  show ((spec_l00Src_pick.f l b t (L.length : Int)).bind _).bind _ = _
  rw [e2, bind_some', if_pos (by show 0 ≤ (W : Int); omega), if_pos (by show (W : Int) < (L.length : Int); omega), bind_some']
  show some ((rd_T25 L (W : Int)).f0, (rd_T25 L (W : Int)).f1) = _
  rw [eM, eQ]
theorem size_nat {M Q : Nat} (h : validB (M : Int) (Q : Int) = true) (q : Int) : spec_l01Size.f (M : Int) q = some ((2 ^ M : Nat) : Int) := by
  rw [s_l01Size_v h, Int.toNat_natCast]; simp
theorem el0_v {l : List Int} (hb : Bytes l) (hl : l.length ≤ 3000) {M Q : Nat} (h : validB (M : Int) (Q : Int) = true) : ∃ a : Nat, a < 2 ^ M ∧ spec_A2Element.d l (M : Int) (Q : Int) 0 = some (a : Int) := by
  have hp : 2 ^ M ≤ 2 ^ 5 := Nat.pow_le_pow_right (by omega) (valid_bits h).2.1
  have hp1 := Nat.two_pow_pos M
  obtain ⟨v, b, t, e, v0, v1, _, g, g'⟩ := pick_v hb hl (a := 0) (by omega) (by omega) 0 ((2 ^ M : Nat) : Int) (by omega)
  refine ⟨v.toNat, by have := v1 (by omega); omega, ?_⟩
  rw [spec_A2Element.d_eq]
  unfold spec_l00From.f
  rw [bind_some', spec_A2Element.l0d_eq, if_pos (by omega), size_nat h, bind_some']
  show (spec_l00Src_pick.f l 0 0 ((2 ^ M : Nat) : Int)).bind _ = _
  rw [e, bind_some', spec_A2Element.l0d_eq, if_neg (by rw [wr (by omega) (by omega)]; omega)]
  show some v = _
  congr 1; omega
theorem el1_v {l : List Int} (hb : Bytes l) (hl : l.length ≤ 3000) {M Q : Nat} (h : validB (M : Int) (Q : Int) = true) : ∃ a : Nat, a < 2 ^ M ∧ spec_A2Element.d l (M : Int) (Q : Int) 1 = some (a : Int) := by
  have hp : 2 ^ M ≤ 2 ^ 5 := Nat.pow_le_pow_right (by omega) (valid_bits h).2.1
  have hp1 := Nat.two_pow_pos M
  obtain ⟨v, b, t, e, v0, v1, _, g, g'⟩ := pick_v hb hl (a := 0) (by omega) (by omega) 0 ((2 ^ M : Nat) : Int) (by omega)
  obtain ⟨v', b', t', e', v0', v1', _, _, _⟩ := pick_v hb hl (a := b) (by omega) (by omega) t ((2 ^ M : Nat) : Int) (by omega)
  refine ⟨v'.toNat, by have := v1' (by omega); omega, ?_⟩
  have w1 : wrap64 ((0 : Int) + 1) = 1 := by rw [wr (by omega) (by omega)]; rfl
  have w2 : wrap64 ((1 : Int) + 1) = 2 := by rw [wr (by omega) (by omega)]; rfl
  rw [spec_A2Element.d_eq]
  unfold spec_l00From.f
  rw [bind_some', spec_A2Element.l0d_eq, if_pos (by omega), size_nat h, bind_some']
  show (spec_l00Src_pick.f l 0 0 ((2 ^ M : Nat) : Int)).bind _ = _
  rw [e, bind_some', w1, spec_A2Element.l0d_eq, if_pos (by omega), size_nat h, bind_some']
  show (spec_l00Src_pick.f l b t ((2 ^ M : Nat) : Int)).bind _ = _
  rw [e', bind_some', w2, spec_A2Element.l0d_eq, if_neg (by omega)]
  show some v' = _
  congr 1; omega
theorem elemB_nat2 {N x : Nat} (h : x < 2 ^ N) : elemB (N : Int) (x : Int) = true := by
  unfold elemB
  have e : ((2 ^ N : Nat) : Int) = (2 : Int) ^ N := by simp
  simp only [Bool.and_eq_true, decide_eq_true_eq, Int.toNat_natCast]
  omega
theorem code_v {M Q : Nat} (h : validB (M : Int) (Q : Int) = true) {l : List Nat} (hl : l.length ≤ 10) (hx : ∀ x ∈ l, x < 2 ^ M) : impl_Field_code.d (M : Int) (Q : Int) true (up l) = some 0 := by
  have : (up l).all (elemB (M : Int)) = true := by
    rw [List.all_eq_true]
    intro x hx'
    obtain ⟨y, hy, rfl⟩ := List.mem_map.mp hx'
    exact elemB_nat2 (hx y hy)
  rw [impl_Field_code.d_eq, i_ValidField_v, bind_some', if_pos h, i_has_v h _ (by rw [up_length]; omega), bind_some', if_pos this, if_pos rfl]
theorem code1_v {M Q : Nat} (h : validB (M : Int) (Q : Int) = true) {a : Nat} (ha : a < 2 ^ M) : impl_Field_code.d (M : Int) (Q : Int) true [(a : Int)] = some 0 := code_v h (l := [a]) (by simp) (by simpa using ha)
theorem code2_v {M Q : Nat} (h : validB (M : Int) (Q : Int) = true) {a b : Nat} (ha : a < 2 ^ M) (hb : b < 2 ^ M) : impl_Field_code.d (M : Int) (Q : Int) true [(a : Int), (b : Int)] = some 0 := code_v h (l := [a, b]) (by simp) (by simp; exact ⟨ha, hb⟩)
theorem in1000 {n : Nat} (hn : n ≤ 1000) : impl_within.f (n : Int) 0 1000 = some true := by
  unfold impl_within.f
  rw [if_pos (by omega), decide_eq_true (by omega)]
theorem powIn_v {M Q : Nat} (h : validB (M : Int) (Q : Int) = true) {a n : Nat} (ha : a < 2 ^ M) (hn : n ≤ 1000) : impl_PowerIn.d (M : Int) (Q : Int) (a : Int) (n : Int) = some (((npow M Q a n : Nat) : Int), 0) := by
  rw [impl_PowerIn.d_eq, in1000 hn, bind_some', code1_v h ha, bind_some', if_pos rfl, i_power_v h (by omega) ha, bind_some']
theorem mulIn_v {M Q : Nat} (h : validB (M : Int) (Q : Int) = true) {a b : Nat} (ha : a < 2 ^ M) (hb : b < 2 ^ M) : impl_MulIn.d (M : Int) (Q : Int) (a : Int) (b : Int) = some (((fmul M Q a b : Nat) : Int), 0) := by
  rw [impl_MulIn.d_eq, code2_v h ha hb, bind_some', if_pos rfl, i_mul_v h ha hb, bind_some']
theorem long_v {l0 l1 : List Int} (h : ¬ (l0.length ≤ 3000 ∧ l1.length ≤ 3000)) : laws_a2Long.f l0 l1 = some true := by
  unfold laws_a2Long.f
  by_cases c0 : (l0.length : Int) > 3000
  · rw [if_pos c0]
  · rw [if_neg c0, decide_eq_true (by omega)]
theorem short_v {l0 l1 : List Int} (h0 : l0.length ≤ 3000) (h1 : l1.length ≤ 3000) : laws_a2Long.f l0 l1 = some false := by
  unfold laws_a2Long.f
  rw [if_neg (by omega), decide_eq_false (by omega)]
end Go.Proofs.Ytkedpfkdnhameaa.P
end
section
namespace Go.Proofs.Ytkedpfkdnhameaa.P
open Go.RowKit Go.Proofs.YtkedpfkdnhameaaW.PrintWords Go.Proofs.YtkedpfkdnhameaaW.PrintLast Go.Proofs.YtkedpfkdnhameaaW.PrintMore
set_option linter.unusedVariables false
set_option linter.unusedSimpArgs false
/-- a, its square, .. , till a comes again -/
def cjN (m p a : Nat) : Nat → Nat → List Nat
  | 0, _ => []
  | k + 1, x => if x = a then [] else x :: cjN m p a k (fmul m p x x)
def conjN (m p a : Nat) : List Nat := a :: cjN m p a 6 (fmul m p a a)
def stepN (m p c : Nat) (poly : List Nat) : List Nat := (0 :: poly).mapIdx fun i x => x ^^^ fmul m p (poly.getD i 0) c
def minN (m p a : Nat) : Nat := (((conjN m p a).foldl (fun q c => stepN m p c q) [1]).mapIdx fun i x => x * 2 ^ i).foldl (· ^^^ ·) 0
def trN (m p a : Nat) : Nat → Nat
  | 0 => 0
  | k + 1 => trN m p a k ^^^ fsq m p k a
def splN (m p a : Nat) : Nat → Nat → Option Nat
  | 0, _ => none
  | k + 1, b => if b ^^^ fmul m p b b = a then some b else splN m p a k (b + 1)
def splI (m p a : Nat) : Int × Int := match splN m p a (2 ^ m) 0 with
  | some b => ((b : Int), 0)
  | none => (0, 6)
def evB (m p : Nat) : Bool := (List.range (2 ^ m)).all fun a => (impl_ConjugatesIn.f 100 (m : Int) (p : Int) (a : Int) == some (up (conjN m p a), 0) && impl_MinimalPoly.f 100 (m : Int) (p : Int) (a : Int) == some (((minN m p a : Nat) : Int), 0)) && (impl_TraceIn.f 100 (m : Int) (p : Int) (a : Int) == some (((trN m p a m : Nat) : Int), 0) && impl_SplitIn.f 100 (m : Int) (p : Int) (a : Int) == some (splI m p a))
theorem ev_2 : evB 1 2 = true := by decide +kernel
theorem ev_3 : evB 1 3 = true := by decide +kernel
theorem ev_7 : evB 2 7 = true := by decide +kernel
theorem ev_11 : evB 3 11 = true := by decide +kernel
theorem ev_13 : evB 3 13 = true := by decide +kernel
theorem ev_19 : evB 4 19 = true := by decide +kernel
theorem ev_25 : evB 4 25 = true := by decide +kernel
theorem ev_31 : evB 4 31 = true := by decide +kernel
theorem ev_37 : evB 5 37 = true := by decide +kernel
theorem ev_41 : evB 5 41 = true := by decide +kernel
theorem ev_47 : evB 5 47 = true := by decide +kernel
theorem ev_55 : evB 5 55 = true := by decide +kernel
theorem ev_59 : evB 5 59 = true := by decide +kernel
theorem ev_61 : evB 5 61 = true := by decide +kernel
theorem ev_all {M Q : Nat} (h : validB (M : Int) (Q : Int) = true) : evB M Q = true := by
  have h' : ((M : Int), (Q : Int)) ∈ fields14 := by simpa [validB] using h
  have key : ∀ f ∈ fields14, evB f.1.toNat f.2.toNat = true := by
    intro f hf
    simp only [fields14, List.mem_cons, List.not_mem_nil, or_false] at hf
    rcases hf with rfl | rfl | rfl | rfl | rfl | rfl | rfl | rfl | rfl | rfl | rfl | rfl | rfl | rfl
    · exact ev_2
    · exact ev_3
    · exact ev_7
    · exact ev_11
    · exact ev_13
    · exact ev_19
    · exact ev_25
    · exact ev_31
    · exact ev_37
    · exact ev_41
    · exact ev_47
    · exact ev_55
    · exact ev_59
    · exact ev_61
  exact key _ h'
theorem ev_get {M Q : Nat} (h : validB (M : Int) (Q : Int) = true) {a : Nat} (ha : a < 2 ^ M) : impl_ConjugatesIn.d (M : Int) (Q : Int) (a : Int) = some (up (conjN M Q a), 0) ∧ impl_MinimalPoly.d (M : Int) (Q : Int) (a : Int) = some (((minN M Q a : Nat) : Int), 0) ∧
    impl_TraceIn.d (M : Int) (Q : Int) (a : Int) = some (((trN M Q a M : Nat) : Int), 0) ∧ impl_SplitIn.d (M : Int) (Q : Int) (a : Int) = some (splI M Q a) := by
  have e := List.all_eq_true.mp (ev_all h) a (List.mem_range.mpr ha)
  simp only [Bool.and_eq_true, beq_iff_eq] at e
  exact ⟨((impl_ConjugatesIn.lim _ _ _).2 _).mpr ⟨100, e.1.1⟩, ((impl_MinimalPoly.lim _ _ _).2 _).mpr ⟨100, e.1.2⟩, ((impl_TraceIn.lim _ _ _).2 _).mpr ⟨100, e.2.1⟩, ((impl_SplitIn.lim _ _ _).2 _).mpr ⟨100, e.2.2⟩⟩
end Go.Proofs.Ytkedpfkdnhameaa.P
end
section
namespace Go.Proofs.Ytkedpfkdnhameaa.P
open Go.RowKit Go.Proofs.YtkedpfkdnhameaaW.PrintWords Go.Proofs.YtkedpfkdnhameaaW.PrintLast Go.Proofs.YtkedpfkdnhameaaW.PrintMore
set_option linter.unusedVariables false
set_option linter.unusedSimpArgs false
def sumN (m p q c : Nat) : Nat → Nat
  | 0 => 0
  | k + 1 => if q.testBit k = true then sumN m p q c k ^^^ npow m p c k else sumN m p q c k
def onesN (m p : Nat) : Nat → Nat
  | 0 => 0
  | x + 1 => onesN m p x + trN m p x m
def cjB (m p : Nat) : Bool := (2 * onesN m p (2 ^ m) == 2 ^ m) && (List.range (2 ^ m)).all fun a => ((decide ((conjN m p a).length ≤ 8) && (m % (conjN m p a).length == 0)) && (irrB ((minN m p a : Nat) : Int) && decide (minN m p a < 64))) && (((conjN m p a).all fun c => decide (c < 2 ^ m) && ((minN m p c == minN m p a) && (sumN m p (minN m p a) c ((conjN m p a).length + 1) == 0))) &&
  (decide (trN m p a m ≤ 1) && (match splN m p a (2 ^ m) 0 with
    | some b => (trN m p a m == 0) && (decide (b < 2 ^ m) && (b ^^^ fmul m p b b == a))
    | none => trN m p a m == 1)))
theorem cj_all : (fields14.all fun f => cjB f.1.toNat f.2.toNat) = true := by decide +kernel
theorem cj_of {M Q : Nat} (h : validB (M : Int) (Q : Int) = true) : cjB M Q = true := by
  have h' : ((M : Int), (Q : Int)) ∈ fields14 := by simpa [validB] using h
  have := List.all_eq_true.mp cj_all _ h'
  simpa using this
theorem cj_get {M Q : Nat} (h : validB (M : Int) (Q : Int) = true) {a : Nat} (ha : a < 2 ^ M) : (conjN M Q a).length ≤ 8 ∧ M % (conjN M Q a).length = 0 ∧ irrB ((minN M Q a : Nat) : Int) = true ∧ minN M Q a < 64 ∧ (∀ c ∈ conjN M Q a, c < 2 ^ M ∧ minN M Q c = minN M Q a ∧ sumN M Q (minN M Q a) c ((conjN M Q a).length + 1) = 0) ∧
    trN M Q a M ≤ 1 ∧ ((∃ b : Nat, splI M Q a = ((b : Int), 0) ∧ trN M Q a M = 0 ∧ b < 2 ^ M ∧ b ^^^ fmul M Q b b = a) ∨ (splI M Q a = (0, 6) ∧ trN M Q a M = 1)) := by
  have e := cj_of h
  unfold cjB at e
  rw [Bool.and_eq_true] at e
  have e2 := List.all_eq_true.mp e.2 a (List.mem_range.mpr ha)
  simp only [Bool.and_eq_true, decide_eq_true_eq, beq_iff_eq] at e2
  obtain ⟨⟨⟨e3, e4⟩, e5, e6⟩, e7, e8, e9⟩ := e2
  refine ⟨e3, e4, e5, e6, fun c hc => ?_, e8, ?_⟩
  · have := List.all_eq_true.mp e7 c hc
    simp only [Bool.and_eq_true, decide_eq_true_eq, beq_iff_eq] at this
    exact ⟨this.1, this.2.1, this.2.2⟩
  · unfold splI
    cases hs : splN M Q a (2 ^ M) 0 with
    | some b =>
      rw [hs] at e9
      simp only [Bool.and_eq_true, decide_eq_true_eq, beq_iff_eq] at e9
      exact .inl ⟨b, rfl, e9.1, e9.2.1, e9.2.2⟩
    | none =>
      rw [hs] at e9
      simp only [beq_iff_eq] at e9
      exact .inr ⟨rfl, e9⟩
theorem ones_v {M Q : Nat} (h : validB (M : Int) (Q : Int) = true) : 2 * onesN M Q (2 ^ M) = 2 ^ M := by
  have e := cj_of h
  unfold cjB at e
  rw [Bool.and_eq_true] at e
  simpa using e.1
theorem trN_xor {M Q : Nat} (h : validB (M : Int) (Q : Int) = true) {x y : Nat} (hx : x < 2 ^ M) (hy : y < 2 ^ M) : ∀ k, trN M Q (x ^^^ y) k = trN M Q x k ^^^ trN M Q y k
  | 0 => by simp [trN]
  | k + 1 => by rw [trN, trN, trN, trN_xor h hx hy k, fsq_xor h k hx hy, xor4]
theorem sumN_lt {M Q : Nat} (h : validB (M : Int) (Q : Int) = true) (q : Nat) {c : Nat} (hc : c < 2 ^ M) : ∀ k, sumN M Q q c k < 2 ^ M
  | 0 => Nat.two_pow_pos M
  | k + 1 => by
    rw [sumN]
    split
    · exact Nat.xor_lt_two_pow (sumN_lt h q hc k) (npow_lt h hc k)
    · exact sumN_lt h q hc k
theorem c1_v {M Q : Nat} (h : validB (M : Int) (Q : Int) = true) {L : List Nat} (hL : L.length ≤ 8) {i : Nat} (hi : i < L.length) (hc : L[i] < 2 ^ M) {q : Nat} (hq : q < 64) (h0 : sumN M Q q L[i] (L.length + 1) = 0) (G a b : Int) :
    laws_FnConjugates.l1d G a b (up L) (q : Int) (i : Int) (q : Int) 0 0 0 (M : Int) (Q : Int) = laws_FnConjugates.l0d G a b (up L) (q : Int) ((i + 1 : Nat) : Int) (M : Int) (Q : Int) := by
  have key : ∀ k, k ≤ L.length + 1 → laws_FnConjugates.l1d G a b (up L) (q : Int) (i : Int) (q : Int) 0 ((sumN M Q q L[i] k : Nat) : Int) (k : Int) (M : Int) (Q : Int) = laws_FnConjugates.l0d G a b (up L) (q : Int) ((i + 1 : Nat) : Int) (M : Int) (Q : Int) := by
    apply down
    · rw [laws_FnConjugates.l1d_eq, if_neg (by rw [up_length]; omega), if_pos rfl, if_pos rfl, h0, if_pos (by rfl), wrS hi (by omega)]
    · intro k hk e
      have s5 := lt_mono (sumN_lt h q hc k) (valid_bits h).2.1
      have n5 := lt_mono (npow_lt h hc k) (valid_bits h).2.1
      rw [laws_FnConjugates.l1d_eq, if_pos (by rw [up_length]; omega), u64_id (by omega) (by omega), if_pos (by omega), bit_test (by omega) (by omega), wrS hk (by omega), ← e, sumN]
      by_cases c : q.testBit k = true
      · rw [if_pos c, if_pos rfl, if_pos (by omega), if_pos (by rw [up_length]; omega), up_get hi, powIn_v h hc (by omega), bind_some', if_pos rfl, if_pos c]
        show laws_FnConjugates.l1d G a b (up L) (q : Int) (i : Int) (q : Int) 0 (Go.bits .xor .i64 ((sumN M Q q L[i] k : Nat) : Int) ((npow M Q L[i] k : Nat) : Int)) _ _ _ = _
        rw [bxor (by omega) (by omega)]
      · rw [if_neg c, if_neg (by decide), if_neg c]
  exact key 0 (by omega)
theorem c0_v {M Q : Nat} (h : validB (M : Int) (Q : Int) = true) {L : List Nat} (hL : L.length ≤ 8) {q : Nat} (hq : q < 64) (hc : ∀ c ∈ L, c < 2 ^ M ∧ minN M Q c = q ∧ sumN M Q q c (L.length + 1) = 0) (G a b : Int) :
    laws_FnConjugates.l0d G a b (up L) (q : Int) 0 (M : Int) (Q : Int) = laws_FnConjugates.l2d G a b 0 0 (M : Int) (Q : Int) := by
  have key : ∀ i, i ≤ L.length → laws_FnConjugates.l0d G a b (up L) (q : Int) (i : Int) (M : Int) (Q : Int) = laws_FnConjugates.l2d G a b 0 0 (M : Int) (Q : Int) := by
    apply down
    · rw [laws_FnConjugates.l0d_eq, if_neg (by rw [up_length]; omega)]
    · intro i hi e
      obtain ⟨k1, k2, k3⟩ := hc _ (List.getElem_mem hi)
      rw [laws_FnConjugates.l0d_eq, if_pos (by rw [up_length]; omega), if_pos (by omega), up_get hi, (ev_get h k1).2.1, bind_some', k2, ← e]
      exact c1_v h hL hi k1 hq k3 G a b
  exact key 0 (by omega)
theorem c2_v {M Q : Nat} (h : validB (M : Int) (Q : Int) = true) {a b : Nat} (ha : a < 2 ^ M) (hb : b < 2 ^ M) : laws_FnConjugates.l2d ((2 ^ M : Nat) : Int) (a : Int) (b : Int) 0 0 (M : Int) (Q : Int) = some true := by
  have hv := valid_bits h
  have hp : 2 ^ M ≤ 2 ^ 5 := Nat.pow_le_pow_right (by omega) hv.2.1
  have on : ∀ x, x ≤ 2 ^ M → onesN M Q x ≤ x := by
    intro x
    induction x with
    | zero => intro _; exact Nat.le_refl _
    | succ x ih => intro hx; have := ih (by omega); have := (cj_get h (a := x) (by omega)).2.2.2.2.2.1; rw [onesN]; omega
  have key : ∀ x, x ≤ 2 ^ M → laws_FnConjugates.l2d ((2 ^ M : Nat) : Int) (a : Int) (b : Int) ((onesN M Q x : Nat) : Int) (x : Int) (M : Int) (Q : Int) = some true := by
    apply down
    · have a5 := lt_mono ha hv.2.1
      have b5 := lt_mono hb hv.2.1
      have ta := (cj_get h ha).2.2.2.2.2.1
      have tb := (cj_get h hb).2.2.2.2.2.1
      have o2 := ones_v h
      have w : wrap64 (2 * ((onesN M Q (2 ^ M) : Nat) : Int)) = ((2 ^ M : Nat) : Int) := by rw [wr (by omega) (by omega)]; omega
      rw [laws_FnConjugates.l2d_eq, if_neg (by omega), (ev_get h ha).2.2.1, bind_some', (ev_get h hb).2.2.1, bind_some', bxor (a := a) (b := b) (by omega) (by omega), (ev_get h (Nat.xor_lt_two_pow ha hb)).2.2.1, bind_some', if_pos rfl, if_pos rfl, if_pos rfl]
      show (if ((trN M Q (a ^^^ b) M : Nat) : Int) = Go.bits .xor .i64 ((trN M Q a M : Nat) : Int) ((trN M Q b M : Nat) : Int) then _ else _) = _
      rw [bxor (by omega) (by omega), trN_xor h ha hb, if_pos rfl, w]; simp
    · intro x hx e
      obtain ⟨_, _, _, _, _, t1, cs⟩ := cj_get h hx
      have ox := on x (by omega)
      rw [laws_FnConjugates.l2d_eq, if_pos (by omega), (ev_get h hx).2.2.1, bind_some', (ev_get h hx).2.2.2, bind_some', if_pos rfl]
      rcases cs with ⟨b', q1, q2, q3, q4⟩ | ⟨q1, q2⟩
      · have ee : wrap64 (((onesN M Q x : Nat) : Int) + ((0 : Nat) : Int)) = ((onesN M Q (x + 1) : Nat) : Int) := by rw [wr (by omega) (by omega), onesN, q2]; omega
        have b5 := lt_mono q3 hv.2.1
        have m5 := lt_mono (fmul_lt h q3 b') hv.2.1
        rw [q1, q2]
        show (if ((0 : Nat) : Int) = 0 then laws_FnConjugates.j4d _ _ _ _ _ ((0 : Nat) : Int) (b' : Int) (((0 : Int) == 0) != (((0 : Nat) : Int) == 0)) _ _ else _) = _
        rw [if_pos (by rfl), show (((0 : Int) == 0) != (((0 : Nat) : Int) == 0)) = false from rfl, laws_FnConjugates.j4d_eq, if_neg (by decide), if_pos (by rfl), if_neg (by omega), decide_eq_false (by omega), ee, laws_FnConjugates.j5d_eq, if_neg (by decide), mulIn_v h q3 q3, bind_some', if_pos rfl]
        show (if Go.bits .xor .i64 (b' : Int) ((fmul M Q b' b' : Nat) : Int) = (x : Int) then _ else _) = _
        rw [bxor (by omega) (by omega), q4, if_pos rfl, wrS hx (by omega), e]
      · have ee : wrap64 (((onesN M Q x : Nat) : Int) + ((1 : Nat) : Int)) = ((onesN M Q (x + 1) : Nat) : Int) := by rw [wr (by omega) (by omega), onesN, q2]; omega
        rw [q1, q2]
        show (if ((1 : Nat) : Int) = 0 then _ else (if ((1 : Nat) : Int) = 1 then laws_FnConjugates.j4d _ _ _ _ _ ((1 : Nat) : Int) 0 (((6 : Int) == 0) != (((1 : Nat) : Int) == 0)) _ _ else _)) = _
        rw [if_neg (by decide), if_pos (by rfl), show (((6 : Int) == 0) != (((1 : Nat) : Int) == 0)) = false from rfl, laws_FnConjugates.j4d_eq, if_neg (by decide), if_neg (by decide), ee, wrS hx (by omega), e]
  exact key 0 (Nat.zero_le _)
theorem below_v {M : Nat} (hM : M ≤ 5) {L : List Nat} (hL : L.length ≤ 8) (hc : ∀ c ∈ L, c < 2 ^ M) : laws_a2Below.d (up L) ((2 ^ M : Nat) : Int) = some true := by
  rw [laws_a2Below.d_eq]
  have key : ∀ i, i ≤ L.length → laws_a2Below.l0d (up L) ((2 ^ M : Nat) : Int) (i : Int) = some true := by
    apply down
    · rw [laws_a2Below.l0d_eq, if_neg (by rw [up_length]; omega)]
    · intro i hi e
      have := hc _ (List.getElem_mem hi)
      rw [laws_a2Below.l0d_eq, if_pos (by rw [up_length]; omega), if_pos (by omega), up_get hi, if_neg (by omega), if_neg (by omega), wrS hi (by omega), e]
  exact key 0 (by omega)
theorem FnConj_fin {l0 l1 : List Int} {m q a b n : Int} {L : List Int} {r : Int} (eL : laws_a2Long.f l0 l1 = some false) (eF : spec_A2Field.d l0 = some (m, q)) (uM : IntKind.u64.wrap m = m) (zM : (0 ≤ m) = True) (ea : spec_A2Element.d l1 m q 0 = some a) (eb : spec_A2Element.d l1 m q 1 = some b)
    (eC : impl_ConjugatesIn.d m q a = some (L, 0)) (eM : impl_MinimalPoly.d m q a = some (r, 0)) (sM : shl .i64 1 m = n) (f1 : ((L.length : Int) < 1) = False) (f2 : (0 < (L.length : Int)) = True) (f3 : (rd L 0 = a) = True) (eB : laws_a2Below.d L n = some true) (f4 : ((L.length : Int) = 0) = False) (f5 : (Int.tmod m (L.length : Int) = 0) = True)
    (eI : impl_IsIrreducible.d r = some true) (j0 : laws_FnConjugates.l0d n a b L r 0 m q = some true) : laws_FnConjugates.d l0 l1 = some true := by
  rw [laws_FnConjugates.d_eq, eL]
  simp only [bind_some', Bool.false_eq_true, if_false, eF, uM, zM, if_true, ea, eb, eC, eM, sM, f1, f2, f3, eB, f4, f5, eI, Bool.not_true]
  rw [laws_FnConjugates.j0d_eq, if_neg (by decide)]
  exact j0
theorem FnConjugates_law (l0 l1 : List Int) (h1 : ∀ x ∈ l0, (Lit.int .u8 x).wf = true) (h3 : ∀ x ∈ l1, (Lit.int .u8 x).wf = true) : laws_FnConjugates.d l0 l1 = some true := by
  by_cases c : ¬ (l0.length ≤ 3000 ∧ l1.length ≤ 3000)
  · rw [laws_FnConjugates.d_eq, long_v c, bind_some', if_pos rfl]
  · obtain ⟨c0, c1⟩ := Classical.not_not.mp c
    have b0 := bytes_of h1
    have b1 := bytes_of h3
    obtain ⟨M, Q, eF, h⟩ := field_v b0 c0
    obtain ⟨a, ha, ea⟩ := el0_v b1 c1 h
    obtain ⟨b, hb, eb⟩ := el1_v b1 c1 h
    have hv := valid_bits h
    obtain ⟨g1, g2, g3, g4, g5, _⟩ := cj_get h ha
    obtain ⟨e1, e2, _⟩ := ev_get h ha
    have gl : 1 ≤ (conjN M Q a).length := by simp [conjN]
    have l0v := c0_v h g1 g4 g5 ((2 ^ M : Nat) : Int) (a : Int) (b : Int)
    rw [c2_v h ha hb] at l0v
    exact FnConj_fin (short_v c0 c1) eF (u64_id (by omega) (by omega)) (eq_true (by omega)) ea eb e1 e2 (shl_one (by omega)) (eq_false (by rw [up_length]; omega)) (eq_true (by rw [up_length]; omega)) (eq_true rfl) (below_v hv.2.1 g1 fun c hc => (g5 c hc).1) (eq_false (by rw [up_length]; omega))
      (eq_true (by rw [up_length, tmod_nat, g2]; rfl)) (by rw [i_IsIrreducible_v, g3]) l0v
end Go.Proofs.Ytkedpfkdnhameaa.P
end
section
namespace Go.Proofs.Ytkedpfkdnhameaa.P
open Go.RowKit Go.Proofs.YtkedpfkdnhameaaW.PrintWords Go.Proofs.YtkedpfkdnhameaaW.PrintLast Go.Proofs.YtkedpfkdnhameaaW.PrintMore
/-- The one pure statement of laws_FnConjugates. -/
def laws_FnConjugates.Pure : Prop := ∀ (l0 : List Int) (l1 : List Int), (l0.length ≤ maxLen) → (∀ x ∈ l0, (Lit.int .u8 x).wf = true) → (l1.length ≤ maxLen) → (∀ x ∈ l1, (Lit.int .u8 x).wf = true) → ∃ k, laws_FnConjugates.f k l0 l1 = some true
end Go.Proofs.Ytkedpfkdnhameaa.P
end
section
namespace Go.Proofs.Ytkedpfkdnhameaa.Pure
theorem FnConjugates : P.laws_FnConjugates.Pure := fun l0 l1 _ h1_ _ h3_ => P.IsLim.some_ (P.laws_FnConjugates.lim l0 l1) (P.FnConjugates_law l0 l1 h1_ h3_)
end Go.Proofs.Ytkedpfkdnhameaa.Pure
end
