/- What the functions of the law FnExactMatrixOfLinear tell without rounds, and its pure statement. -/
import Derived.Test.YtbgbblgdbcjibaaPx0
import Derived.Test.YtbgbblgdbcjibaaPx1
import Derived.Test.YtbgbblgdbcjibaaPx2
import Derived.Test.YtbgbblgdbcjibaaPx6
import Derived.Test.YtbgbblgdbcjibaaPx10
import Derived.Test.YtbgbblgdbcjibaaPx26
import Derived.Test.YtbgbblgdbcjibaaPx3
import Derived.Test.YtbgbblgdbcjibaaPx7
import Derived.Test.YtbgbblgdbcjibaaPx12
import Derived.Test.YtbgbblgdbcjibaaPx27
import Derived.Test.YtbgbblgdbcjibaaPx13
import Derived.Test.YtbgbblgdbcjibaaPx28
import Derived.Test.YtbgbblgdbcjibaaPx4
import Derived.Test.YtbgbblgdbcjibaaPx11
import Derived.Test.YtbgbblgdbcjibaaPx29
import Derived.Test.YtbgbblgdbcjibaaPx5
import Derived.Test.YtbgbblgdbcjibaaPx30
import Derived.Test.YtbgbblgdbcjibaaPx8
import Derived.Test.YtbgbblgdbcjibaaPx36
import Derived.ProofKit
import Derived.Test.YtbgbblgdbcjibaaPx18
section
namespace Go.Proofs.Ytbgbblgdbcjibaa.P
open Go.RowKit Go.Proofs.YtbgbblgdbcjibaaW.PrintWords Go.Proofs.YtbgbblgdbcjibaaW.PrintLast Go.Proofs.YtbgbblgdbcjibaaW.PrintMore
def IsLim {α : Type} (g : Nat → Option α) (v : Option α) : Prop := (∀ k, LeO (g k) (g (k + 1))) ∧ ∀ r, v = some r ↔ ∃ k, g k = some r
theorem leO_le {α : Type} {g : Nat → Option α} (h : ∀ k, LeO (g k) (g (k + 1))) {j k : Nat} (hjk : j ≤ k) : LeO (g j) (g k) := by
  induction hjk with
  | refl => exact fun _ e => e
  | step _ ih => exact fun r e => h _ r (ih r e)
open Classical in
noncomputable def lim {α : Type} (g : Nat → Option α) : Option α := if h : ∃ r, ∃ k, g k = some r then some h.choose else none
theorem lim_spec {α : Type} {g : Nat → Option α} (h : ∀ k, LeO (g k) (g (k + 1))) : IsLim g (lim g) := by
  refine ⟨h, fun r => ?_⟩
  unfold lim
  by_cases hx : ∃ r, ∃ k, g k = some r
  · rw [dif_pos hx]
    obtain ⟨k, hk⟩ := hx.choose_spec
    constructor
    · intro e; exact ⟨k, by rw [hk]; exact e⟩
    · rintro ⟨j, hj⟩
      have a := leO_le h (Nat.le_max_left j k) _ hj
      have b := leO_le h (Nat.le_max_right j k) _ hk
      rw [a] at b; exact b.symm
  · rw [dif_neg hx]
    constructor
    · intro e; cases e
    · rintro ⟨k, hk⟩; exact absurd ⟨r, k, hk⟩ hx
theorem IsLim.unique {α : Type} {g : Nat → Option α} {v v' : Option α} (h : IsLim g v) (h' : IsLim g v') : v = v' :=
  Option.ext fun r => (h.2 r).trans (h'.2 r).symm
theorem IsLim.const {α : Type} (v : Option α) : IsLim (fun _ => v) v := ⟨fun _ _ e => e, fun _ => ⟨fun e => ⟨0, e⟩, fun ⟨_, e⟩ => e⟩⟩
theorem IsLim.ite {α : Type} {c : Prop} [Decidable c] {g g' : Nat → Option α} {v v' : Option α} (h : IsLim g v) (h' : IsLim g' v') :
    IsLim (fun k => if c then g k else g' k) (if c then v else v') := by
  by_cases hc : c
  · simp only [if_pos hc]; exact h
  · simp only [if_neg hc]; exact h'
theorem IsLim.bind {α β : Type} {g : Nat → Option α} {v : Option α} {q : Nat → α → Option β} {w : α → Option β}
    (h : IsLim g v) (hq : ∀ x, IsLim (fun k => q k x) (w x)) : IsLim (fun k => (g k).bind (q k)) (v.bind w) := by
  refine ⟨fun k r e => ?_, fun r => ?_⟩
  · obtain ⟨x, hx, hr⟩ := Option.bind_eq_some_iff.mp e
    exact Option.bind_eq_some_iff.mpr ⟨x, h.1 k x hx, (hq x).1 k r hr⟩
  · constructor
    · intro e
      obtain ⟨x, hx, hr⟩ := Option.bind_eq_some_iff.mp e
      obtain ⟨j, hj⟩ := (h.2 x).mp hx
      obtain ⟨k, hk⟩ := ((hq x).2 r).mp hr
      exact ⟨max j k, Option.bind_eq_some_iff.mpr ⟨x, leO_le h.1 (Nat.le_max_left j k) _ hj, leO_le (hq x).1 (Nat.le_max_right j k) _ hk⟩⟩
    · rintro ⟨k, e⟩
      obtain ⟨x, hx, hr⟩ := Option.bind_eq_some_iff.mp e
      exact Option.bind_eq_some_iff.mpr ⟨x, (h.2 x).mpr ⟨k, hx⟩, ((hq x).2 r).mpr ⟨k, hr⟩⟩
theorem IsLim.shift {α : Type} {g : Nat → Option α} {v : Option α} (h0 : g 0 = none) (h : IsLim (fun k => g (k + 1)) v) : IsLim g v := by
  refine ⟨fun k => ?_, fun r => ?_⟩
  · cases k with
    | zero => intro r e; rw [h0] at e; cases e
    | succ k => exact h.1 k
  · rw [h.2 r]
    constructor
    · rintro ⟨k, e⟩; exact ⟨k + 1, e⟩
    · rintro ⟨k, e⟩
      cases k with
      | zero => rw [h0] at e; cases e
      | succ k => exact ⟨k, e⟩
theorem IsLim.some_ {α : Type} {g : Nat → Option α} {v : Option α} {r : α} (h : IsLim g v) (e : v = some r) : ∃ k, g k = some r := (h.2 r).mp e
end Go.Proofs.Ytbgbblgdbcjibaa.P
end
section
namespace Go.Proofs.Ytbgbblgdbcjibaa.P
open Go.RowKit Go.Proofs.YtbgbblgdbcjibaaW.PrintWords Go.Proofs.YtbgbblgdbcjibaaW.PrintLast Go.Proofs.YtbgbblgdbcjibaaW.PrintMore
set_option linter.unusedVariables false
set_option linter.unusedSimpArgs false
noncomputable def spec_l01Degree.l0d (x0 : Int) (x3 : Int) : Option (Int) := lim (fun k => spec_l01Degree.l0 k x0 x3)
theorem spec_l01Degree.l0lim (x0 : Int) (x3 : Int) : IsLim (fun k => spec_l01Degree.l0 k x0 x3) (spec_l01Degree.l0d x0 x3) := lim_spec (fun k => (spec_l01Degree.mono_l k) x0 x3)
theorem spec_l01Degree.l0d_eq (x0 : Int) (x3 : Int) : spec_l01Degree.l0d x0 x3 = if x0 > 0 then (spec_l01Degree.l0d (wrap64 (Int.tdiv x0 2)) (wrap64 (x3 + 1))) else (some x3) := by
  refine IsLim.unique (spec_l01Degree.l0lim _ _) ?_
  refine IsLim.shift (by rfl) ?_
  simp only [spec_l01Degree.l0]
  repeat' (first | exact IsLim.const _ | refine IsLim.ite ?_ ?_ | refine IsLim.bind ?_ (fun _ => ?_) | exact spec_l01Degree.l0lim ..)
noncomputable def spec_l01Degree.d (a0 : Int) : Option (Int) := lim (fun k => spec_l01Degree.f k a0)
theorem spec_l01Degree.lim (a0 : Int) : IsLim (fun k => spec_l01Degree.f k a0) (spec_l01Degree.d a0) := lim_spec (fun k => spec_l01Degree.mono a0 k)
theorem spec_l01Degree.d_eq (a0 : Int) : spec_l01Degree.d a0 = spec_l01Degree.l0d a0 (-1) := by
  refine IsLim.unique (spec_l01Degree.lim _) ?_
  unfold spec_l01Degree.f
  repeat' (first | exact IsLim.const _ | refine IsLim.ite ?_ ?_ | refine IsLim.bind ?_ (fun _ => ?_) | exact spec_l01Degree.l0lim ..)
noncomputable def spec_l01Rest.l0d (x0 : Int) (x1 : Int) (x5 : Int) : Option (Int) := lim (fun k => spec_l01Rest.l0 k x0 x1 x5)
theorem spec_l01Rest.l0lim (x0 : Int) (x1 : Int) (x5 : Int) : IsLim (fun k => spec_l01Rest.l0 k x0 x1 x5) (spec_l01Rest.l0d x0 x1 x5) := lim_spec (fun k => (spec_l01Rest.mono_l k) x0 x1 x5)
theorem spec_l01Rest.l0d_eq (x0 : Int) (x1 : Int) (x5 : Int) : spec_l01Rest.l0d x0 x1 x5 = (spec_l01Degree.d x0).bind fun t102 => (if t102 ≥ x5 then ((spec_l01Degree.d x0).bind fun t103 => (if 0 ≤ (IntKind.u64.wrap (wrap64 (t103 - x5))) then (spec_l01Rest.l0d (Go.bits .xor .i64 x0 (shl .i64 x1 (IntKind.u64.wrap (wrap64 (t103 - x5))))) x1 x5) else (none))) else (some x0)) := by
  refine IsLim.unique (spec_l01Rest.l0lim _ _ _) ?_
  refine IsLim.shift (by rfl) ?_
  simp only [spec_l01Rest.l0]
  repeat' (first | exact IsLim.const _ | refine IsLim.ite ?_ ?_ | refine IsLim.bind ?_ (fun _ => ?_) | exact spec_l01Degree.lim .. | exact spec_l01Rest.l0lim ..)
noncomputable def spec_l01Rest.d (a0 : Int) (a1 : Int) : Option (Int) := lim (fun k => spec_l01Rest.f k a0 a1)
theorem spec_l01Rest.lim (a0 : Int) (a1 : Int) : IsLim (fun k => spec_l01Rest.f k a0 a1) (spec_l01Rest.d a0 a1) := lim_spec (fun k => spec_l01Rest.mono a0 a1 k)
theorem spec_l01Rest.d_eq (a0 : Int) (a1 : Int) : spec_l01Rest.d a0 a1 = (spec_l01Degree.d a1).bind fun t101 => (spec_l01Rest.l0d a0 a1 t101) := by
  refine IsLim.unique (spec_l01Rest.lim _ _) ?_
  unfold spec_l01Rest.f
  repeat' (first | exact IsLim.const _ | refine IsLim.ite ?_ ?_ | refine IsLim.bind ?_ (fun _ => ?_) | exact spec_l01Degree.lim .. | exact spec_l01Rest.l0lim ..)
noncomputable def spec_l01Irreducible.d (a0 : Int) : Option (Bool) := lim (fun k => spec_l01Irreducible.f k a0)
theorem spec_l01Irreducible.lim (a0 : Int) : IsLim (fun k => spec_l01Irreducible.f k a0) (spec_l01Irreducible.d a0) := lim_spec (fun k => spec_l01Irreducible.mono a0 k)
noncomputable def spec_IsIrreducible.d (a0 : Int) : Option (Bool) := lim (fun k => spec_IsIrreducible.f k a0)
theorem spec_IsIrreducible.lim (a0 : Int) : IsLim (fun k => spec_IsIrreducible.f k a0) (spec_IsIrreducible.d a0) := lim_spec (fun k => spec_IsIrreducible.mono a0 k)
theorem spec_IsIrreducible.d_eq (a0 : Int) : spec_IsIrreducible.d a0 = if a0 > 0 then (if a0 < 64 then ((spec_l01Irreducible.d a0).bind fun t107 => (some t107)) else (some false)) else (some false) := by
  refine IsLim.unique (spec_IsIrreducible.lim _) ?_
  unfold spec_IsIrreducible.f
  repeat' (first | exact IsLim.const _ | refine IsLim.ite ?_ ?_ | refine IsLim.bind ?_ (fun _ => ?_) | exact spec_l01Irreducible.lim ..)
noncomputable def spec_l01Ok.d (a0_0 : Int) (a0_1 : Int) : Option (Bool) := lim (fun k => spec_l01Ok.f k a0_0 a0_1)
theorem spec_l01Ok.lim (a0_0 : Int) (a0_1 : Int) : IsLim (fun k => spec_l01Ok.f k a0_0 a0_1) (spec_l01Ok.d a0_0 a0_1) := lim_spec (fun k => spec_l01Ok.mono a0_0 a0_1 k)
theorem spec_l01Ok.d_eq (a0_0 : Int) (a0_1 : Int) : spec_l01Ok.d a0_0 a0_1 = (spec_l00In.f a0_0 1 5).bind fun t109 => (if t109 = true then ((spec_IsIrreducible.d a0_1).bind fun t110 => (if t110 = true then ((spec_l01Degree.d a0_1).bind fun t111 => (some (t111 == a0_0))) else (some false))) else (some false)) := by
  refine IsLim.unique (spec_l01Ok.lim _ _) ?_
  unfold spec_l01Ok.f
  repeat' (first | exact IsLim.const _ | refine IsLim.ite ?_ ?_ | refine IsLim.bind ?_ (fun _ => ?_) | exact spec_IsIrreducible.lim .. | exact spec_l01Degree.lim ..)
noncomputable def impl_degreeOf.l0d (x0 : Int) (x3 : Int) : Option (Int) := lim (fun k => impl_degreeOf.l0 k x0 x3)
theorem impl_degreeOf.l0lim (x0 : Int) (x3 : Int) : IsLim (fun k => impl_degreeOf.l0 k x0 x3) (impl_degreeOf.l0d x0 x3) := lim_spec (fun k => (impl_degreeOf.mono_l k) x0 x3)
theorem impl_degreeOf.l0d_eq (x0 : Int) (x3 : Int) : impl_degreeOf.l0d x0 x3 = if x0 > 0 then (impl_degreeOf.l0d (x0 / 2) (wrap64 (x3 + 1))) else (some x3) := by
  refine IsLim.unique (impl_degreeOf.l0lim _ _) ?_
  refine IsLim.shift (by rfl) ?_
  simp only [impl_degreeOf.l0]
  repeat' (first | exact IsLim.const _ | refine IsLim.ite ?_ ?_ | refine IsLim.bind ?_ (fun _ => ?_) | exact impl_degreeOf.l0lim ..)
noncomputable def impl_degreeOf.d (a0 : Int) : Option (Int) := lim (fun k => impl_degreeOf.f k a0)
theorem impl_degreeOf.lim (a0 : Int) : IsLim (fun k => impl_degreeOf.f k a0) (impl_degreeOf.d a0) := lim_spec (fun k => impl_degreeOf.mono a0 k)
theorem impl_degreeOf.d_eq (a0 : Int) : impl_degreeOf.d a0 = impl_degreeOf.l0d a0 (-1) := by
  refine IsLim.unique (impl_degreeOf.lim _) ?_
  unfold impl_degreeOf.f
  repeat' (first | exact IsLim.const _ | refine IsLim.ite ?_ ?_ | refine IsLim.bind ?_ (fun _ => ?_) | exact impl_degreeOf.l0lim ..)
end Go.Proofs.Ytbgbblgdbcjibaa.P
end
section
namespace Go.Proofs.Ytbgbblgdbcjibaa.P
open Go.RowKit Go.Proofs.YtbgbblgdbcjibaaW.PrintWords Go.Proofs.YtbgbblgdbcjibaaW.PrintLast Go.Proofs.YtbgbblgdbcjibaaW.PrintMore
set_option linter.unusedVariables false
set_option linter.unusedSimpArgs false
noncomputable def impl_restOf.l0d (x0 : Int) (x1 : Int) (x5 : Int) : Option (Int) := lim (fun k => impl_restOf.l0 k x0 x1 x5)
theorem impl_restOf.l0lim (x0 : Int) (x1 : Int) (x5 : Int) : IsLim (fun k => impl_restOf.l0 k x0 x1 x5) (impl_restOf.l0d x0 x1 x5) := lim_spec (fun k => (impl_restOf.mono_l k) x0 x1 x5)
theorem impl_restOf.l0d_eq (x0 : Int) (x1 : Int) (x5 : Int) : impl_restOf.l0d x0 x1 x5 = (impl_degreeOf.d x0).bind fun t138 => (if t138 ≥ x5 then ((impl_degreeOf.d x0).bind fun t139 => (if 0 ≤ (wrap64 (t139 - x5)) then (impl_restOf.l0d (Go.bits .xor .i64 x0 (shl .i64 x1 (wrap64 (t139 - x5)))) x1 x5) else (none))) else (some x0)) := by
  refine IsLim.unique (impl_restOf.l0lim _ _ _) ?_
  refine IsLim.shift (by rfl) ?_
  simp only [impl_restOf.l0]
  repeat' (first | exact IsLim.const _ | refine IsLim.ite ?_ ?_ | refine IsLim.bind ?_ (fun _ => ?_) | exact impl_degreeOf.lim .. | exact impl_restOf.l0lim ..)
noncomputable def impl_restOf.d (a0 : Int) (a1 : Int) : Option (Int) := lim (fun k => impl_restOf.f k a0 a1)
theorem impl_restOf.lim (a0 : Int) (a1 : Int) : IsLim (fun k => impl_restOf.f k a0 a1) (impl_restOf.d a0 a1) := lim_spec (fun k => impl_restOf.mono a0 a1 k)
theorem impl_restOf.d_eq (a0 : Int) (a1 : Int) : impl_restOf.d a0 a1 = (impl_degreeOf.d a1).bind fun t137 => (impl_restOf.l0d a0 a1 t137) := by
  refine IsLim.unique (impl_restOf.lim _ _) ?_
  unfold impl_restOf.f
  repeat' (first | exact IsLim.const _ | refine IsLim.ite ?_ ?_ | refine IsLim.bind ?_ (fun _ => ?_) | exact impl_degreeOf.lim .. | exact impl_restOf.l0lim ..)
noncomputable def impl_IsIrreducible.j0d (x0 : Int) (x9 : Bool) : Option (Bool) := lim (fun k => impl_IsIrreducible.j0 k x0 x9)
theorem impl_IsIrreducible.j0lim (x0 : Int) (x9 : Bool) : IsLim (fun k => impl_IsIrreducible.j0 k x0 x9) (impl_IsIrreducible.j0d x0 x9) := lim_spec (fun k => (impl_IsIrreducible.mono_l k).1 x0 x9)
noncomputable def impl_IsIrreducible.l0d (x0 : Int) (x3 : Int) : Option (Bool) := lim (fun k => impl_IsIrreducible.l0 k x0 x3)
theorem impl_IsIrreducible.l0lim (x0 : Int) (x3 : Int) : IsLim (fun k => impl_IsIrreducible.l0 k x0 x3) (impl_IsIrreducible.l0d x0 x3) := lim_spec (fun k => (impl_IsIrreducible.mono_l k).2 x0 x3)
theorem impl_IsIrreducible.j0d_eq (x0 : Int) (x9 : Bool) : impl_IsIrreducible.j0d x0 x9 = if x9 = true then (some false) else (impl_IsIrreducible.l0d x0 2) := by
  refine IsLim.unique (impl_IsIrreducible.j0lim _ _) ?_
  refine IsLim.shift (by rfl) ?_
  simp only [impl_IsIrreducible.j0]
  repeat' (first | exact IsLim.const _ | refine IsLim.ite ?_ ?_ | refine IsLim.bind ?_ (fun _ => ?_) | exact impl_IsIrreducible.l0lim ..)
noncomputable def impl_IsIrreducible.d (a0 : Int) : Option (Bool) := lim (fun k => impl_IsIrreducible.f k a0)
theorem impl_IsIrreducible.lim (a0 : Int) : IsLim (fun k => impl_IsIrreducible.f k a0) (impl_IsIrreducible.d a0) := lim_spec (fun k => impl_IsIrreducible.mono a0 k)
theorem impl_IsIrreducible.d_eq (a0 : Int) : impl_IsIrreducible.d a0 = if a0 < 2 then (impl_IsIrreducible.j0d a0 true) else (impl_IsIrreducible.j0d a0 (decide (a0 ≥ 64))) := by
  refine IsLim.unique (impl_IsIrreducible.lim _) ?_
  unfold impl_IsIrreducible.f
  repeat' (first | exact IsLim.const _ | refine IsLim.ite ?_ ?_ | refine IsLim.bind ?_ (fun _ => ?_) | exact impl_IsIrreducible.j0lim ..)
noncomputable def impl_ValidField.d (a0_0 : Int) (a0_1 : Int) : Option (Bool) := lim (fun k => impl_ValidField.f k a0_0 a0_1)
theorem impl_ValidField.lim (a0_0 : Int) (a0_1 : Int) : IsLim (fun k => impl_ValidField.f k a0_0 a0_1) (impl_ValidField.d a0_0 a0_1) := lim_spec (fun k => impl_ValidField.mono a0_0 a0_1 k)
theorem impl_ValidField.d_eq (a0_0 : Int) (a0_1 : Int) : impl_ValidField.d a0_0 a0_1 = (impl_within.f a0_0 1 5).bind fun t144 => (if t144 = true then ((impl_IsIrreducible.d a0_1).bind fun t145 => (if t145 = true then ((impl_degreeOf.d a0_1).bind fun t146 => (some (t146 == a0_0))) else (some false))) else (some false)) := by
  refine IsLim.unique (impl_ValidField.lim _ _) ?_
  unfold impl_ValidField.f
  repeat' (first | exact IsLim.const _ | refine IsLim.ite ?_ ?_ | refine IsLim.bind ?_ (fun _ => ?_) | exact impl_IsIrreducible.lim .. | exact impl_degreeOf.lim ..)
noncomputable def slices_IndexFunc_int64_int64_AT_impl_Field_has_1.l0d (x0 : List Int) (x7 : Int) (x8 : Int) (x49000 : Int) (x49001 : Int) : Option (Int) := lim (fun k => slices_IndexFunc_int64_int64_AT_impl_Field_has_1.l0 k x0 x7 x8 x49000 x49001)
theorem slices_IndexFunc_int64_int64_AT_impl_Field_has_1.l0lim (x0 : List Int) (x7 : Int) (x8 : Int) (x49000 : Int) (x49001 : Int) : IsLim (fun k => slices_IndexFunc_int64_int64_AT_impl_Field_has_1.l0 k x0 x7 x8 x49000 x49001) (slices_IndexFunc_int64_int64_AT_impl_Field_has_1.l0d x0 x7 x8 x49000 x49001) := lim_spec (fun k => (slices_IndexFunc_int64_int64_AT_impl_Field_has_1.mono_l k) x0 x7 x8 x49000 x49001)
theorem slices_IndexFunc_int64_int64_AT_impl_Field_has_1.l0d_eq (x0 : List Int) (x7 : Int) (x8 : Int) (x49000 : Int) (x49001 : Int) : slices_IndexFunc_int64_int64_AT_impl_Field_has_1.l0d x0 x7 x8 x49000 x49001 = if x8 < x7 then (if 0 ≤ x8 then (if x8 < (x0.length : Int) then ((impl_Field_has_1.f (rd x0 x8) x49000 x49001).bind fun t151 => (if t151 = true then (some x8) else (slices_IndexFunc_int64_int64_AT_impl_Field_has_1.l0d x0 x7 (wrap64 (x8 + 1)) x49000 x49001))) else (none)) else (none)) else (some (-1)) := by
  refine IsLim.unique (slices_IndexFunc_int64_int64_AT_impl_Field_has_1.l0lim _ _ _ _ _) ?_
  refine IsLim.shift (by rfl) ?_
  simp only [slices_IndexFunc_int64_int64_AT_impl_Field_has_1.l0]
  repeat' (first | exact IsLim.const _ | refine IsLim.ite ?_ ?_ | refine IsLim.bind ?_ (fun _ => ?_) | exact slices_IndexFunc_int64_int64_AT_impl_Field_has_1.l0lim ..)
noncomputable def slices_IndexFunc_int64_int64_AT_impl_Field_has_1.d (l0 : List Int) (a1_0 : Int) (a1_1 : Int) : Option (Int) := lim (fun k => slices_IndexFunc_int64_int64_AT_impl_Field_has_1.f k l0 a1_0 a1_1)
theorem slices_IndexFunc_int64_int64_AT_impl_Field_has_1.lim (l0 : List Int) (a1_0 : Int) (a1_1 : Int) : IsLim (fun k => slices_IndexFunc_int64_int64_AT_impl_Field_has_1.f k l0 a1_0 a1_1) (slices_IndexFunc_int64_int64_AT_impl_Field_has_1.d l0 a1_0 a1_1) := lim_spec (fun k => slices_IndexFunc_int64_int64_AT_impl_Field_has_1.mono l0 a1_0 a1_1 k)
theorem slices_IndexFunc_int64_int64_AT_impl_Field_has_1.d_eq (l0 : List Int) (a1_0 : Int) (a1_1 : Int) : slices_IndexFunc_int64_int64_AT_impl_Field_has_1.d l0 a1_0 a1_1 = slices_IndexFunc_int64_int64_AT_impl_Field_has_1.l0d l0 (l0.length : Int) 0 a1_0 a1_1 := by
  refine IsLim.unique (slices_IndexFunc_int64_int64_AT_impl_Field_has_1.lim _ _ _) ?_
  unfold slices_IndexFunc_int64_int64_AT_impl_Field_has_1.f
  repeat' (first | exact IsLim.const _ | refine IsLim.ite ?_ ?_ | refine IsLim.bind ?_ (fun _ => ?_) | exact slices_IndexFunc_int64_int64_AT_impl_Field_has_1.l0lim ..)
noncomputable def slices_ContainsFunc_int64_int64_AT_impl_Field_has_1.d (l0 : List Int) (a1_0 : Int) (a1_1 : Int) : Option (Bool) := lim (fun k => slices_ContainsFunc_int64_int64_AT_impl_Field_has_1.f k l0 a1_0 a1_1)
theorem slices_ContainsFunc_int64_int64_AT_impl_Field_has_1.lim (l0 : List Int) (a1_0 : Int) (a1_1 : Int) : IsLim (fun k => slices_ContainsFunc_int64_int64_AT_impl_Field_has_1.f k l0 a1_0 a1_1) (slices_ContainsFunc_int64_int64_AT_impl_Field_has_1.d l0 a1_0 a1_1) := lim_spec (fun k => slices_ContainsFunc_int64_int64_AT_impl_Field_has_1.mono l0 a1_0 a1_1 k)
theorem slices_ContainsFunc_int64_int64_AT_impl_Field_has_1.d_eq (l0 : List Int) (a1_0 : Int) (a1_1 : Int) : slices_ContainsFunc_int64_int64_AT_impl_Field_has_1.d l0 a1_0 a1_1 = (slices_IndexFunc_int64_int64_AT_impl_Field_has_1.d l0 a1_0 a1_1).bind fun t152 => (some (decide (t152 ≥ 0))) := by
  refine IsLim.unique (slices_ContainsFunc_int64_int64_AT_impl_Field_has_1.lim _ _ _) ?_
  unfold slices_ContainsFunc_int64_int64_AT_impl_Field_has_1.f
  repeat' (first | exact IsLim.const _ | refine IsLim.ite ?_ ?_ | refine IsLim.bind ?_ (fun _ => ?_) | exact slices_IndexFunc_int64_int64_AT_impl_Field_has_1.lim ..)
noncomputable def impl_Field_has.d (a0_0 : Int) (a0_1 : Int) (l1 : List Int) : Option (Bool) := lim (fun k => impl_Field_has.f k a0_0 a0_1 l1)
theorem impl_Field_has.lim (a0_0 : Int) (a0_1 : Int) (l1 : List Int) : IsLim (fun k => impl_Field_has.f k a0_0 a0_1 l1) (impl_Field_has.d a0_0 a0_1 l1) := lim_spec (fun k => impl_Field_has.mono a0_0 a0_1 l1 k)
theorem impl_Field_has.d_eq (a0_0 : Int) (a0_1 : Int) (l1 : List Int) : impl_Field_has.d a0_0 a0_1 l1 = (slices_ContainsFunc_int64_int64_AT_impl_Field_has_1.d l1 a0_0 a0_1).bind fun t154 => (some (!t154)) := by
  refine IsLim.unique (impl_Field_has.lim _ _ _) ?_
  unfold impl_Field_has.f
  repeat' (first | exact IsLim.const _ | refine IsLim.ite ?_ ?_ | refine IsLim.bind ?_ (fun _ => ?_) | exact slices_ContainsFunc_int64_int64_AT_impl_Field_has_1.lim ..)
end Go.Proofs.Ytbgbblgdbcjibaa.P
end
section
namespace Go.Proofs.Ytbgbblgdbcjibaa.P
open Go.RowKit Go.Proofs.YtbgbblgdbcjibaaW.PrintWords Go.Proofs.YtbgbblgdbcjibaaW.PrintLast Go.Proofs.YtbgbblgdbcjibaaW.PrintMore
set_option linter.unusedVariables false
set_option linter.unusedSimpArgs false
noncomputable def spec_l01Sum.l0d (x0 : List Int) (x1 : Int) (x5 : Int) (x6 : Int) : Option (Int) := lim (fun k => spec_l01Sum.l0 k x0 x1 x5 x6)
theorem spec_l01Sum.l0lim (x0 : List Int) (x1 : Int) (x5 : Int) (x6 : Int) : IsLim (fun k => spec_l01Sum.l0 k x0 x1 x5 x6) (spec_l01Sum.l0d x0 x1 x5 x6) := lim_spec (fun k => (spec_l01Sum.mono_l k) x0 x1 x5 x6)
theorem spec_l01Sum.l0d_eq (x0 : List Int) (x1 : Int) (x5 : Int) (x6 : Int) : spec_l01Sum.l0d x0 x1 x5 x6 = if x6 < (x0.length : Int) then (if 0 ≤ (IntKind.u64.wrap (x6)) then (if (Go.bits .and .i64 (shr .i64 x1 (IntKind.u64.wrap (x6))) 1) = 1 then (if 0 ≤ x6 then (spec_l01Sum.l0d x0 x1 (Go.bits .xor .i64 x5 (rd x0 x6)) (wrap64 (x6 + 1))) else (none)) else (spec_l01Sum.l0d x0 x1 x5 (wrap64 (x6 + 1)))) else (none)) else (some x5) := by
  refine IsLim.unique (spec_l01Sum.l0lim _ _ _ _) ?_
  refine IsLim.shift (by rfl) ?_
  simp only [spec_l01Sum.l0]
  repeat' (first | exact IsLim.const _ | refine IsLim.ite ?_ ?_ | refine IsLim.bind ?_ (fun _ => ?_) | exact spec_l01Sum.l0lim ..)
noncomputable def spec_l01Sum.d (l0 : List Int) (a1 : Int) : Option (Int) := lim (fun k => spec_l01Sum.f k l0 a1)
theorem spec_l01Sum.lim (l0 : List Int) (a1 : Int) : IsLim (fun k => spec_l01Sum.f k l0 a1) (spec_l01Sum.d l0 a1) := lim_spec (fun k => spec_l01Sum.mono l0 a1 k)
theorem spec_l01Sum.d_eq (l0 : List Int) (a1 : Int) : spec_l01Sum.d l0 a1 = spec_l01Sum.l0d l0 a1 0 0 := by
  refine IsLim.unique (spec_l01Sum.lim _ _) ?_
  unfold spec_l01Sum.f
  repeat' (first | exact IsLim.const _ | refine IsLim.ite ?_ ?_ | refine IsLim.bind ?_ (fun _ => ?_) | exact spec_l01Sum.l0lim ..)
noncomputable def spec_l01Basis.l0d (x1 : List Int) (x5 : Int) (x115000 : Int) (x115001 : Int) : Option (Bool) := lim (fun k => spec_l01Basis.l0 k x1 x5 x115000 x115001)
theorem spec_l01Basis.l0lim (x1 : List Int) (x5 : Int) (x115000 : Int) (x115001 : Int) : IsLim (fun k => spec_l01Basis.l0 k x1 x5 x115000 x115001) (spec_l01Basis.l0d x1 x5 x115000 x115001) := lim_spec (fun k => (spec_l01Basis.mono_l k) x1 x5 x115000 x115001)
theorem spec_l01Basis.l0d_eq (x1 : List Int) (x5 : Int) (x115000 : Int) (x115001 : Int) : spec_l01Basis.l0d x1 x5 x115000 x115001 = (spec_l01Size.f x115000 x115001).bind fun t115 => (if x5 < t115 then ((spec_l01Sum.d x1 x5).bind fun t116 => (if t116 = 0 then (some false) else (spec_l01Basis.l0d x1 (wrap64 (x5 + 1)) x115000 x115001))) else (some true)) := by
  refine IsLim.unique (spec_l01Basis.l0lim _ _ _ _) ?_
  refine IsLim.shift (by rfl) ?_
  simp only [spec_l01Basis.l0]
  repeat' (first | exact IsLim.const _ | refine IsLim.ite ?_ ?_ | refine IsLim.bind ?_ (fun _ => ?_) | exact spec_l01Sum.lim .. | exact spec_l01Basis.l0lim ..)
noncomputable def spec_l01Basis.d (a0_0 : Int) (a0_1 : Int) (l1 : List Int) : Option (Bool) := lim (fun k => spec_l01Basis.f k a0_0 a0_1 l1)
theorem spec_l01Basis.lim (a0_0 : Int) (a0_1 : Int) (l1 : List Int) : IsLim (fun k => spec_l01Basis.f k a0_0 a0_1 l1) (spec_l01Basis.d a0_0 a0_1 l1) := lim_spec (fun k => spec_l01Basis.mono a0_0 a0_1 l1 k)
theorem spec_l01Basis.d_eq (a0_0 : Int) (a0_1 : Int) (l1 : List Int) : spec_l01Basis.d a0_0 a0_1 l1 = if (l1.length : Int) = a0_0 then (spec_l01Basis.l0d l1 1 a0_0 a0_1) else (some false) := by
  refine IsLim.unique (spec_l01Basis.lim _ _ _) ?_
  unfold spec_l01Basis.f
  repeat' (first | exact IsLim.const _ | refine IsLim.ite ?_ ?_ | refine IsLim.bind ?_ (fun _ => ?_) | exact spec_l01Basis.l0lim ..)
noncomputable def impl_sumOf.l0d (x1 : Int) (x5 : Int) (x8 : List Int) (x9 : Int) (x10 : Int) : Option (Int) := lim (fun k => impl_sumOf.l0 k x1 x5 x8 x9 x10)
theorem impl_sumOf.l0lim (x1 : Int) (x5 : Int) (x8 : List Int) (x9 : Int) (x10 : Int) : IsLim (fun k => impl_sumOf.l0 k x1 x5 x8 x9 x10) (impl_sumOf.l0d x1 x5 x8 x9 x10) := lim_spec (fun k => (impl_sumOf.mono_l k) x1 x5 x8 x9 x10)
theorem impl_sumOf.l0d_eq (x1 : Int) (x5 : Int) (x8 : List Int) (x9 : Int) (x10 : Int) : impl_sumOf.l0d x1 x5 x8 x9 x10 = if x10 < x9 then (if 0 ≤ x10 then (if x10 < (x8.length : Int) then (if (Go.bits .and .i64 (shr .i64 x1 x10) 1) = 1 then (impl_sumOf.l0d x1 (Go.bits .xor .i64 x5 (rd x8 x10)) x8 x9 (wrap64 (x10 + 1))) else (impl_sumOf.l0d x1 x5 x8 x9 (wrap64 (x10 + 1)))) else (none)) else (none)) else (some x5) := by
  refine IsLim.unique (impl_sumOf.l0lim _ _ _ _ _) ?_
  refine IsLim.shift (by rfl) ?_
  simp only [impl_sumOf.l0]
  repeat' (first | exact IsLim.const _ | refine IsLim.ite ?_ ?_ | refine IsLim.bind ?_ (fun _ => ?_) | exact impl_sumOf.l0lim ..)
noncomputable def impl_sumOf.d (l0 : List Int) (a1 : Int) : Option (Int) := lim (fun k => impl_sumOf.f k l0 a1)
theorem impl_sumOf.lim (l0 : List Int) (a1 : Int) : IsLim (fun k => impl_sumOf.f k l0 a1) (impl_sumOf.d l0 a1) := lim_spec (fun k => impl_sumOf.mono l0 a1 k)
theorem impl_sumOf.d_eq (l0 : List Int) (a1 : Int) : impl_sumOf.d l0 a1 = impl_sumOf.l0d a1 0 l0 (l0.length : Int) 0 := by
  refine IsLim.unique (impl_sumOf.lim _ _) ?_
  unfold impl_sumOf.f
  repeat' (first | exact IsLim.const _ | refine IsLim.ite ?_ ?_ | refine IsLim.bind ?_ (fun _ => ?_) | exact impl_sumOf.l0lim ..)
noncomputable def impl_Field_coordinates.l0d (x1 : List Int) (x5 : List Int) (x6 : List Int) (x19 : Int) (x20 : Int) : Option (List Int) := lim (fun k => impl_Field_coordinates.l0 k x1 x5 x6 x19 x20)
theorem impl_Field_coordinates.l0lim (x1 : List Int) (x5 : List Int) (x6 : List Int) (x19 : Int) (x20 : Int) : IsLim (fun k => impl_Field_coordinates.l0 k x1 x5 x6 x19 x20) (impl_Field_coordinates.l0d x1 x5 x6 x19 x20) := lim_spec (fun k => (impl_Field_coordinates.mono_l k) x1 x5 x6 x19 x20)
theorem impl_Field_coordinates.l0d_eq (x1 : List Int) (x5 : List Int) (x6 : List Int) (x19 : Int) (x20 : Int) : impl_Field_coordinates.l0d x1 x5 x6 x19 x20 = if x20 < x19 then ((impl_sumOf.d x1 x20).bind fun t25 => (if 0 ≤ t25 then (if t25 < (x5.length : Int) then (if (x6.contains t25) = true then (some ([] : List Int)) else (if x6.length < 1000000 then (impl_Field_coordinates.l0d x1 (x5.set (t25 : Int).toNat x20) (t25 :: x6) x19 (wrap64 (x20 + 1))) else (none))) else (none)) else (none))) else (some x5) := by
  refine IsLim.unique (impl_Field_coordinates.l0lim _ _ _ _ _) ?_
  refine IsLim.shift (by rfl) ?_
  simp only [impl_Field_coordinates.l0]
  repeat' (first | exact IsLim.const _ | refine IsLim.ite ?_ ?_ | refine IsLim.bind ?_ (fun _ => ?_) | exact impl_sumOf.lim .. | exact impl_Field_coordinates.l0lim ..)
noncomputable def impl_Field_coordinates.d (a0_0 : Int) (a0_1 : Int) (l1 : List Int) : Option (List Int) := lim (fun k => impl_Field_coordinates.f k a0_0 a0_1 l1)
theorem impl_Field_coordinates.lim (a0_0 : Int) (a0_1 : Int) (l1 : List Int) : IsLim (fun k => impl_Field_coordinates.f k a0_0 a0_1 l1) (impl_Field_coordinates.d a0_0 a0_1 l1) := lim_spec (fun k => impl_Field_coordinates.mono a0_0 a0_1 l1 k)
theorem impl_Field_coordinates.d_eq (a0_0 : Int) (a0_1 : Int) (l1 : List Int) : impl_Field_coordinates.d a0_0 a0_1 l1 = if (l1.length : Int) = a0_0 then ((impl_Field_count.f a0_0 a0_1).bind fun t15 => (if 0 < t15 then (if (t15 : Int).toNat ≤ 35184372088832 then (impl_Field_coordinates.l0d l1 (List.replicate (t15 : Int).toNat 0) [] t15 0) else (none)) else (none))) else (some ([] : List Int)) := by
  refine IsLim.unique (impl_Field_coordinates.lim _ _ _) ?_
  unfold impl_Field_coordinates.f
  repeat' (first | exact IsLim.const _ | refine IsLim.ite ?_ ?_ | refine IsLim.bind ?_ (fun _ => ?_) | exact impl_Field_coordinates.l0lim ..)
end Go.Proofs.Ytbgbblgdbcjibaa.P
end
section
namespace Go.Proofs.Ytbgbblgdbcjibaa.P
open Go.RowKit Go.Proofs.YtbgbblgdbcjibaaW.PrintWords Go.Proofs.YtbgbblgdbcjibaaW.PrintLast Go.Proofs.YtbgbblgdbcjibaaW.PrintMore
set_option linter.unusedVariables false
set_option linter.unusedSimpArgs false
noncomputable def spec_l01List.l0d (x1 : List Int) (x5 : Int) (x272000 : Int) (x272001 : Int) : Option (Int) := lim (fun k => spec_l01List.l0 k x1 x5 x272000 x272001)
theorem spec_l01List.l0lim (x1 : List Int) (x5 : Int) (x272000 : Int) (x272001 : Int) : IsLim (fun k => spec_l01List.l0 k x1 x5 x272000 x272001) (spec_l01List.l0d x1 x5 x272000 x272001) := lim_spec (fun k => (spec_l01List.mono_l k) x1 x5 x272000 x272001)
theorem spec_l01List.l0d_eq (x1 : List Int) (x5 : Int) (x272000 : Int) (x272001 : Int) : spec_l01List.l0d x1 x5 x272000 x272001 = if x5 < (x1.length : Int) then (if 0 ≤ x5 then ((spec_l01Size.f x272000 x272001).bind fun t274 => ((spec_l00In.f (rd x1 x5) 0 (wrap64 (t274 - 1))).bind fun t275 => (if t275 = true then (spec_l01List.l0d x1 (wrap64 (x5 + 1)) x272000 x272001) else (some 2)))) else (none)) else (some 0) := by
  refine IsLim.unique (spec_l01List.l0lim _ _ _ _) ?_
  refine IsLim.shift (by rfl) ?_
  simp only [spec_l01List.l0]
  repeat' (first | exact IsLim.const _ | refine IsLim.ite ?_ ?_ | refine IsLim.bind ?_ (fun _ => ?_) | exact spec_l01List.l0lim ..)
noncomputable def spec_l01List.d (a0_0 : Int) (a0_1 : Int) (l1 : List Int) : Option (Int) := lim (fun k => spec_l01List.f k a0_0 a0_1 l1)
theorem spec_l01List.lim (a0_0 : Int) (a0_1 : Int) (l1 : List Int) : IsLim (fun k => spec_l01List.f k a0_0 a0_1 l1) (spec_l01List.d a0_0 a0_1 l1) := lim_spec (fun k => spec_l01List.mono a0_0 a0_1 l1 k)
theorem spec_l01List.d_eq (a0_0 : Int) (a0_1 : Int) (l1 : List Int) : spec_l01List.d a0_0 a0_1 l1 = (spec_l01Ok.d a0_0 a0_1).bind fun t272 => (if t272 = true then (spec_l01List.l0d l1 0 a0_0 a0_1) else (some 1)) := by
  refine IsLim.unique (spec_l01List.lim _ _ _) ?_
  unfold spec_l01List.f
  repeat' (first | exact IsLim.const _ | refine IsLim.ite ?_ ?_ | refine IsLim.bind ?_ (fun _ => ?_) | exact spec_l01Ok.lim .. | exact spec_l01List.l0lim ..)
end Go.Proofs.Ytbgbblgdbcjibaa.P
end
section
namespace Go.Proofs.Ytbgbblgdbcjibaa.P
open Go.RowKit Go.Proofs.YtbgbblgdbcjibaaW.PrintWords Go.Proofs.YtbgbblgdbcjibaaW.PrintLast Go.Proofs.YtbgbblgdbcjibaaW.PrintMore
set_option linter.unusedVariables false
set_option linter.unusedSimpArgs false
noncomputable def spec_l03Based.d (a0_0 : Int) (a0_1 : Int) (l1 : List Int) : Option (Int) := lim (fun k => spec_l03Based.f k a0_0 a0_1 l1)
theorem spec_l03Based.lim (a0_0 : Int) (a0_1 : Int) (l1 : List Int) : IsLim (fun k => spec_l03Based.f k a0_0 a0_1 l1) (spec_l03Based.d a0_0 a0_1 l1) := lim_spec (fun k => spec_l03Based.mono a0_0 a0_1 l1 k)
theorem spec_l03Based.d_eq (a0_0 : Int) (a0_1 : Int) (l1 : List Int) : spec_l03Based.d a0_0 a0_1 l1 = (spec_l01List.d a0_0 a0_1 l1).bind fun t524 => (if t524 = 0 then ((spec_l01Basis.d a0_0 a0_1 l1).bind fun t525 => (if t525 = true then (some t524) else (some 4))) else (some t524)) := by
  refine IsLim.unique (spec_l03Based.lim _ _ _) ?_
  unfold spec_l03Based.f
  repeat' (first | exact IsLim.const _ | refine IsLim.ite ?_ ?_ | refine IsLim.bind ?_ (fun _ => ?_) | exact spec_l01List.lim .. | exact spec_l01Basis.lim ..)
noncomputable def spec_l03Coordinates.l0d (x0 : List Int) (x1 : Int) (x5 : Int) : Option (Int) := lim (fun k => spec_l03Coordinates.l0 k x0 x1 x5)
theorem spec_l03Coordinates.l0lim (x0 : List Int) (x1 : Int) (x5 : Int) : IsLim (fun k => spec_l03Coordinates.l0 k x0 x1 x5) (spec_l03Coordinates.l0d x0 x1 x5) := lim_spec (fun k => (spec_l03Coordinates.mono_l k) x0 x1 x5)
theorem spec_l03Coordinates.l0d_eq (x0 : List Int) (x1 : Int) (x5 : Int) : spec_l03Coordinates.l0d x0 x1 x5 = (spec_l01Sum.d x0 x5).bind fun t526 => (if t526 = x1 then (some x5) else (spec_l03Coordinates.l0d x0 x1 (wrap64 (x5 + 1)))) := by
  refine IsLim.unique (spec_l03Coordinates.l0lim _ _ _) ?_
  refine IsLim.shift (by rfl) ?_
  simp only [spec_l03Coordinates.l0]
  repeat' (first | exact IsLim.const _ | refine IsLim.ite ?_ ?_ | refine IsLim.bind ?_ (fun _ => ?_) | exact spec_l01Sum.lim .. | exact spec_l03Coordinates.l0lim ..)
noncomputable def spec_l03Coordinates.d (l0 : List Int) (a1 : Int) : Option (Int) := lim (fun k => spec_l03Coordinates.f k l0 a1)
theorem spec_l03Coordinates.lim (l0 : List Int) (a1 : Int) : IsLim (fun k => spec_l03Coordinates.f k l0 a1) (spec_l03Coordinates.d l0 a1) := lim_spec (fun k => spec_l03Coordinates.mono l0 a1 k)
theorem spec_l03Coordinates.d_eq (l0 : List Int) (a1 : Int) : spec_l03Coordinates.d l0 a1 = spec_l03Coordinates.l0d l0 a1 0 := by
  refine IsLim.unique (spec_l03Coordinates.lim _ _) ?_
  unfold spec_l03Coordinates.f
  repeat' (first | exact IsLim.const _ | refine IsLim.ite ?_ ?_ | refine IsLim.bind ?_ (fun _ => ?_) | exact spec_l03Coordinates.l0lim ..)
end Go.Proofs.Ytbgbblgdbcjibaa.P
end
section
namespace Go.Proofs.Ytbgbblgdbcjibaa.P
open Go.RowKit Go.Proofs.YtbgbblgdbcjibaaW.PrintWords Go.Proofs.YtbgbblgdbcjibaaW.PrintLast Go.Proofs.YtbgbblgdbcjibaaW.PrintMore
set_option linter.unusedVariables false
set_option linter.unusedSimpArgs false
noncomputable def spec_l01Mul.l0d (x1 : Int) (x2 : Int) (x7 : Int) (x8 : Int) (x118000 : Int) (x118001 : Int) : Option (Int) := lim (fun k => spec_l01Mul.l0 k x1 x2 x7 x8 x118000 x118001)
theorem spec_l01Mul.l0lim (x1 : Int) (x2 : Int) (x7 : Int) (x8 : Int) (x118000 : Int) (x118001 : Int) : IsLim (fun k => spec_l01Mul.l0 k x1 x2 x7 x8 x118000 x118001) (spec_l01Mul.l0d x1 x2 x7 x8 x118000 x118001) := lim_spec (fun k => (spec_l01Mul.mono_l k) x1 x2 x7 x8 x118000 x118001)
theorem spec_l01Mul.l0d_eq (x1 : Int) (x2 : Int) (x7 : Int) (x8 : Int) (x118000 : Int) (x118001 : Int) : spec_l01Mul.l0d x1 x2 x7 x8 x118000 x118001 = if x8 < x118000 then (if 0 ≤ (IntKind.u64.wrap (x8)) then (if (Go.bits .and .i64 (shr .i64 x2 (IntKind.u64.wrap (x8))) 1) = 1 then (spec_l01Mul.l0d x1 x2 (Go.bits .xor .i64 x7 (shl .i64 x1 (IntKind.u64.wrap (x8)))) (wrap64 (x8 + 1)) x118000 x118001) else (spec_l01Mul.l0d x1 x2 x7 (wrap64 (x8 + 1)) x118000 x118001)) else (none)) else ((spec_l01Rest.d x7 x118001).bind fun t118 => (some t118)) := by
  refine IsLim.unique (spec_l01Mul.l0lim _ _ _ _ _ _) ?_
  refine IsLim.shift (by rfl) ?_
  simp only [spec_l01Mul.l0]
  repeat' (first | exact IsLim.const _ | refine IsLim.ite ?_ ?_ | refine IsLim.bind ?_ (fun _ => ?_) | exact spec_l01Rest.lim .. | exact spec_l01Mul.l0lim ..)
noncomputable def spec_l01Mul.d (a0_0 : Int) (a0_1 : Int) (a1 : Int) (a2 : Int) : Option (Int) := lim (fun k => spec_l01Mul.f k a0_0 a0_1 a1 a2)
theorem spec_l01Mul.lim (a0_0 : Int) (a0_1 : Int) (a1 : Int) (a2 : Int) : IsLim (fun k => spec_l01Mul.f k a0_0 a0_1 a1 a2) (spec_l01Mul.d a0_0 a0_1 a1 a2) := lim_spec (fun k => spec_l01Mul.mono a0_0 a0_1 a1 a2 k)
theorem spec_l01Mul.d_eq (a0_0 : Int) (a0_1 : Int) (a1 : Int) (a2 : Int) : spec_l01Mul.d a0_0 a0_1 a1 a2 = spec_l01Mul.l0d a1 a2 0 0 a0_0 a0_1 := by
  refine IsLim.unique (spec_l01Mul.lim _ _ _ _) ?_
  unfold spec_l01Mul.f
  repeat' (first | exact IsLim.const _ | refine IsLim.ite ?_ ?_ | refine IsLim.bind ?_ (fun _ => ?_) | exact spec_l01Mul.l0lim ..)
noncomputable def impl_product.l0d (x0 : Int) (x1 : Int) (x5 : Int) : Option (Int) := lim (fun k => impl_product.l0 k x0 x1 x5)
theorem impl_product.l0lim (x0 : Int) (x1 : Int) (x5 : Int) : IsLim (fun k => impl_product.l0 k x0 x1 x5) (impl_product.l0d x0 x1 x5) := lim_spec (fun k => (impl_product.mono_l k) x0 x1 x5)
theorem impl_product.l0d_eq (x0 : Int) (x1 : Int) (x5 : Int) : impl_product.l0d x0 x1 x5 = if x1 > 0 then (if (Go.bits .and .i64 x1 1) = 1 then (impl_product.l0d (wrap64 (x0 * 2)) (x1 / 2) (Go.bits .xor .i64 x5 x0)) else (impl_product.l0d (wrap64 (x0 * 2)) (x1 / 2) x5)) else (some x5) := by
  refine IsLim.unique (impl_product.l0lim _ _ _) ?_
  refine IsLim.shift (by rfl) ?_
  simp only [impl_product.l0]
  repeat' (first | exact IsLim.const _ | refine IsLim.ite ?_ ?_ | refine IsLim.bind ?_ (fun _ => ?_) | exact impl_product.l0lim ..)
noncomputable def impl_product.d (a0 : Int) (a1 : Int) : Option (Int) := lim (fun k => impl_product.f k a0 a1)
theorem impl_product.lim (a0 : Int) (a1 : Int) : IsLim (fun k => impl_product.f k a0 a1) (impl_product.d a0 a1) := lim_spec (fun k => impl_product.mono a0 a1 k)
theorem impl_product.d_eq (a0 : Int) (a1 : Int) : impl_product.d a0 a1 = impl_product.l0d a0 a1 0 := by
  refine IsLim.unique (impl_product.lim _ _) ?_
  unfold impl_product.f
  repeat' (first | exact IsLim.const _ | refine IsLim.ite ?_ ?_ | refine IsLim.bind ?_ (fun _ => ?_) | exact impl_product.l0lim ..)
noncomputable def impl_Field_mul.d (a0_0 : Int) (a0_1 : Int) (a1 : Int) (a2 : Int) : Option (Int) := lim (fun k => impl_Field_mul.f k a0_0 a0_1 a1 a2)
theorem impl_Field_mul.lim (a0_0 : Int) (a0_1 : Int) (a1 : Int) (a2 : Int) : IsLim (fun k => impl_Field_mul.f k a0_0 a0_1 a1 a2) (impl_Field_mul.d a0_0 a0_1 a1 a2) := lim_spec (fun k => impl_Field_mul.mono a0_0 a0_1 a1 a2 k)
theorem impl_Field_mul.d_eq (a0_0 : Int) (a0_1 : Int) (a1 : Int) (a2 : Int) : impl_Field_mul.d a0_0 a0_1 a1 a2 = (impl_product.d a1 a2).bind fun t160 => ((impl_restOf.d t160 a0_1).bind fun t161 => (some t161)) := by
  refine IsLim.unique (impl_Field_mul.lim _ _ _ _) ?_
  unfold impl_Field_mul.f
  repeat' (first | exact IsLim.const _ | refine IsLim.ite ?_ ?_ | refine IsLim.bind ?_ (fun _ => ?_) | exact impl_product.lim .. | exact impl_restOf.lim ..)
end Go.Proofs.Ytbgbblgdbcjibaa.P
end
section
namespace Go.Proofs.Ytbgbblgdbcjibaa.P
open Go.RowKit Go.Proofs.YtbgbblgdbcjibaaW.PrintWords Go.Proofs.YtbgbblgdbcjibaaW.PrintLast Go.Proofs.YtbgbblgdbcjibaaW.PrintMore
set_option linter.unusedVariables false
set_option linter.unusedSimpArgs false
noncomputable def spec_l01Square.l0d (x1 : Int) (x2 : Int) (x189000 : Int) (x189001 : Int) : Option (Int) := lim (fun k => spec_l01Square.l0 k x1 x2 x189000 x189001)
theorem spec_l01Square.l0lim (x1 : Int) (x2 : Int) (x189000 : Int) (x189001 : Int) : IsLim (fun k => spec_l01Square.l0 k x1 x2 x189000 x189001) (spec_l01Square.l0d x1 x2 x189000 x189001) := lim_spec (fun k => (spec_l01Square.mono_l k) x1 x2 x189000 x189001)
theorem spec_l01Square.l0d_eq (x1 : Int) (x2 : Int) (x189000 : Int) (x189001 : Int) : spec_l01Square.l0d x1 x2 x189000 x189001 = if x2 > 0 then ((spec_l01Mul.d x189000 x189001 x1 x1).bind fun t189 => (spec_l01Square.l0d t189 (wrap64 (x2 - 1)) x189000 x189001)) else (some x1) := by
  refine IsLim.unique (spec_l01Square.l0lim _ _ _ _) ?_
  refine IsLim.shift (by rfl) ?_
  simp only [spec_l01Square.l0]
  repeat' (first | exact IsLim.const _ | refine IsLim.ite ?_ ?_ | refine IsLim.bind ?_ (fun _ => ?_) | exact spec_l01Mul.lim .. | exact spec_l01Square.l0lim ..)
noncomputable def spec_l01Square.d (a0_0 : Int) (a0_1 : Int) (a1 : Int) (a2 : Int) : Option (Int) := lim (fun k => spec_l01Square.f k a0_0 a0_1 a1 a2)
theorem spec_l01Square.lim (a0_0 : Int) (a0_1 : Int) (a1 : Int) (a2 : Int) : IsLim (fun k => spec_l01Square.f k a0_0 a0_1 a1 a2) (spec_l01Square.d a0_0 a0_1 a1 a2) := lim_spec (fun k => spec_l01Square.mono a0_0 a0_1 a1 a2 k)
theorem spec_l01Square.d_eq (a0_0 : Int) (a0_1 : Int) (a1 : Int) (a2 : Int) : spec_l01Square.d a0_0 a0_1 a1 a2 = if a0_0 = 0 then (none) else (spec_l01Square.l0d a1 (Int.tmod a2 a0_0) a0_0 a0_1) := by
  refine IsLim.unique (spec_l01Square.lim _ _ _ _) ?_
  unfold spec_l01Square.f
  repeat' (first | exact IsLim.const _ | refine IsLim.ite ?_ ?_ | refine IsLim.bind ?_ (fun _ => ?_) | exact spec_l01Square.l0lim ..)
noncomputable def impl_Field_square.l0d (x1 : Int) (x10 : Int) (x11 : Int) (x216000 : Int) (x216001 : Int) : Option (Int) := lim (fun k => impl_Field_square.l0 k x1 x10 x11 x216000 x216001)
theorem impl_Field_square.l0lim (x1 : Int) (x10 : Int) (x11 : Int) (x216000 : Int) (x216001 : Int) : IsLim (fun k => impl_Field_square.l0 k x1 x10 x11 x216000 x216001) (impl_Field_square.l0d x1 x10 x11 x216000 x216001) := lim_spec (fun k => (impl_Field_square.mono_l k) x1 x10 x11 x216000 x216001)
theorem impl_Field_square.l0d_eq (x1 : Int) (x10 : Int) (x11 : Int) (x216000 : Int) (x216001 : Int) : impl_Field_square.l0d x1 x10 x11 x216000 x216001 = if x11 < x10 then ((impl_Field_mul.d x216000 x216001 x1 x1).bind fun t216 => (impl_Field_square.l0d t216 x10 (wrap64 (x11 + 1)) x216000 x216001)) else (some x1) := by
  refine IsLim.unique (impl_Field_square.l0lim _ _ _ _ _) ?_
  refine IsLim.shift (by rfl) ?_
  simp only [impl_Field_square.l0]
  repeat' (first | exact IsLim.const _ | refine IsLim.ite ?_ ?_ | refine IsLim.bind ?_ (fun _ => ?_) | exact impl_Field_mul.lim .. | exact impl_Field_square.l0lim ..)
noncomputable def impl_Field_square.d (a0_0 : Int) (a0_1 : Int) (a1 : Int) (a2 : Int) : Option (Int) := lim (fun k => impl_Field_square.f k a0_0 a0_1 a1 a2)
theorem impl_Field_square.lim (a0_0 : Int) (a0_1 : Int) (a1 : Int) (a2 : Int) : IsLim (fun k => impl_Field_square.f k a0_0 a0_1 a1 a2) (impl_Field_square.d a0_0 a0_1 a1 a2) := lim_spec (fun k => impl_Field_square.mono a0_0 a0_1 a1 a2 k)
theorem impl_Field_square.d_eq (a0_0 : Int) (a0_1 : Int) (a1 : Int) (a2 : Int) : impl_Field_square.d a0_0 a0_1 a1 a2 = if a0_0 = 0 then (none) else (impl_Field_square.l0d a1 (Int.tmod a2 a0_0) 0 a0_0 a0_1) := by
  refine IsLim.unique (impl_Field_square.lim _ _ _ _) ?_
  unfold impl_Field_square.f
  repeat' (first | exact IsLim.const _ | refine IsLim.ite ?_ ?_ | refine IsLim.bind ?_ (fun _ => ?_) | exact impl_Field_square.l0lim ..)
noncomputable def laws_markInt64S.l0d (x0 : List Int) (x1 : Int) (x5 : Int) : Option (Int × List Int) := lim (fun k => laws_markInt64S.l0 k x0 x1 x5)
theorem laws_markInt64S.l0lim (x0 : List Int) (x1 : Int) (x5 : Int) : IsLim (fun k => laws_markInt64S.l0 k x0 x1 x5) (laws_markInt64S.l0d x0 x1 x5) := lim_spec (fun k => (laws_markInt64S.mono_l k) x0 x1 x5)
theorem laws_markInt64S.l0d_eq (x0 : List Int) (x1 : Int) (x5 : Int) : laws_markInt64S.l0d x0 x1 x5 = if x5 < (x0.length : Int) then (if 0 ≤ x5 then (laws_markInt64S.l0d (x0.set (x5 : Int).toNat x1) (wrap64 (x1 + 1)) (wrap64 (x5 + 1))) else (none)) else (some (x1, x0)) := by
  refine IsLim.unique (laws_markInt64S.l0lim _ _ _) ?_
  refine IsLim.shift (by rfl) ?_
  simp only [laws_markInt64S.l0]
  repeat' (first | exact IsLim.const _ | refine IsLim.ite ?_ ?_ | refine IsLim.bind ?_ (fun _ => ?_) | exact laws_markInt64S.l0lim ..)
noncomputable def laws_markInt64S.d (l0 : List Int) (a1 : Int) : Option (Int × List Int) := lim (fun k => laws_markInt64S.f k l0 a1)
theorem laws_markInt64S.lim (l0 : List Int) (a1 : Int) : IsLim (fun k => laws_markInt64S.f k l0 a1) (laws_markInt64S.d l0 a1) := lim_spec (fun k => laws_markInt64S.mono l0 a1 k)
theorem laws_markInt64S.d_eq (l0 : List Int) (a1 : Int) : laws_markInt64S.d l0 a1 = laws_markInt64S.l0d l0 a1 0 := by
  refine IsLim.unique (laws_markInt64S.lim _ _) ?_
  unfold laws_markInt64S.f
  repeat' (first | exact IsLim.const _ | refine IsLim.ite ?_ ?_ | refine IsLim.bind ?_ (fun _ => ?_) | exact laws_markInt64S.l0lim ..)
noncomputable def laws_heldInt64S.l0d (x0 : List Int) (x1 : Int) (x5 : Int) : Option (Int) := lim (fun k => laws_heldInt64S.l0 k x0 x1 x5)
theorem laws_heldInt64S.l0lim (x0 : List Int) (x1 : Int) (x5 : Int) : IsLim (fun k => laws_heldInt64S.l0 k x0 x1 x5) (laws_heldInt64S.l0d x0 x1 x5) := lim_spec (fun k => (laws_heldInt64S.mono_l k) x0 x1 x5)
theorem laws_heldInt64S.l0d_eq (x0 : List Int) (x1 : Int) (x5 : Int) : laws_heldInt64S.l0d x0 x1 x5 = if x5 < (x0.length : Int) then (if 0 ≤ x5 then (if (rd x0 x5) = x1 then (laws_heldInt64S.l0d x0 (wrap64 (x1 + 1)) (wrap64 (x5 + 1))) else (some (-1))) else (none)) else (some x1) := by
  refine IsLim.unique (laws_heldInt64S.l0lim _ _ _) ?_
  refine IsLim.shift (by rfl) ?_
  simp only [laws_heldInt64S.l0]
  repeat' (first | exact IsLim.const _ | refine IsLim.ite ?_ ?_ | refine IsLim.bind ?_ (fun _ => ?_) | exact laws_heldInt64S.l0lim ..)
noncomputable def laws_heldInt64S.d (l0 : List Int) (a1 : Int) : Option (Int) := lim (fun k => laws_heldInt64S.f k l0 a1)
theorem laws_heldInt64S.lim (l0 : List Int) (a1 : Int) : IsLim (fun k => laws_heldInt64S.f k l0 a1) (laws_heldInt64S.d l0 a1) := lim_spec (fun k => laws_heldInt64S.mono l0 a1 k)
theorem laws_heldInt64S.d_eq (l0 : List Int) (a1 : Int) : laws_heldInt64S.d l0 a1 = laws_heldInt64S.l0d l0 a1 0 := by
  refine IsLim.unique (laws_heldInt64S.lim _ _) ?_
  unfold laws_heldInt64S.f
  repeat' (first | exact IsLim.const _ | refine IsLim.ite ?_ ?_ | refine IsLim.bind ?_ (fun _ => ?_) | exact laws_heldInt64S.l0lim ..)
end Go.Proofs.Ytbgbblgdbcjibaa.P
end
section
namespace Go.Proofs.Ytbgbblgdbcjibaa.P
open Go.RowKit Go.Proofs.YtbgbblgdbcjibaaW.PrintWords Go.Proofs.YtbgbblgdbcjibaaW.PrintLast Go.Proofs.YtbgbblgdbcjibaaW.PrintMore
set_option linter.unusedVariables false
set_option linter.unusedSimpArgs false
noncomputable def spec_l03Elements.l0d (x1 : List Int) (x5 : Int) (x415000 : Int) (x415001 : Int) : Option (Bool) := lim (fun k => spec_l03Elements.l0 k x1 x5 x415000 x415001)
theorem spec_l03Elements.l0lim (x1 : List Int) (x5 : Int) (x415000 : Int) (x415001 : Int) : IsLim (fun k => spec_l03Elements.l0 k x1 x5 x415000 x415001) (spec_l03Elements.l0d x1 x5 x415000 x415001) := lim_spec (fun k => (spec_l03Elements.mono_l k) x1 x5 x415000 x415001)
theorem spec_l03Elements.l0d_eq (x1 : List Int) (x5 : Int) (x415000 : Int) (x415001 : Int) : spec_l03Elements.l0d x1 x5 x415000 x415001 = if x5 < (x1.length : Int) then (if 0 ≤ x5 then ((spec_l01Size.f x415000 x415001).bind fun t416 => ((spec_l00In.f (rd x1 x5) 0 (wrap64 (t416 - 1))).bind fun t417 => (if t417 = true then (spec_l03Elements.l0d x1 (wrap64 (x5 + 1)) x415000 x415001) else (some false)))) else (none)) else (some true) := by
  refine IsLim.unique (spec_l03Elements.l0lim _ _ _ _) ?_
  refine IsLim.shift (by rfl) ?_
  simp only [spec_l03Elements.l0]
  repeat' (first | exact IsLim.const _ | refine IsLim.ite ?_ ?_ | refine IsLim.bind ?_ (fun _ => ?_) | exact spec_l03Elements.l0lim ..)
noncomputable def spec_l03Elements.d (a0_0 : Int) (a0_1 : Int) (l1 : List Int) : Option (Bool) := lim (fun k => spec_l03Elements.f k a0_0 a0_1 l1)
theorem spec_l03Elements.lim (a0_0 : Int) (a0_1 : Int) (l1 : List Int) : IsLim (fun k => spec_l03Elements.f k a0_0 a0_1 l1) (spec_l03Elements.d a0_0 a0_1 l1) := lim_spec (fun k => spec_l03Elements.mono a0_0 a0_1 l1 k)
theorem spec_l03Elements.d_eq (a0_0 : Int) (a0_1 : Int) (l1 : List Int) : spec_l03Elements.d a0_0 a0_1 l1 = spec_l03Elements.l0d l1 0 a0_0 a0_1 := by
  refine IsLim.unique (spec_l03Elements.lim _ _ _) ?_
  unfold spec_l03Elements.f
  repeat' (first | exact IsLim.const _ | refine IsLim.ite ?_ ?_ | refine IsLim.bind ?_ (fun _ => ?_) | exact spec_l03Elements.l0lim ..)
noncomputable def spec_l03Ok.d (a0_0 : Int) (a0_1 : Int) (l1 : List Int) : Option (Bool) := lim (fun k => spec_l03Ok.f k a0_0 a0_1 l1)
theorem spec_l03Ok.lim (a0_0 : Int) (a0_1 : Int) (l1 : List Int) : IsLim (fun k => spec_l03Ok.f k a0_0 a0_1 l1) (spec_l03Ok.d a0_0 a0_1 l1) := lim_spec (fun k => spec_l03Ok.mono a0_0 a0_1 l1 k)
theorem spec_l03Ok.d_eq (a0_0 : Int) (a0_1 : Int) (l1 : List Int) : spec_l03Ok.d a0_0 a0_1 l1 = if (l1.length : Int) ≤ 12 then ((spec_l03Elements.d a0_0 a0_1 l1).bind fun t419 => (if t419 = true then (if (l1.length : Int) = 0 then (some true) else (if 0 ≤ (wrap64 ((l1.length : Int) - 1)) then (if (wrap64 ((l1.length : Int) - 1)) < (l1.length : Int) then (some ((rd l1 (wrap64 ((l1.length : Int) - 1))) != 0)) else (none)) else (none))) else (some false))) else (some false) := by
  refine IsLim.unique (spec_l03Ok.lim _ _ _) ?_
  unfold spec_l03Ok.f
  repeat' (first | exact IsLim.const _ | refine IsLim.ite ?_ ?_ | refine IsLim.bind ?_ (fun _ => ?_) | exact spec_l03Elements.lim ..)
noncomputable def spec_ValidLinear.d (a0_0 : Int) (a0_1 : Int) (l1 : List Int) : Option (Bool) := lim (fun k => spec_ValidLinear.f k a0_0 a0_1 l1)
theorem spec_ValidLinear.lim (a0_0 : Int) (a0_1 : Int) (l1 : List Int) : IsLim (fun k => spec_ValidLinear.f k a0_0 a0_1 l1) (spec_ValidLinear.d a0_0 a0_1 l1) := lim_spec (fun k => spec_ValidLinear.mono a0_0 a0_1 l1 k)
theorem spec_ValidLinear.d_eq (a0_0 : Int) (a0_1 : Int) (l1 : List Int) : spec_ValidLinear.d a0_0 a0_1 l1 = (spec_l01Ok.d a0_0 a0_1).bind fun t422 => (if t422 = true then ((spec_l03Ok.d a0_0 a0_1 l1).bind fun t423 => (some t423)) else (some false)) := by
  refine IsLim.unique (spec_ValidLinear.lim _ _ _) ?_
  unfold spec_ValidLinear.f
  repeat' (first | exact IsLim.const _ | refine IsLim.ite ?_ ?_ | refine IsLim.bind ?_ (fun _ => ?_) | exact spec_l01Ok.lim .. | exact spec_l03Ok.lim ..)
noncomputable def spec_l03Value.l0d (x1 : List Int) (x2 : Int) (x7 : Int) (x8 : Int) (x425000 : Int) (x425001 : Int) : Option (Int) := lim (fun k => spec_l03Value.l0 k x1 x2 x7 x8 x425000 x425001)
theorem spec_l03Value.l0lim (x1 : List Int) (x2 : Int) (x7 : Int) (x8 : Int) (x425000 : Int) (x425001 : Int) : IsLim (fun k => spec_l03Value.l0 k x1 x2 x7 x8 x425000 x425001) (spec_l03Value.l0d x1 x2 x7 x8 x425000 x425001) := lim_spec (fun k => (spec_l03Value.mono_l k) x1 x2 x7 x8 x425000 x425001)
theorem spec_l03Value.l0d_eq (x1 : List Int) (x2 : Int) (x7 : Int) (x8 : Int) (x425000 : Int) (x425001 : Int) : spec_l03Value.l0d x1 x2 x7 x8 x425000 x425001 = if x8 < (x1.length : Int) then (if 0 ≤ x8 then ((spec_l01Square.d x425000 x425001 x2 x8).bind fun t426 => ((spec_l01Mul.d x425000 x425001 (rd x1 x8) t426).bind fun t427 => (spec_l03Value.l0d x1 x2 (Go.bits .xor .i64 x7 t427) (wrap64 (x8 + 1)) x425000 x425001))) else (none)) else (some x7) := by
  refine IsLim.unique (spec_l03Value.l0lim _ _ _ _ _ _) ?_
  refine IsLim.shift (by rfl) ?_
  simp only [spec_l03Value.l0]
  repeat' (first | exact IsLim.const _ | refine IsLim.ite ?_ ?_ | refine IsLim.bind ?_ (fun _ => ?_) | exact spec_l01Square.lim .. | exact spec_l01Mul.lim .. | exact spec_l03Value.l0lim ..)
noncomputable def spec_l03Value.d (a0_0 : Int) (a0_1 : Int) (l1 : List Int) (a2 : Int) : Option (Int) := lim (fun k => spec_l03Value.f k a0_0 a0_1 l1 a2)
theorem spec_l03Value.lim (a0_0 : Int) (a0_1 : Int) (l1 : List Int) (a2 : Int) : IsLim (fun k => spec_l03Value.f k a0_0 a0_1 l1 a2) (spec_l03Value.d a0_0 a0_1 l1 a2) := lim_spec (fun k => spec_l03Value.mono a0_0 a0_1 l1 a2 k)
theorem spec_l03Value.d_eq (a0_0 : Int) (a0_1 : Int) (l1 : List Int) (a2 : Int) : spec_l03Value.d a0_0 a0_1 l1 a2 = spec_l03Value.l0d l1 a2 0 0 a0_0 a0_1 := by
  refine IsLim.unique (spec_l03Value.lim _ _ _ _) ?_
  unfold spec_l03Value.f
  repeat' (first | exact IsLim.const _ | refine IsLim.ite ?_ ?_ | refine IsLim.bind ?_ (fun _ => ?_) | exact spec_l03Value.l0lim ..)
end Go.Proofs.Ytbgbblgdbcjibaa.P
end
section
namespace Go.Proofs.Ytbgbblgdbcjibaa.P
open Go.RowKit Go.Proofs.YtbgbblgdbcjibaaW.PrintWords Go.Proofs.YtbgbblgdbcjibaaW.PrintLast Go.Proofs.YtbgbblgdbcjibaaW.PrintMore
set_option linter.unusedVariables false
set_option linter.unusedSimpArgs false
noncomputable def spec_MatrixOfLinear.l0d (x1 : List Int) (x2 : List Int) (x10 : Int) (x528000 : Int) (x528001 : Int) (x532000 : Int) (x532001 : List Int) : Option (Int × List Int × Int) := lim (fun k => spec_MatrixOfLinear.l0 k x1 x2 x10 x528000 x528001 x532000 x532001)
theorem spec_MatrixOfLinear.l0lim (x1 : List Int) (x2 : List Int) (x10 : Int) (x528000 : Int) (x528001 : Int) (x532000 : Int) (x532001 : List Int) : IsLim (fun k => spec_MatrixOfLinear.l0 k x1 x2 x10 x528000 x528001 x532000 x532001) (spec_MatrixOfLinear.l0d x1 x2 x10 x528000 x528001 x532000 x532001) := lim_spec (fun k => (spec_MatrixOfLinear.mono_l k) x1 x2 x10 x528000 x528001 x532000 x532001)
theorem spec_MatrixOfLinear.l0d_eq (x1 : List Int) (x2 : List Int) (x10 : Int) (x528000 : Int) (x528001 : Int) (x532000 : Int) (x532001 : List Int) : spec_MatrixOfLinear.l0d x1 x2 x10 x528000 x528001 x532000 x532001 = if x10 < (x1.length : Int) then (if 0 ≤ x10 then ((spec_l03Value.d x528000 x528001 x2 (rd x1 x10)).bind fun t533 => ((spec_l03Coordinates.d x1 t533).bind fun t534 => (if x532001.length < 17592186044416 then (spec_MatrixOfLinear.l0d x1 x2 (wrap64 (x10 + 1)) x528000 x528001 x532000 (x532001 ++ [t534])) else (none)))) else (none)) else (some (x532000, x532001, 0)) := by
  refine IsLim.unique (spec_MatrixOfLinear.l0lim _ _ _ _ _ _ _) ?_
  refine IsLim.shift (by rfl) ?_
  simp only [spec_MatrixOfLinear.l0]
  repeat' (first | exact IsLim.const _ | refine IsLim.ite ?_ ?_ | refine IsLim.bind ?_ (fun _ => ?_) | exact spec_l03Value.lim .. | exact spec_l03Coordinates.lim .. | exact spec_MatrixOfLinear.l0lim ..)
noncomputable def spec_MatrixOfLinear.d (a0_0 : Int) (a0_1 : Int) (l1 : List Int) (l2 : List Int) : Option (Int × List Int × Int) := lim (fun k => spec_MatrixOfLinear.f k a0_0 a0_1 l1 l2)
theorem spec_MatrixOfLinear.lim (a0_0 : Int) (a0_1 : Int) (l1 : List Int) (l2 : List Int) : IsLim (fun k => spec_MatrixOfLinear.f k a0_0 a0_1 l1 l2) (spec_MatrixOfLinear.d a0_0 a0_1 l1 l2) := lim_spec (fun k => spec_MatrixOfLinear.mono a0_0 a0_1 l1 l2 k)
theorem spec_MatrixOfLinear.d_eq (a0_0 : Int) (a0_1 : Int) (l1 : List Int) (l2 : List Int) : spec_MatrixOfLinear.d a0_0 a0_1 l1 l2 = (spec_ValidLinear.d a0_0 a0_1 l2).bind fun t529 => (if t529 = true then ((spec_l03Based.d a0_0 a0_1 l1).bind fun t530 => (if t530 = 0 then (spec_MatrixOfLinear.l0d l1 l2 0 a0_0 a0_1 a0_0 ([] : List Int)) else (some (0, ([] : List Int), t530)))) else (some (0, ([] : List Int), 1))) := by
  refine IsLim.unique (spec_MatrixOfLinear.lim _ _ _ _) ?_
  unfold spec_MatrixOfLinear.f
  repeat' (first | exact IsLim.const _ | refine IsLim.ite ?_ ?_ | refine IsLim.bind ?_ (fun _ => ?_) | exact spec_ValidLinear.lim .. | exact spec_l03Based.lim .. | exact spec_MatrixOfLinear.l0lim ..)
end Go.Proofs.Ytbgbblgdbcjibaa.P
end
section
namespace Go.Proofs.Ytbgbblgdbcjibaa.P
open Go.RowKit Go.Proofs.YtbgbblgdbcjibaaW.PrintWords Go.Proofs.YtbgbblgdbcjibaaW.PrintLast Go.Proofs.YtbgbblgdbcjibaaW.PrintMore
set_option linter.unusedVariables false
set_option linter.unusedSimpArgs false
noncomputable def impl_Field_isLinear.d (a0_0 : Int) (a0_1 : Int) (l1 : List Int) : Option (Bool) := lim (fun k => impl_Field_isLinear.f k a0_0 a0_1 l1)
theorem impl_Field_isLinear.lim (a0_0 : Int) (a0_1 : Int) (l1 : List Int) : IsLim (fun k => impl_Field_isLinear.f k a0_0 a0_1 l1) (impl_Field_isLinear.d a0_0 a0_1 l1) := lim_spec (fun k => impl_Field_isLinear.mono a0_0 a0_1 l1 k)
theorem impl_Field_isLinear.d_eq (a0_0 : Int) (a0_1 : Int) (l1 : List Int) : impl_Field_isLinear.d a0_0 a0_1 l1 = if (l1.length : Int) ≤ 12 then ((impl_Field_has.d a0_0 a0_1 l1).bind fun t442 => (if t442 = true then (if (l1.length : Int) = 0 then (some true) else (if 0 ≤ (wrap64 ((l1.length : Int) - 1)) then (if (wrap64 ((l1.length : Int) - 1)) < (l1.length : Int) then (some ((rd l1 (wrap64 ((l1.length : Int) - 1))) != 0)) else (none)) else (none))) else (some false))) else (some false) := by
  refine IsLim.unique (impl_Field_isLinear.lim _ _ _) ?_
  unfold impl_Field_isLinear.f
  repeat' (first | exact IsLim.const _ | refine IsLim.ite ?_ ?_ | refine IsLim.bind ?_ (fun _ => ?_) | exact impl_Field_has.lim ..)
noncomputable def impl_Field_linearCode_1.d (l0 : List Int) (a1_0 : Int) (a1_1 : Int) : Option (Bool) := lim (fun k => impl_Field_linearCode_1.f k l0 a1_0 a1_1)
theorem impl_Field_linearCode_1.lim (l0 : List Int) (a1_0 : Int) (a1_1 : Int) : IsLim (fun k => impl_Field_linearCode_1.f k l0 a1_0 a1_1) (impl_Field_linearCode_1.d l0 a1_0 a1_1) := lim_spec (fun k => impl_Field_linearCode_1.mono l0 a1_0 a1_1 k)
theorem impl_Field_linearCode_1.d_eq (l0 : List Int) (a1_0 : Int) (a1_1 : Int) : impl_Field_linearCode_1.d l0 a1_0 a1_1 = (impl_Field_isLinear.d a1_0 a1_1 l0).bind fun t444 => (some (!t444)) := by
  refine IsLim.unique (impl_Field_linearCode_1.lim _ _ _) ?_
  unfold impl_Field_linearCode_1.f
  repeat' (first | exact IsLim.const _ | refine IsLim.ite ?_ ?_ | refine IsLim.bind ?_ (fun _ => ?_) | exact impl_Field_isLinear.lim ..)
noncomputable def slices_IndexFunc_int64_int64_AT_impl_Field_linearCode_1.l0d (x0 : List (List Int)) (x7 : Int) (x8 : Int) (x49000 : Int) (x49001 : Int) : Option (Int) := lim (fun k => slices_IndexFunc_int64_int64_AT_impl_Field_linearCode_1.l0 k x0 x7 x8 x49000 x49001)
theorem slices_IndexFunc_int64_int64_AT_impl_Field_linearCode_1.l0lim (x0 : List (List Int)) (x7 : Int) (x8 : Int) (x49000 : Int) (x49001 : Int) : IsLim (fun k => slices_IndexFunc_int64_int64_AT_impl_Field_linearCode_1.l0 k x0 x7 x8 x49000 x49001) (slices_IndexFunc_int64_int64_AT_impl_Field_linearCode_1.l0d x0 x7 x8 x49000 x49001) := lim_spec (fun k => (slices_IndexFunc_int64_int64_AT_impl_Field_linearCode_1.mono_l k) x0 x7 x8 x49000 x49001)
theorem slices_IndexFunc_int64_int64_AT_impl_Field_linearCode_1.l0d_eq (x0 : List (List Int)) (x7 : Int) (x8 : Int) (x49000 : Int) (x49001 : Int) : slices_IndexFunc_int64_int64_AT_impl_Field_linearCode_1.l0d x0 x7 x8 x49000 x49001 = if x8 < x7 then (if 0 ≤ x8 then (if x8 < (x0.length : Int) then ((impl_Field_linearCode_1.d (rd_L2 x0 x8) x49000 x49001).bind fun t446 => (if t446 = true then (some x8) else (slices_IndexFunc_int64_int64_AT_impl_Field_linearCode_1.l0d x0 x7 (wrap64 (x8 + 1)) x49000 x49001))) else (none)) else (none)) else (some (-1)) := by
  refine IsLim.unique (slices_IndexFunc_int64_int64_AT_impl_Field_linearCode_1.l0lim _ _ _ _ _) ?_
  refine IsLim.shift (by rfl) ?_
  simp only [slices_IndexFunc_int64_int64_AT_impl_Field_linearCode_1.l0]
  repeat' (first | exact IsLim.const _ | refine IsLim.ite ?_ ?_ | refine IsLim.bind ?_ (fun _ => ?_) | exact impl_Field_linearCode_1.lim .. | exact slices_IndexFunc_int64_int64_AT_impl_Field_linearCode_1.l0lim ..)
noncomputable def slices_IndexFunc_int64_int64_AT_impl_Field_linearCode_1.d (l0 : List (List Int)) (a1_0 : Int) (a1_1 : Int) : Option (Int) := lim (fun k => slices_IndexFunc_int64_int64_AT_impl_Field_linearCode_1.f k l0 a1_0 a1_1)
theorem slices_IndexFunc_int64_int64_AT_impl_Field_linearCode_1.lim (l0 : List (List Int)) (a1_0 : Int) (a1_1 : Int) : IsLim (fun k => slices_IndexFunc_int64_int64_AT_impl_Field_linearCode_1.f k l0 a1_0 a1_1) (slices_IndexFunc_int64_int64_AT_impl_Field_linearCode_1.d l0 a1_0 a1_1) := lim_spec (fun k => slices_IndexFunc_int64_int64_AT_impl_Field_linearCode_1.mono l0 a1_0 a1_1 k)
theorem slices_IndexFunc_int64_int64_AT_impl_Field_linearCode_1.d_eq (l0 : List (List Int)) (a1_0 : Int) (a1_1 : Int) : slices_IndexFunc_int64_int64_AT_impl_Field_linearCode_1.d l0 a1_0 a1_1 = slices_IndexFunc_int64_int64_AT_impl_Field_linearCode_1.l0d l0 (l0.length : Int) 0 a1_0 a1_1 := by
  refine IsLim.unique (slices_IndexFunc_int64_int64_AT_impl_Field_linearCode_1.lim _ _ _) ?_
  unfold slices_IndexFunc_int64_int64_AT_impl_Field_linearCode_1.f
  repeat' (first | exact IsLim.const _ | refine IsLim.ite ?_ ?_ | refine IsLim.bind ?_ (fun _ => ?_) | exact slices_IndexFunc_int64_int64_AT_impl_Field_linearCode_1.l0lim ..)
noncomputable def slices_ContainsFunc_int64_int64_AT_impl_Field_linearCode_1.d (l0 : List (List Int)) (a1_0 : Int) (a1_1 : Int) : Option (Bool) := lim (fun k => slices_ContainsFunc_int64_int64_AT_impl_Field_linearCode_1.f k l0 a1_0 a1_1)
theorem slices_ContainsFunc_int64_int64_AT_impl_Field_linearCode_1.lim (l0 : List (List Int)) (a1_0 : Int) (a1_1 : Int) : IsLim (fun k => slices_ContainsFunc_int64_int64_AT_impl_Field_linearCode_1.f k l0 a1_0 a1_1) (slices_ContainsFunc_int64_int64_AT_impl_Field_linearCode_1.d l0 a1_0 a1_1) := lim_spec (fun k => slices_ContainsFunc_int64_int64_AT_impl_Field_linearCode_1.mono l0 a1_0 a1_1 k)
theorem slices_ContainsFunc_int64_int64_AT_impl_Field_linearCode_1.d_eq (l0 : List (List Int)) (a1_0 : Int) (a1_1 : Int) : slices_ContainsFunc_int64_int64_AT_impl_Field_linearCode_1.d l0 a1_0 a1_1 = (slices_IndexFunc_int64_int64_AT_impl_Field_linearCode_1.d l0 a1_0 a1_1).bind fun t447 => (some (decide (t447 ≥ 0))) := by
  refine IsLim.unique (slices_ContainsFunc_int64_int64_AT_impl_Field_linearCode_1.lim _ _ _) ?_
  unfold slices_ContainsFunc_int64_int64_AT_impl_Field_linearCode_1.f
  repeat' (first | exact IsLim.const _ | refine IsLim.ite ?_ ?_ | refine IsLim.bind ?_ (fun _ => ?_) | exact slices_IndexFunc_int64_int64_AT_impl_Field_linearCode_1.lim ..)
noncomputable def impl_Field_linearCode.d (a0_0 : Int) (a0_1 : Int) (l1 : List (List Int)) : Option (Int) := lim (fun k => impl_Field_linearCode.f k a0_0 a0_1 l1)
theorem impl_Field_linearCode.lim (a0_0 : Int) (a0_1 : Int) (l1 : List (List Int)) : IsLim (fun k => impl_Field_linearCode.f k a0_0 a0_1 l1) (impl_Field_linearCode.d a0_0 a0_1 l1) := lim_spec (fun k => impl_Field_linearCode.mono a0_0 a0_1 l1 k)
theorem impl_Field_linearCode.d_eq (a0_0 : Int) (a0_1 : Int) (l1 : List (List Int)) : impl_Field_linearCode.d a0_0 a0_1 l1 = (impl_ValidField.d a0_0 a0_1).bind fun t449 => (if t449 = true then ((slices_ContainsFunc_int64_int64_AT_impl_Field_linearCode_1.d l1 a0_0 a0_1).bind fun t450 => (if t450 = true then (some 1) else (some 0))) else (some 1)) := by
  refine IsLim.unique (impl_Field_linearCode.lim _ _ _) ?_
  unfold impl_Field_linearCode.f
  repeat' (first | exact IsLim.const _ | refine IsLim.ite ?_ ?_ | refine IsLim.bind ?_ (fun _ => ?_) | exact impl_ValidField.lim .. | exact slices_ContainsFunc_int64_int64_AT_impl_Field_linearCode_1.lim ..)
noncomputable def impl_Field_value.l0d (x2 : Int) (x7 : Int) (x10 : List Int) (x11 : Int) (x12 : Int) (x452000 : Int) (x452001 : Int) : Option (Int) := lim (fun k => impl_Field_value.l0 k x2 x7 x10 x11 x12 x452000 x452001)
theorem impl_Field_value.l0lim (x2 : Int) (x7 : Int) (x10 : List Int) (x11 : Int) (x12 : Int) (x452000 : Int) (x452001 : Int) : IsLim (fun k => impl_Field_value.l0 k x2 x7 x10 x11 x12 x452000 x452001) (impl_Field_value.l0d x2 x7 x10 x11 x12 x452000 x452001) := lim_spec (fun k => (impl_Field_value.mono_l k) x2 x7 x10 x11 x12 x452000 x452001)
theorem impl_Field_value.l0d_eq (x2 : Int) (x7 : Int) (x10 : List Int) (x11 : Int) (x12 : Int) (x452000 : Int) (x452001 : Int) : impl_Field_value.l0d x2 x7 x10 x11 x12 x452000 x452001 = if x12 < x11 then (if 0 ≤ x12 then (if x12 < (x10.length : Int) then ((impl_Field_square.d x452000 x452001 x2 x12).bind fun t453 => ((impl_Field_mul.d x452000 x452001 (rd x10 x12) t453).bind fun t454 => (impl_Field_value.l0d x2 (Go.bits .xor .i64 x7 t454) x10 x11 (wrap64 (x12 + 1)) x452000 x452001))) else (none)) else (none)) else (some x7) := by
  refine IsLim.unique (impl_Field_value.l0lim _ _ _ _ _ _ _) ?_
  refine IsLim.shift (by rfl) ?_
  simp only [impl_Field_value.l0]
  repeat' (first | exact IsLim.const _ | refine IsLim.ite ?_ ?_ | refine IsLim.bind ?_ (fun _ => ?_) | exact impl_Field_square.lim .. | exact impl_Field_mul.lim .. | exact impl_Field_value.l0lim ..)
noncomputable def impl_Field_value.d (a0_0 : Int) (a0_1 : Int) (l1 : List Int) (a2 : Int) : Option (Int) := lim (fun k => impl_Field_value.f k a0_0 a0_1 l1 a2)
theorem impl_Field_value.lim (a0_0 : Int) (a0_1 : Int) (l1 : List Int) (a2 : Int) : IsLim (fun k => impl_Field_value.f k a0_0 a0_1 l1 a2) (impl_Field_value.d a0_0 a0_1 l1 a2) := lim_spec (fun k => impl_Field_value.mono a0_0 a0_1 l1 a2 k)
theorem impl_Field_value.d_eq (a0_0 : Int) (a0_1 : Int) (l1 : List Int) (a2 : Int) : impl_Field_value.d a0_0 a0_1 l1 a2 = impl_Field_value.l0d a2 0 l1 (l1.length : Int) 0 a0_0 a0_1 := by
  refine IsLim.unique (impl_Field_value.lim _ _ _ _) ?_
  unfold impl_Field_value.f
  repeat' (first | exact IsLim.const _ | refine IsLim.ite ?_ ?_ | refine IsLim.bind ?_ (fun _ => ?_) | exact impl_Field_value.l0lim ..)
end Go.Proofs.Ytbgbblgdbcjibaa.P
end
section
namespace Go.Proofs.Ytbgbblgdbcjibaa.P
open Go.RowKit Go.Proofs.YtbgbblgdbcjibaaW.PrintWords Go.Proofs.YtbgbblgdbcjibaaW.PrintLast Go.Proofs.YtbgbblgdbcjibaaW.PrintMore
set_option linter.unusedVariables false
set_option linter.unusedSimpArgs false
noncomputable def impl_Field_values.l0d (x1 : List Int) (x7 : List Int) (x11 : List Int) (x12 : Int) (x13 : Int) (x539000 : Int) (x539001 : Int) : Option (List Int) := lim (fun k => impl_Field_values.l0 k x1 x7 x11 x12 x13 x539000 x539001)
theorem impl_Field_values.l0lim (x1 : List Int) (x7 : List Int) (x11 : List Int) (x12 : Int) (x13 : Int) (x539000 : Int) (x539001 : Int) : IsLim (fun k => impl_Field_values.l0 k x1 x7 x11 x12 x13 x539000 x539001) (impl_Field_values.l0d x1 x7 x11 x12 x13 x539000 x539001) := lim_spec (fun k => (impl_Field_values.mono_l k) x1 x7 x11 x12 x13 x539000 x539001)
theorem impl_Field_values.l0d_eq (x1 : List Int) (x7 : List Int) (x11 : List Int) (x12 : Int) (x13 : Int) (x539000 : Int) (x539001 : Int) : impl_Field_values.l0d x1 x7 x11 x12 x13 x539000 x539001 = if x13 < x12 then (if 0 ≤ x13 then (if x13 < (x11.length : Int) then ((impl_Field_value.d x539000 x539001 x1 (rd x11 x13)).bind fun t543 => (if x7.length < 17592186044416 then (impl_Field_values.l0d x1 (x7 ++ [t543]) x11 x12 (wrap64 (x13 + 1)) x539000 x539001) else (none))) else (none)) else (none)) else (some x7) := by
  refine IsLim.unique (impl_Field_values.l0lim _ _ _ _ _ _ _) ?_
  refine IsLim.shift (by rfl) ?_
  simp only [impl_Field_values.l0]
  repeat' (first | exact IsLim.const _ | refine IsLim.ite ?_ ?_ | refine IsLim.bind ?_ (fun _ => ?_) | exact impl_Field_value.lim .. | exact impl_Field_values.l0lim ..)
noncomputable def impl_Field_values.d (a0_0 : Int) (a0_1 : Int) (l1 : List Int) (l2 : List Int) : Option (List Int) := lim (fun k => impl_Field_values.f k a0_0 a0_1 l1 l2)
theorem impl_Field_values.lim (a0_0 : Int) (a0_1 : Int) (l1 : List Int) (l2 : List Int) : IsLim (fun k => impl_Field_values.f k a0_0 a0_1 l1 l2) (impl_Field_values.d a0_0 a0_1 l1 l2) := lim_spec (fun k => impl_Field_values.mono a0_0 a0_1 l1 l2 k)
theorem impl_Field_values.d_eq (a0_0 : Int) (a0_1 : Int) (l1 : List Int) (l2 : List Int) : impl_Field_values.d a0_0 a0_1 l1 l2 = impl_Field_values.l0d l1 (([] : List Int)) l2 (l2.length : Int) 0 a0_0 a0_1 := by
  refine IsLim.unique (impl_Field_values.lim _ _ _ _) ?_
  unfold impl_Field_values.f
  repeat' (first | exact IsLim.const _ | refine IsLim.ite ?_ ?_ | refine IsLim.bind ?_ (fun _ => ?_) | exact impl_Field_values.l0lim ..)
end Go.Proofs.Ytbgbblgdbcjibaa.P
end
section
namespace Go.Proofs.Ytbgbblgdbcjibaa.P
open Go.RowKit Go.Proofs.YtbgbblgdbcjibaaW.PrintWords Go.Proofs.YtbgbblgdbcjibaaW.PrintLast Go.Proofs.YtbgbblgdbcjibaaW.PrintMore
set_option linter.unusedVariables false
set_option linter.unusedSimpArgs false
noncomputable def impl_Field_code.d (a0_0 : Int) (a0_1 : Int) (a1 : Bool) (l2 : List Int) : Option (Int) := lim (fun k => impl_Field_code.f k a0_0 a0_1 a1 l2)
theorem impl_Field_code.lim (a0_0 : Int) (a0_1 : Int) (a1 : Bool) (l2 : List Int) : IsLim (fun k => impl_Field_code.f k a0_0 a0_1 a1 l2) (impl_Field_code.d a0_0 a0_1 a1 l2) := lim_spec (fun k => impl_Field_code.mono a0_0 a0_1 a1 l2 k)
theorem impl_Field_code.d_eq (a0_0 : Int) (a0_1 : Int) (a1 : Bool) (l2 : List Int) : impl_Field_code.d a0_0 a0_1 a1 l2 = (impl_ValidField.d a0_0 a0_1).bind fun t156 => (if t156 = true then ((impl_Field_has.d a0_0 a0_1 l2).bind fun t157 => (if t157 = true then (if a1 = true then (some 0) else (some 2)) else (some 2))) else (some 1)) := by
  refine IsLim.unique (impl_Field_code.lim _ _ _ _) ?_
  unfold impl_Field_code.f
  repeat' (first | exact IsLim.const _ | refine IsLim.ite ?_ ?_ | refine IsLim.bind ?_ (fun _ => ?_) | exact impl_ValidField.lim .. | exact impl_Field_has.lim ..)
end Go.Proofs.Ytbgbblgdbcjibaa.P
end
section
namespace Go.Proofs.Ytbgbblgdbcjibaa.P
open Go.RowKit Go.Proofs.YtbgbblgdbcjibaaW.PrintWords Go.Proofs.YtbgbblgdbcjibaaW.PrintLast Go.Proofs.YtbgbblgdbcjibaaW.PrintMore
set_option linter.unusedVariables false
set_option linter.unusedSimpArgs false
noncomputable def impl_Field_basisCode.d (a0_0 : Int) (a0_1 : Int) (l1 : List Int) (l2 : List Int) : Option (Int) := lim (fun k => impl_Field_basisCode.f k a0_0 a0_1 l1 l2)
theorem impl_Field_basisCode.lim (a0_0 : Int) (a0_1 : Int) (l1 : List Int) (l2 : List Int) : IsLim (fun k => impl_Field_basisCode.f k a0_0 a0_1 l1 l2) (impl_Field_basisCode.d a0_0 a0_1 l1 l2) := lim_spec (fun k => impl_Field_basisCode.mono a0_0 a0_1 l1 l2 k)
theorem impl_Field_basisCode.d_eq (a0_0 : Int) (a0_1 : Int) (l1 : List Int) (l2 : List Int) : impl_Field_basisCode.d a0_0 a0_1 l1 l2 = (slices_Clone_int64_int64.f l1).bind fun t293 => (if t293.length + l2.length < 17592186044416 then ((impl_Field_code.d a0_0 a0_1 true (t293 ++ l2)).bind fun t299 => (if t299 = 0 then ((impl_Field_coordinates.d a0_0 a0_1 l1).bind fun t300 => (if (t300.length : Int) = 0 then (some 4) else (some t299))) else (some t299))) else (none)) := by
  refine IsLim.unique (impl_Field_basisCode.lim _ _ _ _) ?_
  unfold impl_Field_basisCode.f
  repeat' (first | exact IsLim.const _ | refine IsLim.ite ?_ ?_ | refine IsLim.bind ?_ (fun _ => ?_) | exact impl_Field_code.lim .. | exact impl_Field_coordinates.lim ..)
end Go.Proofs.Ytbgbblgdbcjibaa.P
end
section
namespace Go.Proofs.Ytbgbblgdbcjibaa.P
open Go.RowKit Go.Proofs.YtbgbblgdbcjibaaW.PrintWords Go.Proofs.YtbgbblgdbcjibaaW.PrintLast Go.Proofs.YtbgbblgdbcjibaaW.PrintMore
set_option linter.unusedVariables false
set_option linter.unusedSimpArgs false
noncomputable def impl_MatrixOfLinear.j0d (x1 : List Int) (x2 : List Int) (x8 : Int) (x548000 : Int) (x548001 : Int) : Option (Int × List Int × Int) := lim (fun k => impl_MatrixOfLinear.j0 k x1 x2 x8 x548000 x548001)
theorem impl_MatrixOfLinear.j0lim (x1 : List Int) (x2 : List Int) (x8 : Int) (x548000 : Int) (x548001 : Int) : IsLim (fun k => impl_MatrixOfLinear.j0 k x1 x2 x8 x548000 x548001) (impl_MatrixOfLinear.j0d x1 x2 x8 x548000 x548001) := lim_spec (fun k => (impl_MatrixOfLinear.mono_l k).1 x1 x2 x8 x548000 x548001)
noncomputable def impl_MatrixOfLinear.l0d (x10 : List Int) (x35 : List Int) (x36 : Int) (x37 : Int) (x558000 : Int) (x558001 : List Int) : Option (Int × List Int × Int) := lim (fun k => impl_MatrixOfLinear.l0 k x10 x35 x36 x37 x558000 x558001)
theorem impl_MatrixOfLinear.l0lim (x10 : List Int) (x35 : List Int) (x36 : Int) (x37 : Int) (x558000 : Int) (x558001 : List Int) : IsLim (fun k => impl_MatrixOfLinear.l0 k x10 x35 x36 x37 x558000 x558001) (impl_MatrixOfLinear.l0d x10 x35 x36 x37 x558000 x558001) := lim_spec (fun k => (impl_MatrixOfLinear.mono_l k).2 x10 x35 x36 x37 x558000 x558001)
theorem impl_MatrixOfLinear.j0d_eq (x1 : List Int) (x2 : List Int) (x8 : Int) (x548000 : Int) (x548001 : Int) : impl_MatrixOfLinear.j0d x1 x2 x8 x548000 x548001 = if x8 = 0 then ((impl_Field_coordinates.d x548000 x548001 x1).bind fun t554 => ((impl_Field_values.d x548000 x548001 x2 x1).bind fun t558 => (impl_MatrixOfLinear.l0d t554 t558 (t558.length : Int) 0 x548000 ([] : List Int)))) else (some (0, ([] : List Int), x8)) := by
  refine IsLim.unique (impl_MatrixOfLinear.j0lim _ _ _ _ _) ?_
  refine IsLim.shift (by rfl) ?_
  simp only [impl_MatrixOfLinear.j0]
  repeat' (first | exact IsLim.const _ | refine IsLim.ite ?_ ?_ | refine IsLim.bind ?_ (fun _ => ?_) | exact impl_Field_coordinates.lim .. | exact impl_Field_values.lim .. | exact impl_MatrixOfLinear.l0lim ..)
theorem impl_MatrixOfLinear.l0d_eq (x10 : List Int) (x35 : List Int) (x36 : Int) (x37 : Int) (x558000 : Int) (x558001 : List Int) : impl_MatrixOfLinear.l0d x10 x35 x36 x37 x558000 x558001 = if x37 < x36 then (if 0 ≤ x37 then (if x37 < (x35.length : Int) then (if 0 ≤ (rd x35 x37) then (if (rd x35 x37) < (x10.length : Int) then (if x558001.length < 17592186044416 then (impl_MatrixOfLinear.l0d x10 x35 x36 (wrap64 (x37 + 1)) x558000 (x558001 ++ [rd x10 (rd x35 x37)])) else (none)) else (none)) else (none)) else (none)) else (none)) else (some (x558000, x558001, 0)) := by
  refine IsLim.unique (impl_MatrixOfLinear.l0lim _ _ _ _ _ _) ?_
  refine IsLim.shift (by rfl) ?_
  simp only [impl_MatrixOfLinear.l0]
  repeat' (first | exact IsLim.const _ | refine IsLim.ite ?_ ?_ | refine IsLim.bind ?_ (fun _ => ?_) | exact impl_MatrixOfLinear.l0lim ..)
noncomputable def impl_MatrixOfLinear.d (a0_0 : Int) (a0_1 : Int) (l1 : List Int) (l2 : List Int) : Option (Int × List Int × Int) := lim (fun k => impl_MatrixOfLinear.f k a0_0 a0_1 l1 l2)
theorem impl_MatrixOfLinear.lim (a0_0 : Int) (a0_1 : Int) (l1 : List Int) (l2 : List Int) : IsLim (fun k => impl_MatrixOfLinear.f k a0_0 a0_1 l1 l2) (impl_MatrixOfLinear.d a0_0 a0_1 l1 l2) := lim_spec (fun k => impl_MatrixOfLinear.mono a0_0 a0_1 l1 l2 k)
theorem impl_MatrixOfLinear.d_eq (a0_0 : Int) (a0_1 : Int) (l1 : List Int) (l2 : List Int) : impl_MatrixOfLinear.d a0_0 a0_1 l1 l2 = (impl_Field_linearCode.d a0_0 a0_1 (([l2] : List (List Int)))).bind fun t552 => (if t552 = 0 then ((impl_Field_basisCode.d a0_0 a0_1 l1 ([] : List Int)).bind fun t553 => (impl_MatrixOfLinear.j0d l1 l2 t553 a0_0 a0_1)) else (impl_MatrixOfLinear.j0d l1 l2 t552 a0_0 a0_1)) := by
  refine IsLim.unique (impl_MatrixOfLinear.lim _ _ _ _) ?_
  unfold impl_MatrixOfLinear.f
  repeat' (first | exact IsLim.const _ | refine IsLim.ite ?_ ?_ | refine IsLim.bind ?_ (fun _ => ?_) | exact impl_Field_linearCode.lim .. | exact impl_Field_basisCode.lim .. | exact impl_MatrixOfLinear.j0lim ..)
end Go.Proofs.Ytbgbblgdbcjibaa.P
end
section
namespace Go.Proofs.Ytbgbblgdbcjibaa.P
open Go.RowKit Go.Proofs.YtbgbblgdbcjibaaW.PrintWords Go.Proofs.YtbgbblgdbcjibaaW.PrintLast Go.Proofs.YtbgbblgdbcjibaaW.PrintMore
set_option linter.unusedVariables false
set_option linter.unusedSimpArgs false
noncomputable def laws_eqInt64S.l0d (x0 : List Int) (x1 : List Int) (x5 : Int) : Option (Bool) := lim (fun k => laws_eqInt64S.l0 k x0 x1 x5)
theorem laws_eqInt64S.l0lim (x0 : List Int) (x1 : List Int) (x5 : Int) : IsLim (fun k => laws_eqInt64S.l0 k x0 x1 x5) (laws_eqInt64S.l0d x0 x1 x5) := lim_spec (fun k => (laws_eqInt64S.mono_l k) x0 x1 x5)
theorem laws_eqInt64S.l0d_eq (x0 : List Int) (x1 : List Int) (x5 : Int) : laws_eqInt64S.l0d x0 x1 x5 = if x5 < (x0.length : Int) then (if 0 ≤ x5 then (if x5 < (x1.length : Int) then (if (rd x0 x5) = (rd x1 x5) then (laws_eqInt64S.l0d x0 x1 (wrap64 (x5 + 1))) else (some false)) else (none)) else (none)) else (some true) := by
  refine IsLim.unique (laws_eqInt64S.l0lim _ _ _) ?_
  refine IsLim.shift (by rfl) ?_
  simp only [laws_eqInt64S.l0]
  repeat' (first | exact IsLim.const _ | refine IsLim.ite ?_ ?_ | refine IsLim.bind ?_ (fun _ => ?_) | exact laws_eqInt64S.l0lim ..)
noncomputable def laws_eqInt64S.d (l0 : List Int) (l1 : List Int) : Option (Bool) := lim (fun k => laws_eqInt64S.f k l0 l1)
theorem laws_eqInt64S.lim (l0 : List Int) (l1 : List Int) : IsLim (fun k => laws_eqInt64S.f k l0 l1) (laws_eqInt64S.d l0 l1) := lim_spec (fun k => laws_eqInt64S.mono l0 l1 k)
theorem laws_eqInt64S.d_eq (l0 : List Int) (l1 : List Int) : laws_eqInt64S.d l0 l1 = if (l0.length : Int) = (l1.length : Int) then (laws_eqInt64S.l0d l0 l1 0) else (some false) := by
  refine IsLim.unique (laws_eqInt64S.lim _ _) ?_
  unfold laws_eqInt64S.f
  repeat' (first | exact IsLim.const _ | refine IsLim.ite ?_ ?_ | refine IsLim.bind ?_ (fun _ => ?_) | exact laws_eqInt64S.l0lim ..)
end Go.Proofs.Ytbgbblgdbcjibaa.P
end
section
namespace Go.Proofs.Ytbgbblgdbcjibaa.P
open Go.RowKit Go.Proofs.YtbgbblgdbcjibaaW.PrintWords Go.Proofs.YtbgbblgdbcjibaaW.PrintLast Go.Proofs.YtbgbblgdbcjibaaW.PrintMore
set_option linter.unusedVariables false
set_option linter.unusedSimpArgs false
noncomputable def laws_eqMatrix.d (a0_0 : Int) (l0_1 : List Int) (a1_0 : Int) (l1_1 : List Int) : Option (Bool) := lim (fun k => laws_eqMatrix.f k a0_0 l0_1 a1_0 l1_1)
theorem laws_eqMatrix.lim (a0_0 : Int) (l0_1 : List Int) (a1_0 : Int) (l1_1 : List Int) : IsLim (fun k => laws_eqMatrix.f k a0_0 l0_1 a1_0 l1_1) (laws_eqMatrix.d a0_0 l0_1 a1_0 l1_1) := lim_spec (fun k => laws_eqMatrix.mono a0_0 l0_1 a1_0 l1_1 k)
theorem laws_eqMatrix.d_eq (a0_0 : Int) (l0_1 : List Int) (a1_0 : Int) (l1_1 : List Int) : laws_eqMatrix.d a0_0 l0_1 a1_0 l1_1 = if a0_0 = a1_0 then ((laws_eqInt64S.d l0_1 l1_1).bind fun t568 => (if t568 = true then (some true) else (some false))) else (some false) := by
  refine IsLim.unique (laws_eqMatrix.lim _ _ _ _) ?_
  unfold laws_eqMatrix.f
  repeat' (first | exact IsLim.const _ | refine IsLim.ite ?_ ?_ | refine IsLim.bind ?_ (fun _ => ?_) | exact laws_eqInt64S.lim ..)
noncomputable def laws_markMatrix.d (a0_0 : Int) (l0_1 : List Int) (a1 : Int) : Option (Int × List Int) := lim (fun k => laws_markMatrix.f k a0_0 l0_1 a1)
theorem laws_markMatrix.lim (a0_0 : Int) (l0_1 : List Int) (a1 : Int) : IsLim (fun k => laws_markMatrix.f k a0_0 l0_1 a1) (laws_markMatrix.d a0_0 l0_1 a1) := lim_spec (fun k => laws_markMatrix.mono a0_0 l0_1 a1 k)
theorem laws_markMatrix.d_eq (a0_0 : Int) (l0_1 : List Int) (a1 : Int) : laws_markMatrix.d a0_0 l0_1 a1 = (laws_markInt64S.d l0_1 a1).bind fun bt570 => (some (bt570.1, bt570.2)) := by
  refine IsLim.unique (laws_markMatrix.lim _ _ _) ?_
  unfold laws_markMatrix.f
  repeat' (first | exact IsLim.const _ | refine IsLim.ite ?_ ?_ | refine IsLim.bind ?_ (fun _ => ?_) | exact laws_markInt64S.lim ..)
noncomputable def laws_heldMatrix.d (a0_0 : Int) (l0_1 : List Int) (a1 : Int) : Option (Int) := lim (fun k => laws_heldMatrix.f k a0_0 l0_1 a1)
theorem laws_heldMatrix.lim (a0_0 : Int) (l0_1 : List Int) (a1 : Int) : IsLim (fun k => laws_heldMatrix.f k a0_0 l0_1 a1) (laws_heldMatrix.d a0_0 l0_1 a1) := lim_spec (fun k => laws_heldMatrix.mono a0_0 l0_1 a1 k)
theorem laws_heldMatrix.d_eq (a0_0 : Int) (l0_1 : List Int) (a1 : Int) : laws_heldMatrix.d a0_0 l0_1 a1 = (laws_heldInt64S.d l0_1 a1).bind fun t573 => (if t573 < 0 then (some (-1)) else (some t573)) := by
  refine IsLim.unique (laws_heldMatrix.lim _ _ _) ?_
  unfold laws_heldMatrix.f
  repeat' (first | exact IsLim.const _ | refine IsLim.ite ?_ ?_ | refine IsLim.bind ?_ (fun _ => ?_) | exact laws_heldInt64S.lim ..)
end Go.Proofs.Ytbgbblgdbcjibaa.P
end
section
namespace Go.Proofs.Ytbgbblgdbcjibaa.P
open Go.RowKit Go.Proofs.YtbgbblgdbcjibaaW.PrintWords Go.Proofs.YtbgbblgdbcjibaaW.PrintLast Go.Proofs.YtbgbblgdbcjibaaW.PrintMore
set_option linter.unusedVariables false
set_option linter.unusedSimpArgs false
noncomputable def laws_toInt64S.l0d (x0 : List Int) (x3 : List Int) (x4 : Int) : Option (List Int) := lim (fun k => laws_toInt64S.l0 k x0 x3 x4)
theorem laws_toInt64S.l0lim (x0 : List Int) (x3 : List Int) (x4 : Int) : IsLim (fun k => laws_toInt64S.l0 k x0 x3 x4) (laws_toInt64S.l0d x0 x3 x4) := lim_spec (fun k => (laws_toInt64S.mono_l k) x0 x3 x4)
theorem laws_toInt64S.l0d_eq (x0 : List Int) (x3 : List Int) (x4 : Int) : laws_toInt64S.l0d x0 x3 x4 = if x4 < (x0.length : Int) then (if 0 ≤ x4 then (if x4 < (x3.length : Int) then (laws_toInt64S.l0d x0 (x3.set (x4 : Int).toNat (rd x0 x4)) (wrap64 (x4 + 1))) else (none)) else (none)) else (some x3) := by
  refine IsLim.unique (laws_toInt64S.l0lim _ _ _) ?_
  refine IsLim.shift (by rfl) ?_
  simp only [laws_toInt64S.l0]
  repeat' (first | exact IsLim.const _ | refine IsLim.ite ?_ ?_ | refine IsLim.bind ?_ (fun _ => ?_) | exact laws_toInt64S.l0lim ..)
noncomputable def laws_toInt64S.d (l0 : List Int) : Option (List Int) := lim (fun k => laws_toInt64S.f k l0)
theorem laws_toInt64S.lim (l0 : List Int) : IsLim (fun k => laws_toInt64S.f k l0) (laws_toInt64S.d l0) := lim_spec (fun k => laws_toInt64S.mono l0 k)
theorem laws_toInt64S.d_eq (l0 : List Int) : laws_toInt64S.d l0 = if 0 ≤ (l0.length : Int) then (if ((l0.length : Int) : Int).toNat ≤ 35184372088832 then (laws_toInt64S.l0d l0 (List.replicate ((l0.length : Int) : Int).toNat 0) 0) else (none)) else (none) := by
  refine IsLim.unique (laws_toInt64S.lim _) ?_
  unfold laws_toInt64S.f
  repeat' (first | exact IsLim.const _ | refine IsLim.ite ?_ ?_ | refine IsLim.bind ?_ (fun _ => ?_) | exact laws_toInt64S.l0lim ..)
end Go.Proofs.Ytbgbblgdbcjibaa.P
end
section
namespace Go.Proofs.Ytbgbblgdbcjibaa.P
open Go.RowKit Go.Proofs.YtbgbblgdbcjibaaW.PrintWords Go.Proofs.YtbgbblgdbcjibaaW.PrintLast Go.Proofs.YtbgbblgdbcjibaaW.PrintMore
set_option linter.unusedVariables false
set_option linter.unusedSimpArgs false
noncomputable def laws_FnExactMatrixOfLinear.j0d (x1 : List Int) (x2 : List Int) (x8 : Int) (x9 : List Int) (x10 : List Int) (x12 : Int) (x54 : Bool) (x575000 : Int) (x575001 : Int) (x589000 : Int) (x589001 : List Int) (x603000 : Int) (x603001 : List Int) : Option (Bool) := lim (fun k => laws_FnExactMatrixOfLinear.j0 k x1 x2 x8 x9 x10 x12 x54 x575000 x575001 x589000 x589001 x603000 x603001)
theorem laws_FnExactMatrixOfLinear.j0lim (x1 : List Int) (x2 : List Int) (x8 : Int) (x9 : List Int) (x10 : List Int) (x12 : Int) (x54 : Bool) (x575000 : Int) (x575001 : Int) (x589000 : Int) (x589001 : List Int) (x603000 : Int) (x603001 : List Int) : IsLim (fun k => laws_FnExactMatrixOfLinear.j0 k x1 x2 x8 x9 x10 x12 x54 x575000 x575001 x589000 x589001 x603000 x603001) (laws_FnExactMatrixOfLinear.j0d x1 x2 x8 x9 x10 x12 x54 x575000 x575001 x589000 x589001 x603000 x603001) := lim_spec (fun k => (laws_FnExactMatrixOfLinear.mono_l k).1 x1 x2 x8 x9 x10 x12 x54 x575000 x575001 x589000 x589001 x603000 x603001)
noncomputable def laws_FnExactMatrixOfLinear.j1d (x1 : List Int) (x2 : List Int) (x8 : Int) (x83 : Bool) (x575000 : Int) (x575001 : Int) (x589000 : Int) (x589001 : List Int) (x603000 : Int) (x603001 : List Int) : Option (Bool) := lim (fun k => laws_FnExactMatrixOfLinear.j1 k x1 x2 x8 x83 x575000 x575001 x589000 x589001 x603000 x603001)
theorem laws_FnExactMatrixOfLinear.j1lim (x1 : List Int) (x2 : List Int) (x8 : Int) (x83 : Bool) (x575000 : Int) (x575001 : Int) (x589000 : Int) (x589001 : List Int) (x603000 : Int) (x603001 : List Int) : IsLim (fun k => laws_FnExactMatrixOfLinear.j1 k x1 x2 x8 x83 x575000 x575001 x589000 x589001 x603000 x603001) (laws_FnExactMatrixOfLinear.j1d x1 x2 x8 x83 x575000 x575001 x589000 x589001 x603000 x603001) := lim_spec (fun k => (laws_FnExactMatrixOfLinear.mono_l k).2.1 x1 x2 x8 x83 x575000 x575001 x589000 x589001 x603000 x603001)
noncomputable def laws_FnExactMatrixOfLinear.j2d (x14 : Int) (x113 : Bool) (x603000 : Int) (x603001 : List Int) : Option (Bool) := lim (fun k => laws_FnExactMatrixOfLinear.j2 k x14 x113 x603000 x603001)
theorem laws_FnExactMatrixOfLinear.j2lim (x14 : Int) (x113 : Bool) (x603000 : Int) (x603001 : List Int) : IsLim (fun k => laws_FnExactMatrixOfLinear.j2 k x14 x113 x603000 x603001) (laws_FnExactMatrixOfLinear.j2d x14 x113 x603000 x603001) := lim_spec (fun k => (laws_FnExactMatrixOfLinear.mono_l k).2.2 x14 x113 x603000 x603001)
theorem laws_FnExactMatrixOfLinear.j0d_eq (x1 : List Int) (x2 : List Int) (x8 : Int) (x9 : List Int) (x10 : List Int) (x12 : Int) (x54 : Bool) (x575000 : Int) (x575001 : Int) (x589000 : Int) (x589001 : List Int) (x603000 : Int) (x603001 : List Int) : laws_FnExactMatrixOfLinear.j0d x1 x2 x8 x9 x10 x12 x54 x575000 x575001 x589000 x589001 x603000 x603001 = if x54 = true then (some false) else ((laws_toInt64S.d x1).bind fun t604 => ((laws_eqInt64S.d x9 t604).bind fun t607 => (if t607 = true then ((laws_toInt64S.d x2).bind fun t608 => ((laws_eqInt64S.d x10 t608).bind fun t611 => (if t611 = true then ((laws_markInt64S.d x9 1).bind fun bt612 => ((laws_markInt64S.d x10 bt612.1).bind fun bt614 => (if bt614.1 < 0 then (laws_FnExactMatrixOfLinear.j1d x1 x2 x8 true x575000 x575001 x589000 x589001 x603000 x603001) else ((laws_eqMatrix.d x603000 x603001 x589000 x589001).bind fun t616 => (if t616 = true then (laws_FnExactMatrixOfLinear.j1d x1 x2 x8 (x12 != x8) x575000 x575001 x589000 x589001 x603000 x603001) else (laws_FnExactMatrixOfLinear.j1d x1 x2 x8 true x575000 x575001 x589000 x589001 x603000 x603001)))))) else (some false)))) else (some false)))) := by
  refine IsLim.unique (laws_FnExactMatrixOfLinear.j0lim _ _ _ _ _ _ _ _ _ _ _ _ _) ?_
  refine IsLim.shift (by rfl) ?_
  simp only [laws_FnExactMatrixOfLinear.j0]
  repeat' (first | exact IsLim.const _ | refine IsLim.ite ?_ ?_ | refine IsLim.bind ?_ (fun _ => ?_) | exact laws_toInt64S.lim .. | exact laws_eqInt64S.lim .. | exact laws_markInt64S.lim .. | exact laws_eqMatrix.lim .. | exact laws_FnExactMatrixOfLinear.j1lim ..)
theorem laws_FnExactMatrixOfLinear.j1d_eq (x1 : List Int) (x2 : List Int) (x8 : Int) (x83 : Bool) (x575000 : Int) (x575001 : Int) (x589000 : Int) (x589001 : List Int) (x603000 : Int) (x603001 : List Int) : laws_FnExactMatrixOfLinear.j1d x1 x2 x8 x83 x575000 x575001 x589000 x589001 x603000 x603001 = if x83 = true then (some false) else ((laws_markMatrix.d x603000 x603001 1).bind fun bt617 => ((laws_heldMatrix.d x603000 bt617.2 1).bind fun t619 => (if t619 < 0 then (some false) else (if t619 = bt617.1 then ((laws_toField.f x575000 x575001).bind fun bt620 => ((laws_toInt64S.d x1).bind fun t622 => ((laws_toInt64S.d x2).bind fun t625 => ((impl_MatrixOfLinear.d bt620.1 bt620.2 t622 t625).bind fun bt628 => ((laws_eqMatrix.d bt628.1 bt628.2.1 x589000 x589001).bind fun t634 => (if t634 = true then (laws_FnExactMatrixOfLinear.j2d bt617.1 (bt628.2.2 != x8) x603000 bt617.2) else (laws_FnExactMatrixOfLinear.j2d bt617.1 true x603000 bt617.2))))))) else (some false))))) := by
  refine IsLim.unique (laws_FnExactMatrixOfLinear.j1lim _ _ _ _ _ _ _ _ _ _) ?_
  refine IsLim.shift (by rfl) ?_
  simp only [laws_FnExactMatrixOfLinear.j1]
  repeat' (first | exact IsLim.const _ | refine IsLim.ite ?_ ?_ | refine IsLim.bind ?_ (fun _ => ?_) | exact laws_markMatrix.lim .. | exact laws_heldMatrix.lim .. | exact laws_toInt64S.lim .. | exact impl_MatrixOfLinear.lim .. | exact laws_eqMatrix.lim .. | exact laws_FnExactMatrixOfLinear.j2lim ..)
theorem laws_FnExactMatrixOfLinear.j2d_eq (x14 : Int) (x113 : Bool) (x603000 : Int) (x603001 : List Int) : laws_FnExactMatrixOfLinear.j2d x14 x113 x603000 x603001 = if x113 = true then (some false) else ((laws_heldMatrix.d x603000 x603001 1).bind fun t635 => (if t635 < 0 then (some false) else (if t635 = x14 then (some true) else (some false)))) := by
  refine IsLim.unique (laws_FnExactMatrixOfLinear.j2lim _ _ _ _) ?_
  refine IsLim.shift (by rfl) ?_
  simp only [laws_FnExactMatrixOfLinear.j2]
  repeat' (first | exact IsLim.const _ | refine IsLim.ite ?_ ?_ | refine IsLim.bind ?_ (fun _ => ?_) | exact laws_heldMatrix.lim ..)
noncomputable def laws_FnExactMatrixOfLinear.d (a0_0 : Int) (a0_1 : Int) (l1 : List Int) (l2 : List Int) : Option (Bool) := lim (fun k => laws_FnExactMatrixOfLinear.f k a0_0 a0_1 l1 l2)
theorem laws_FnExactMatrixOfLinear.lim (a0_0 : Int) (a0_1 : Int) (l1 : List Int) (l2 : List Int) : IsLim (fun k => laws_FnExactMatrixOfLinear.f k a0_0 a0_1 l1 l2) (laws_FnExactMatrixOfLinear.d a0_0 a0_1 l1 l2) := lim_spec (fun k => laws_FnExactMatrixOfLinear.mono a0_0 a0_1 l1 l2 k)
theorem laws_FnExactMatrixOfLinear.d_eq (a0_0 : Int) (a0_1 : Int) (l1 : List Int) (l2 : List Int) : laws_FnExactMatrixOfLinear.d a0_0 a0_1 l1 l2 = if (l1.length : Int) > 1048576 then (some true) else (if (l2.length : Int) > 1048576 then (some true) else ((laws_toField.f a0_0 a0_1).bind fun bt575 => ((laws_toInt64S.d l1).bind fun t577 => ((laws_toInt64S.d l2).bind fun t580 => ((spec_MatrixOfLinear.d bt575.1 bt575.2 t577 t580).bind fun bt583 => ((laws_toInt64S.d l1).bind fun t589 => ((laws_toInt64S.d l2).bind fun t592 => ((laws_toField.f a0_0 a0_1).bind fun bt595 => ((impl_MatrixOfLinear.d bt595.1 bt595.2 t589 t592).bind fun bt597 => ((laws_eqMatrix.d bt597.1 bt597.2.1 bt583.1 bt583.2.1).bind fun t603 => (if t603 = true then (laws_FnExactMatrixOfLinear.j0d l1 l2 bt583.2.2 t589 t592 bt597.2.2 (bt597.2.2 != bt583.2.2) a0_0 a0_1 bt583.1 bt583.2.1 bt597.1 bt597.2.1) else (laws_FnExactMatrixOfLinear.j0d l1 l2 bt583.2.2 t589 t592 bt597.2.2 true a0_0 a0_1 bt583.1 bt583.2.1 bt597.1 bt597.2.1)))))))))))) := by
  refine IsLim.unique (laws_FnExactMatrixOfLinear.lim _ _ _ _) ?_
  unfold laws_FnExactMatrixOfLinear.f
  repeat' (first | exact IsLim.const _ | refine IsLim.ite ?_ ?_ | refine IsLim.bind ?_ (fun _ => ?_) | exact laws_toInt64S.lim .. | exact spec_MatrixOfLinear.lim .. | exact impl_MatrixOfLinear.lim .. | exact laws_eqMatrix.lim .. | exact laws_FnExactMatrixOfLinear.j0lim ..)
end Go.Proofs.Ytbgbblgdbcjibaa.P
end
section
namespace Go.Proofs.Ytbgbblgdbcjibaa.P
open Go.RowKit Go.Proofs.YtbgbblgdbcjibaaW.PrintWords Go.Proofs.YtbgbblgdbcjibaaW.PrintLast Go.Proofs.YtbgbblgdbcjibaaW.PrintMore
set_option linter.unusedVariables false
set_option linter.unusedSimpArgs false
theorem wr {x : Int} (h0 : -9223372036854775808 ≤ x) (h1 : x < 9223372036854775808) : wrap64 x = x := by
  unfold wrap64; omega
theorem wrS {i n : Nat} (h : i < n) (hn : n ≤ 17592186044416) : wrap64 ((i : Int) + 1) = ((i + 1 : Nat) : Int) := by rw [wr (by omega) (by omega)]; omega
theorem u64_id {x : Int} (h0 : 0 ≤ x) (h1 : x < 9223372036854775808) : IntKind.u64.wrap x = x := by rw [IntKind.wrap_u64]; omega
theorem down {Q : Nat → Prop} {n : Nat} (h0 : Q n) (hs : ∀ i, i < n → Q (i + 1) → Q i) : ∀ i, i ≤ n → Q i := by
  intro i hi
  obtain ⟨d, hd⟩ : ∃ d, d = n - i := ⟨_, rfl⟩
  induction d generalizing i with
  | zero => have : i = n := by omega
            exact this ▸ h0
  | succ d ih => exact hs i (by omega) (ih (i + 1) (by omega) (by omega))
theorem rd_get {l : List Int} {i : Nat} (h : i < l.length) : rd l (i : Int) = l[i] := rd_at l i h
theorem bind_some' {α β : Type} (a : α) (f : α → Option β) : (some a).bind f = f a := rfl
theorem bind_ok {α β : Type} {x : Option α} {f : α → Option β} {a : α} {b : β} (h : x = some a) (h' : f a = some b) : x.bind f = some b := by rw [h]; exact h'
theorem ite_t {α : Type} {c : Prop} [Decidable c] {a b : Option α} {v : α} (h : c) (h' : a = some v) : (if c then a else b) = some v := by rw [if_pos h]; exact h'
theorem ite_f {α : Type} {c : Prop} [Decidable c] {a b : Option α} {v : α} (h : ¬ c) (h' : b = some v) : (if c then a else b) = some v := by rw [if_neg h]; exact h'
theorem some_bind_ok {α β : Type} {f : α → Option β} {a : α} {b : β} (h' : f a = some b) : (some a).bind f = some b := h'
theorem bind_assoc_ok {α β γ : Type} {x : Option α} {f : α → Option β} {g : β → Option γ} {b : γ} (h : (x.bind fun y => (f y).bind g) = some b) : (x.bind f).bind g = some b := by rw [Option.bind_assoc]; exact h
theorem ite_bind_t {α β : Type} {c : Prop} [Decidable c] {x y : Option α} {g : α → Option β} {b : β} (h : c) (h' : x.bind g = some b) : (if c then x else y).bind g = some b := by rw [if_pos h]; exact h'
theorem ite_bind_f {α β : Type} {c : Prop} [Decidable c] {x y : Option α} {g : α → Option β} {b : β} (h : ¬ c) (h' : y.bind g = some b) : (if c then x else y).bind g = some b := by rw [if_neg h]; exact h'
/-- a, a + 1, .. -/
def iota (a : Int) : Nat → List Int
  | 0 => []
  | n + 1 => a :: iota (a + 1) n
theorem iota_length (a : Int) (n : Nat) : (iota a n).length = n := by
  induction n generalizing a with
  | zero => rfl
  | succ n ih => simp [iota, ih]
theorem iota_get (a : Int) (n : Nat) : ∀ (i : Nat) (h : i < (iota a n).length), (iota a n)[i] = a + i := by
  induction n generalizing a with
  | zero => intro i h; simp [iota] at h
  | succ n ih =>
    intro i h
    cases i with
    | zero => simp [iota]
    | succ i => simp only [iota, List.getElem_cons_succ]; rw [ih]; omega
theorem iota_snoc (a : Int) (n : Nat) : iota a (n + 1) = iota a n ++ [a + n] := by
  induction n generalizing a with
  | zero => simp [iota]
  | succ n ih => rw [iota, ih, iota]; simp; omega
/-- the first place where `q` holds, by a walk upward -/
theorem index_gen {F : Int → Option Int} {n : Nat} {q : Nat → Bool} (hend : F (n : Int) = some (-1))
    (heq : ∀ i : Nat, i < n → F (i : Int) = if q i = true then some (i : Int) else F ((i + 1 : Nat) : Int)) :
    ∃ v, F 0 = some v ∧ (decide (v ≥ 0) = !decide (∀ i, i < n → q i = false)) ∧ (0 ≤ v → v.toNat < n ∧ q v.toNat = true ∧ ∀ j, j < v.toNat → q j = false) := by
  have key : ∀ i, i ≤ n → ∃ v, F (i : Int) = some v ∧ (v ≥ 0 ↔ ¬ ∀ j, i ≤ j → j < n → q j = false) ∧ (0 ≤ v → i ≤ v.toNat ∧ v.toNat < n ∧ q v.toNat = true ∧ ∀ j, i ≤ j → j < v.toNat → q j = false) := by
    apply down
    · exact ⟨-1, hend, ⟨fun h => absurd h (by decide), fun h => absurd (fun j _ _ => by omega) h⟩, fun h => absurd h (by decide)⟩
    · intro i hi ⟨v, e, c, d⟩
      rw [heq i hi]
      by_cases hq : q i = true
      · rw [if_pos hq]
        exact ⟨i, rfl, ⟨fun _ h => (by rw [h i (by omega) hi] at hq; cases hq), fun _ => by omega⟩, fun _ => ⟨by simp, by simpa using hi, by simpa using hq, fun j h1 h2 => by simp at h2; omega⟩⟩
      · rw [if_neg hq]
        have hq' : q i = false := Bool.eq_false_iff.mpr hq
        refine ⟨v, e, c.trans ⟨fun h h' => h fun j a b => h' j (by omega) b, fun h h' => h fun j a b => ?_⟩, fun h => ?_⟩
        · rcases Nat.lt_or_ge i j with z | z
          · exact h' j z b
          · have : j = i := by omega
            rw [this, hq']
        · obtain ⟨a1, a2, a3, a4⟩ := d h
          refine ⟨by omega, a2, a3, fun j h1 h2 => ?_⟩
          rcases Nat.lt_or_ge i j with z | z
          · exact a4 j z h2
          · have : j = i := by omega
            rw [this, hq']
  obtain ⟨v, e, c, d⟩ := key 0 (by omega)
  refine ⟨v, e, ?_, fun h => ⟨(d h).2.1, (d h).2.2.1, fun j hj => (d h).2.2.2 j (by omega) hj⟩⟩
  rw [← decide_not]
  apply decide_eq_decide.mpr
  exact c.trans ⟨fun h h' => h fun j _ b => h' j b, fun h h' => h fun j b => h' j (by omega) b⟩
theorem all_gen {F : Int → Option Bool} {n : Nat} {q : Nat → Bool} (hend : F (n : Int) = some true)
    (heq : ∀ i : Nat, i < n → F (i : Int) = if q i = true then F ((i + 1 : Nat) : Int) else some false) :
    F 0 = some (decide (∀ i, i < n → q i = true)) := by
  have key : ∀ i, i ≤ n → ∃ b, F (i : Int) = some b ∧ (b = true ↔ ∀ j, i ≤ j → j < n → q j = true) := by
    apply down
    · exact ⟨true, hend, ⟨fun _ j a b => by omega, fun _ => rfl⟩⟩
    · intro i hi ⟨b, e, c⟩
      rw [heq i hi, e]
      by_cases hq : q i = true
      · rw [if_pos hq]
        refine ⟨b, rfl, c.trans ⟨fun h j a b => ?_, fun h j a b => h j (by omega) b⟩⟩
        rcases Nat.lt_or_ge i j with z | z
        · exact h j z b
        · have : j = i := by omega
          rw [this, hq]
      · rw [if_neg hq]
        exact ⟨false, rfl, ⟨(fun h => absurd h (by decide)), fun h => absurd (h i (by omega) hi) hq⟩⟩
  obtain ⟨b, e, c⟩ := key 0 (by omega)
  have e' : F 0 = some b := e
  rw [e']
  congr 1
  rw [Bool.eq_iff_iff, decide_eq_true_iff]
  exact c.trans ⟨fun h j b => h j (by omega) b, fun h j _ b => h j b⟩
theorem all_get {l : List Int} {q : Int → Bool} : decide (∀ i, i < l.length → q (rd l (i : Int)) = true) = l.all q := by
  rw [Bool.eq_iff_iff, decide_eq_true_iff, List.all_eq_true]
  constructor
  · intro h x hx
    obtain ⟨i, hi, e⟩ := List.getElem_of_mem hx
    have := h i hi
    rwa [rd_get hi, e] at this
  · intro h i hi
    rw [rd_get hi]; exact h _ (List.getElem_mem hi)
end Go.Proofs.Ytbgbblgdbcjibaa.P
end
section
namespace Go.Proofs.Ytbgbblgdbcjibaa.P
open Go.RowKit Go.Proofs.YtbgbblgdbcjibaaW.PrintWords Go.Proofs.YtbgbblgdbcjibaaW.PrintLast Go.Proofs.YtbgbblgdbcjibaaW.PrintMore
set_option linter.unusedVariables false
set_option linter.unusedSimpArgs false
theorem toInt64S_v {l : List Int} (h : l.length ≤ 17592186044416) : laws_toInt64S.d l = some l := by
  have key : ∀ i, i ≤ l.length → laws_toInt64S.l0d l (l.take i ++ List.replicate (l.length - i) 0) (i : Int) = some l := by
    apply down
    · rw [laws_toInt64S.l0d_eq, if_neg (by omega)]; simp
    · intro i hi ih
      rw [laws_toInt64S.l0d_eq, if_pos (by omega), if_pos (by omega), if_pos (by simp; omega), wrS hi h, rd_get hi]
      rw [← ih]
      congr 1
      rw [List.take_succ_eq_append_getElem hi, Int.toNat_natCast]
      apply List.ext_getElem
      · simp; omega
      · intro j h1 h2
        simp only [List.getElem_set, List.getElem_append, List.length_take, List.length_append, List.getElem_take, List.getElem_replicate, List.length_cons, List.length_nil]
        simp only [List.length_set, List.length_append, List.length_take, List.length_replicate] at h1
        by_cases c : i = j
        · subst c; rw [if_pos rfl, dif_pos (by omega), dif_neg (by omega)]; simp
        · rw [if_neg c]
          by_cases c2 : j < i
          · rw [dif_pos (by omega), dif_pos (by omega), dif_pos (by omega)]
          · rw [dif_neg (by omega), dif_neg (by omega)]
  rw [laws_toInt64S.d_eq, if_pos (by omega), if_pos (by omega)]
  have := key 0 (by omega)
  simpa using this
theorem eqInt64S_v {a b : List Int} (h : a.length ≤ 17592186044416) : laws_eqInt64S.d a b = some (decide (a = b)) := by
  rw [laws_eqInt64S.d_eq]
  by_cases hl : a.length = b.length
  · rw [if_pos (by omega)]
    have key : ∀ i, i ≤ a.length → laws_eqInt64S.l0d a b (i : Int) = some (decide (a.drop i = b.drop i)) := by
      apply down
      · rw [laws_eqInt64S.l0d_eq, if_neg (by omega)]; simp [hl]
      · intro i hi ih
        have hb : i < b.length := by omega
        rw [laws_eqInt64S.l0d_eq, if_pos (by omega), if_pos (by omega), if_pos (by omega), wrS hi h, rd_get hi, rd_get hb, ih]
        rw [List.drop_eq_getElem_cons hi, List.drop_eq_getElem_cons hb]
        by_cases c : a[i] = b[i]
        · rw [if_pos c]; simp only [List.cons.injEq, c, true_and]
        · rw [if_neg c]; simp only [List.cons.injEq, c, false_and, decide_false]
    have := key 0 (by omega)
    simpa using this
  · rw [if_neg (by omega)]
    have : a ≠ b := fun e => hl (by rw [e])
    simp [this]
theorem eqInt64S_self {a : List Int} (h : a.length ≤ 17592186044416) : laws_eqInt64S.d a a = some true := by rw [eqInt64S_v h]; simp
end Go.Proofs.Ytbgbblgdbcjibaa.P
end
section
namespace Go.Proofs.Ytbgbblgdbcjibaa.P
open Go.RowKit Go.Proofs.YtbgbblgdbcjibaaW.PrintWords Go.Proofs.YtbgbblgdbcjibaaW.PrintLast Go.Proofs.YtbgbblgdbcjibaaW.PrintMore
set_option linter.unusedVariables false
set_option linter.unusedSimpArgs false
theorem markInt64S_v {l : List Int} {a : Int} (h : l.length ≤ 17592186044416) (h0 : 0 ≤ a) (h1 : a ≤ 4611686018427387904) :
    laws_markInt64S.d l a = some (a + l.length, iota a l.length) := by
  have key : ∀ i, i ≤ l.length → laws_markInt64S.l0d (iota a i ++ l.drop i) (a + i) (i : Int) = some (a + l.length, iota a l.length) := by
    apply down
    · rw [laws_markInt64S.l0d_eq, if_neg (by simp [iota_length])]; simp
    · intro i hi ih
      rw [laws_markInt64S.l0d_eq, if_pos (by simp [iota_length]; omega), if_pos (by omega), wrS hi h, wr (x := a + i + 1) (by omega) (by omega), ← ih]
      congr 1
      · rw [iota_snoc, Int.toNat_natCast, List.set_append]
        simp only [iota_length, Nat.lt_irrefl, if_false, Nat.sub_self]
        rw [List.drop_eq_getElem_cons hi]
        simp only [List.set_cons_zero, List.append_assoc, List.singleton_append]
      · omega
  rw [laws_markInt64S.d_eq]
  have := key 0 (by omega)
  simpa [iota] using this
theorem heldInt64S_v {n : Nat} {a : Int} (h : n ≤ 17592186044416) (h0 : 0 ≤ a) (h1 : a ≤ 4611686018427387904) :
    laws_heldInt64S.d (iota a n) a = some (a + n) := by
  have key : ∀ i, i ≤ n → laws_heldInt64S.l0d (iota a n) (a + i) (i : Int) = some (a + n) := by
    apply down
    · rw [laws_heldInt64S.l0d_eq, if_neg (by simp [iota_length])]
    · intro i hi ih
      have hi' : i < (iota a n).length := by rw [iota_length]; exact hi
      rw [laws_heldInt64S.l0d_eq, if_pos (by omega), if_pos (by omega), rd_get hi', iota_get, if_pos rfl, wrS hi h, wr (x := a + i + 1) (by omega) (by omega), ← ih]
      congr 1; omega
  rw [laws_heldInt64S.d_eq]
  have := key 0 (by omega)
  simpa using this
end Go.Proofs.Ytbgbblgdbcjibaa.P
end
section
namespace Go.Proofs.Ytbgbblgdbcjibaa.P
open Go.RowKit Go.Proofs.YtbgbblgdbcjibaaW.PrintWords Go.Proofs.YtbgbblgdbcjibaaW.PrintLast Go.Proofs.YtbgbblgdbcjibaaW.PrintMore
set_option linter.unusedVariables false
set_option linter.unusedSimpArgs false
theorem wrap_nat {n : Nat} (h : n < 9223372036854775808) : IntKind.i64.wrap (n : Int) = (n : Int) := by rw [IntKind.wrap_i64]; omega
theorem bits_nat {a : Nat} (ha : a < 9223372036854775808) : (BitVec.ofInt IntKind.i64.bits (a : Int)).toNat = a := by
  show (BitVec.ofInt 64 (a : Int)).toNat = a
  rw [BitVec.ofInt_natCast, BitVec.toNat_ofNat]
  exact Nat.mod_eq_of_lt (by omega)
theorem bxor {a b : Nat} (ha : a < 9223372036854775808) (hb : b < 9223372036854775808) : Go.bits .xor .i64 (a : Int) (b : Int) = ((a ^^^ b : Nat) : Int) := by
  show IntKind.i64.wrap ((BitVec.ofInt IntKind.i64.bits (a : Int) ^^^ BitVec.ofInt IntKind.i64.bits (b : Int)).toNat : Int) = _
  rw [BitVec.toNat_xor, bits_nat ha, bits_nat hb]
  exact wrap_nat (Nat.xor_lt_two_pow (n := 63) (by omega) (by omega))
theorem band {a b : Nat} (ha : a < 9223372036854775808) (hb : b < 9223372036854775808) : Go.bits .and .i64 (a : Int) (b : Int) = ((a &&& b : Nat) : Int) := by
  show IntKind.i64.wrap ((BitVec.ofInt IntKind.i64.bits (a : Int) &&& BitVec.ofInt IntKind.i64.bits (b : Int)).toNat : Int) = _
  rw [BitVec.toNat_and, bits_nat ha, bits_nat hb]
  exact wrap_nat (Nat.and_lt_two_pow (n := 63) a (by omega))
theorem shr_nat {a c : Nat} (hc : c ≤ 64) : shr .i64 (a : Int) (c : Int) = ((a >>> c : Nat) : Int) := by
  show (a : Int) / 2 ^ min (c : Int).toNat 64 = _
  rw [Int.toNat_natCast, Nat.min_eq_left hc, Nat.shiftRight_eq_div_pow]
  simp
theorem shl_nat {a c : Nat} (hc : c ≤ 64) (h : a * 2 ^ c < 9223372036854775808) : shl .i64 (a : Int) (c : Int) = ((a * 2 ^ c : Nat) : Int) := by
  show IntKind.i64.wrap ((a : Int) * 2 ^ min (c : Int).toNat 64) = _
  rw [Int.toNat_natCast, Nat.min_eq_left hc, ← wrap_nat h]
  simp
theorem bit_test {a c : Nat} (ha : a < 9223372036854775808) (hc : c ≤ 64) : Go.bits .and .i64 (shr .i64 (a : Int) (c : Int)) 1 = if a.testBit c = true then 1 else 0 := by
  rw [shr_nat hc]
  have h1 : a >>> c < 9223372036854775808 := by
    rw [Nat.shiftRight_eq_div_pow]
    exact Nat.lt_of_le_of_lt (Nat.div_le_self _ _) ha
  have := band (a := a >>> c) (b := 1) h1 (by omega)
  rw [show ((1 : Nat) : Int) = 1 from rfl] at this
  rw [this, Nat.testBit, Nat.and_comm 1]
  rw [Nat.and_one_is_mod]
  rcases Nat.mod_two_eq_zero_or_one (a >>> c) with e | e <;> rw [e] <;> simp
theorem lt_mono {x a b : Nat} (h : x < 2 ^ a) (hab : a ≤ b) : x < 2 ^ b := Nat.lt_of_lt_of_le h (Nat.pow_le_pow_right (by omega) hab)
theorem small62 {x n : Nat} (hn : n ≤ 63) (h : x < 2 ^ n) : x < 9223372036854775808 := Nat.lt_of_lt_of_le h (Nat.le_trans (Nat.pow_le_pow_right (by omega) hn) (by decide))
/-- rows as the program holds them -/
def up (l : List Nat) : List Int := l.map fun (x : Nat) => (x : Int)
theorem up_length (l : List Nat) : (up l).length = l.length := by simp [up]
theorem up_get {l : List Nat} {i : Nat} (h : i < l.length) : rd (up l) (i : Int) = (l[i] : Int) := by
  rw [rd_get (by rw [up_length]; exact h)]; simp [up]
theorem up_set {l : List Nat} {i x : Nat} : (up l).set i (x : Int) = up (l.set i x) := by simp [up, List.map_set]
theorem up_append (l l' : List Nat) : up (l ++ l') = up l ++ up l' := by simp [up]
theorem up_of {l : List Int} (h : ∀ x ∈ l, 0 ≤ x) : up (l.map Int.toNat) = l := by
  unfold up
  rw [List.map_map]
  conv => rhs; rw [← List.map_id l]
  apply List.map_congr_left
  intro x hx
  show ((x.toNat : Nat) : Int) = x
  have := h x hx
  omega
end Go.Proofs.Ytbgbblgdbcjibaa.P
end
section
namespace Go.Proofs.Ytbgbblgdbcjibaa.P
open Go.RowKit Go.Proofs.YtbgbblgdbcjibaaW.PrintWords Go.Proofs.YtbgbblgdbcjibaaW.PrintLast Go.Proofs.YtbgbblgdbcjibaaW.PrintMore
set_option linter.unusedVariables false
set_option linter.unusedSimpArgs false
theorem up_getD {ln : List Nat} {i : Nat} (h : i < ln.length) : rd (up ln) (i : Int) = ((ln.getD i 0 : Nat) : Int) := by
  rw [up_get h]; simp [List.getD, h]
theorem getD_mem {ln : List Nat} {i : Nat} (h : i < ln.length) : ln.getD i 0 ∈ ln := by
  have : ln.getD i 0 = ln[i] := by simp [List.getD, h]
  rw [this]; exact List.getElem_mem h
/-- a number of m places -/
def elemB (m x : Int) : Bool := decide (0 ≤ x) && decide (x < 2 ^ m.toNat)
theorem elems_up {N : Nat} {l : List Int} (h : l.all (elemB (N : Int)) = true) : ∃ ln : List Nat, l = up ln ∧ ∀ x ∈ ln, x < 2 ^ N := by
  rw [List.all_eq_true] at h
  have he : ∀ x ∈ l, 0 ≤ x ∧ x < 2 ^ N := fun x hx => by
    have := h x hx
    unfold elemB at this
    simpa using this
  refine ⟨l.map Int.toNat, (up_of fun x hx => (he x hx).1).symm, fun x hx => ?_⟩
  obtain ⟨y, hy, rfl⟩ := List.mem_map.mp hx
  have := he y hy
  have e : ((2 ^ N : Nat) : Int) = (2 : Int) ^ N := by simp
  omega
end Go.Proofs.Ytbgbblgdbcjibaa.P
end
section
namespace Go.Proofs.Ytbgbblgdbcjibaa.P
open Go.RowKit Go.Proofs.YtbgbblgdbcjibaaW.PrintWords Go.Proofs.YtbgbblgdbcjibaaW.PrintLast Go.Proofs.YtbgbblgdbcjibaaW.PrintMore
set_option linter.unusedVariables false
set_option linter.unusedSimpArgs false
/-- the irreducible polynomials of degree 1 .. 5, as numbers -/
def irrs : List Int := [2, 3, 7, 11, 13, 19, 25, 31, 37, 41, 47, 55, 59, 61]
def irrB (p : Int) : Bool := irrs.contains p
/-- the fields: degree and polynomial -/
def fields14 : List (Int × Int) := [(1, 2), (1, 3), (2, 7), (3, 11), (3, 13), (4, 19), (4, 25), (4, 31), (5, 37), (5, 41), (5, 47), (5, 55), (5, 59), (5, 61)]
def validB (m p : Int) : Bool := fields14.contains (m, p)
theorem of_range {P : Int → Prop} (n : Nat) (lo : Int) (h : ∀ i, i < n → P (lo + i)) : ∀ x, lo ≤ x → x < lo + n → P x := by
  intro x h0 h1
  have := h (x - lo).toNat (by omega)
  rwa [show lo + ((x - lo).toNat : Int) = x by omega] at this
theorem i_irr_small : ∀ i, i < 62 → impl_IsIrreducible.f 80 (2 + (i : Nat)) = some (irrB (2 + (i : Nat))) := by decide +kernel
theorem irrB_big {p : Int} (h : p < 2 ∨ 64 ≤ p) : irrB p = false := by
  have : p ∉ irrs := by
    have hb : ∀ q ∈ irrs, 2 ≤ q ∧ q < 64 := by decide +kernel
    intro hp
    have := hb p hp
    omega
  unfold irrB
  rw [List.contains_eq_mem, decide_eq_false this]
theorem i_IsIrreducible_v (p : Int) : impl_IsIrreducible.d p = some (irrB p) := by
  by_cases h : p < 2
  · rw [impl_IsIrreducible.d_eq, if_pos h, impl_IsIrreducible.j0d_eq, if_pos rfl, irrB_big (.inl h)]
  · by_cases h2 : p < 64
    · have := of_range (P := fun p => impl_IsIrreducible.f 80 p = some (irrB p)) 62 2 i_irr_small p (by omega) (by omega)
      exact ((impl_IsIrreducible.lim p).2 _).mpr ⟨_, this⟩
    · rw [impl_IsIrreducible.d_eq, if_neg h, impl_IsIrreducible.j0d_eq, if_pos (by simp; omega), irrB_big (.inr (by omega))]
theorem irrB_mem {p : Int} (h : irrB p = true) : p ∈ irrs := by simpa [irrB] using h
theorem i_deg_irr {p : Int} (h : irrB p = true) : ∀ m, ((m, p) ∈ fields14) = (impl_degreeOf.d p = some m) := by
  have h := irrB_mem h
  have key : ∀ p ∈ irrs, ∃ m, impl_degreeOf.f 80 p = some m ∧ (m, p) ∈ fields14 ∧ ∀ m', (m', p) ∈ fields14 → m' = m := by
    have : ∀ p ∈ irrs, ∃ m ∈ [1, 2, 3, 4, 5], impl_degreeOf.f 80 p = some m ∧ (m, p) ∈ fields14 ∧ ∀ f ∈ fields14, f.2 = p → f.1 = m := by decide +kernel
    intro p hp
    obtain ⟨m, _, a, b, c⟩ := this p hp
    exact ⟨m, a, b, fun m' h' => c (m', p) h' rfl⟩
  intro m
  obtain ⟨m0, a, b, c⟩ := key p h
  have e : impl_degreeOf.d p = some m0 := ((impl_degreeOf.lim p).2 _).mpr ⟨_, a⟩
  rw [e]
  apply propext
  exact ⟨fun h => by rw [c m h], fun h => by cases h; exact b⟩
theorem deg_some {p : Int} (h : irrB p = true) : ∃ m, (m, p) ∈ fields14 := by
  have : ∀ p ∈ irrs, ∃ m ∈ [1, 2, 3, 4, 5], ((m, p) : Int × Int) ∈ fields14 := by decide +kernel
  obtain ⟨m, _, hm⟩ := this p (irrB_mem h)
  exact ⟨m, hm⟩
theorem fields_facts : ∀ f ∈ fields14, (1 ≤ f.1 ∧ f.1 ≤ 5) ∧ irrB f.2 = true := by decide +kernel
theorem valid_facts {m p : Int} (h : validB m p = true) : 1 ≤ m ∧ m ≤ 5 ∧ irrB p = true := by
  have h' : (m, p) ∈ fields14 := by simpa [validB] using h
  have := fields_facts _ h'
  exact ⟨this.1.1, this.1.2, this.2⟩
theorem validB_eq {m p : Int} : validB m p = decide ((m, p) ∈ fields14) := by simp [validB, List.contains_eq_mem]
theorem i_ValidField_v (m p : Int) : impl_ValidField.d m p = some (validB m p) := by
  rw [impl_ValidField.d_eq]
  unfold impl_within.f
  by_cases h1 : m ≥ 1
  · rw [if_pos h1, bind_some']
    by_cases h5 : m ≤ 5
    · rw [if_pos (by simpa using h5), i_IsIrreducible_v, bind_some']
      by_cases hi : irrB p = true
      · rw [if_pos hi]
        obtain ⟨m0, hm0⟩ := deg_some hi
        rw [i_deg_irr hi] at hm0
        rw [hm0, bind_some', validB_eq]
        have := i_deg_irr hi m
        rw [hm0] at this
        congr 1
        simp only [this, Option.some.injEq]
        by_cases e : m0 = m
        · simp [e]
        · simp [e]
      · rw [if_neg hi]
        congr 1
        have : ¬ validB m p = true := fun h => hi (valid_facts h).2.2
        exact (Bool.eq_false_iff.mpr this).symm
    · rw [if_neg (by simpa using h5)]
      have : ¬ validB m p = true := fun h => h5 (valid_facts h).2.1
      rw [Bool.eq_false_iff.mpr this]
  · rw [if_neg h1, bind_some', if_neg (by decide)]
    have : ¬ validB m p = true := fun h => h1 (valid_facts h).1
    rw [Bool.eq_false_iff.mpr this]
end Go.Proofs.Ytbgbblgdbcjibaa.P
end
section
namespace Go.Proofs.Ytbgbblgdbcjibaa.P
open Go.RowKit Go.Proofs.YtbgbblgdbcjibaaW.PrintWords Go.Proofs.YtbgbblgdbcjibaaW.PrintLast Go.Proofs.YtbgbblgdbcjibaaW.PrintMore
set_option linter.unusedVariables false
set_option linter.unusedSimpArgs false
/-- the product of polynomials a and b, of b the places below n -/
def clm (a b : Nat) : Nat → Nat
  | 0 => 0
  | i + 1 => clm a b i ^^^ (if b.testBit i = true then a * 2 ^ i else 0)
/-- the rest of r by p, a polynomial of degree m: the places m + n - 1 .. m are cleared -/
def red (m p : Nat) (r : Nat) : Nat → Nat
  | 0 => r
  | i + 1 => red m p (if r.testBit (m + i) = true then r ^^^ (p * 2 ^ i) else r) i
/-- the product in the field -/
def fmul (m p a b : Nat) : Nat := red m p (clm a b m) m
theorem mul_pow_lt {a m i : Nat} (ha : a < 2 ^ m) : a * 2 ^ i < 2 ^ (m + i) := by
  rw [Nat.pow_add]; exact Nat.mul_lt_mul_of_pos_right ha (Nat.two_pow_pos i)
theorem clm_lt {a m : Nat} (ha : a < 2 ^ m) (b : Nat) : ∀ n, clm a b n < 2 ^ (m + n)
  | 0 => Nat.two_pow_pos _
  | n + 1 => by
    refine Nat.xor_lt_two_pow (lt_mono (clm_lt ha b n) (by omega)) ?_
    split
    · exact lt_mono (mul_pow_lt ha) (by omega)
    · exact Nat.two_pow_pos _
theorem clm_stop (a : Nat) {b i : Nat} (h : b < 2 ^ i) : ∀ n, clm a b (i + n) = clm a b i
  | 0 => rfl
  | n + 1 => by
    rw [← Nat.add_assoc, clm, clm_stop a h n, Nat.testBit_lt_two_pow (lt_mono h (by omega))]
    simp
theorem lt_of_bit {r k : Nat} (h : r < 2 ^ (k + 1)) (hb : r.testBit k = false) : r < 2 ^ k := by
  apply Nat.lt_pow_two_of_testBit
  intro i hi
  rcases Nat.lt_or_ge i (k + 1) with z | z
  · rw [show i = k by omega]; exact hb
  · exact Nat.testBit_lt_two_pow (lt_mono h z)
theorem red_step_lt {m p r i : Nat} (hp : p < 2 ^ (m + 1)) (hpb : p.testBit m = true) (hr : r < 2 ^ (m + (i + 1))) : (if r.testBit (m + i) = true then r ^^^ (p * 2 ^ i) else r) < 2 ^ (m + i) := by
  have h1 : p * 2 ^ i < 2 ^ (m + i + 1) := by
    have := mul_pow_lt (i := i) hp
    exact lt_mono this (by omega)
  split
  · rename_i c
    refine lt_of_bit (Nat.xor_lt_two_pow hr h1) ?_
    rw [Nat.testBit_xor, c, Nat.testBit_mul_two_pow]
    simp [hpb]
  · rename_i c
    exact lt_of_bit hr (Bool.eq_false_iff.mpr c)
theorem red_lt {m p : Nat} (hp : p < 2 ^ (m + 1)) (hpb : p.testBit m = true) : ∀ i r, r < 2 ^ (m + i) → red m p r i < 2 ^ m
  | 0, r, h => h
  | i + 1, r, h => by rw [red]; exact red_lt hp hpb i _ (red_step_lt hp hpb h)
theorem s_half {r : Nat} (h : r < 9223372036854775808) : wrap64 (Int.tdiv (r : Int) 2) = ((r / 2 : Nat) : Int) := by
  have e : Int.tdiv (r : Int) 2 = ((r / 2 : Nat) : Int) := (Int.ofNat_tdiv r 2).symm
  rw [e, wr (by omega) (by omega)]
theorem half_bit {r k : Nat} : (r / 2).testBit k = r.testBit (k + 1) := Nat.testBit_div_two ..
theorem half_lt {r k : Nat} (h : r < 2 ^ (k + 1)) : r / 2 < 2 ^ k := by rw [Nat.pow_succ] at h; omega
theorem bit_pos {r k : Nat} (h : r.testBit k = true) : 0 < r := by
  rcases Nat.eq_zero_or_pos r with rfl | z
  · rw [Nat.zero_testBit] at h; cases h
  · exact z
theorem spec_l01Degree.some_v : ∀ (k r : Nat) (o : Int), k ≤ 62 → r < 2 ^ (k + 1) → r.testBit k = true → -1 ≤ o → o + k ≤ 1000 → spec_l01Degree.l0d (r : Int) o = some (o + k + 1)
  | 0, r, o, hk, h, hb, h0, h1 => by
    have hr : r = 1 := by have := bit_pos hb; omega
    subst hr
    rw [spec_l01Degree.l0d_eq, if_pos (by omega), wr (x := o + 1) (by omega) (by omega), show wrap64 (Int.tdiv ((1 : Nat) : Int) 2) = ((1 / 2 : Nat) : Int) by (exact s_half (small62 (by omega) h)), spec_l01Degree.l0d_eq, if_neg (by decide)]; simp
  | k + 1, r, o, hk, h, hb, h0, h1 => by
    have := bit_pos hb
    rw [spec_l01Degree.l0d_eq, if_pos (by omega), wr (x := o + 1) (by omega) (by omega), show wrap64 (Int.tdiv (r : Int) 2) = ((r / 2 : Nat) : Int) by (exact s_half (small62 (by omega) h)), spec_l01Degree.some_v k (r / 2) (o + 1) (by omega) (half_lt h) (by rw [half_bit]; exact hb) (by omega) (by omega)]
    congr 1; omega
theorem spec_l01Degree.lt_v : ∀ (k r : Nat) (o : Int), k ≤ 62 → r < 2 ^ k → -1 ≤ o → o + k ≤ 1000 → ∃ d, spec_l01Degree.l0d (r : Int) o = some d ∧ d ≤ o + k
  | 0, r, o, hk, h, h0, h1 => ⟨o, by rw [spec_l01Degree.l0d_eq, if_neg (by have hz : r = 0 := (by simpa using h); omega)], by omega⟩
  | k + 1, r, o, hk, h, h0, h1 => by
    by_cases c : 0 < r
    · obtain ⟨d, e, hd⟩ := spec_l01Degree.lt_v k (r / 2) (o + 1) (by omega) (half_lt h) (by omega) (by omega)
      have hr62 := small62 (n := k + 1) (by omega) h
      exact ⟨d, by rw [spec_l01Degree.l0d_eq, if_pos (by omega), wr (x := o + 1) (by omega) (by omega), show wrap64 (Int.tdiv (r : Int) 2) = ((r / 2 : Nat) : Int) by (exact s_half (small62 (by omega) h)), e], by omega⟩
    · exact ⟨o, by rw [spec_l01Degree.l0d_eq, if_neg (by omega)], by omega⟩
theorem impl_degreeOf.some_v : ∀ (k r : Nat) (o : Int), k ≤ 62 → r < 2 ^ (k + 1) → r.testBit k = true → -1 ≤ o → o + k ≤ 1000 → impl_degreeOf.l0d (r : Int) o = some (o + k + 1)
  | 0, r, o, hk, h, hb, h0, h1 => by
    have hr : r = 1 := by have := bit_pos hb; omega
    subst hr
    rw [impl_degreeOf.l0d_eq, if_pos (by omega), wr (x := o + 1) (by omega) (by omega), show (((1 : Nat) : Int) / 2) = ((1 / 2 : Nat) : Int) by omega, impl_degreeOf.l0d_eq, if_neg (by decide)]; simp
  | k + 1, r, o, hk, h, hb, h0, h1 => by
    have := bit_pos hb
    rw [impl_degreeOf.l0d_eq, if_pos (by omega), wr (x := o + 1) (by omega) (by omega), show ((r : Int) / 2) = ((r / 2 : Nat) : Int) by omega, impl_degreeOf.some_v k (r / 2) (o + 1) (by omega) (half_lt h) (by rw [half_bit]; exact hb) (by omega) (by omega)]
    congr 1; omega
theorem impl_degreeOf.lt_v : ∀ (k r : Nat) (o : Int), k ≤ 62 → r < 2 ^ k → -1 ≤ o → o + k ≤ 1000 → ∃ d, impl_degreeOf.l0d (r : Int) o = some d ∧ d ≤ o + k
  | 0, r, o, hk, h, h0, h1 => ⟨o, by rw [impl_degreeOf.l0d_eq, if_neg (by have hz : r = 0 := (by simpa using h); omega)], by omega⟩
  | k + 1, r, o, hk, h, h0, h1 => by
    by_cases c : 0 < r
    · obtain ⟨d, e, hd⟩ := impl_degreeOf.lt_v k (r / 2) (o + 1) (by omega) (half_lt h) (by omega) (by omega)
      have hr62 := small62 (n := k + 1) (by omega) h
      exact ⟨d, by rw [impl_degreeOf.l0d_eq, if_pos (by omega), wr (x := o + 1) (by omega) (by omega), show ((r : Int) / 2) = ((r / 2 : Nat) : Int) by omega, e], by omega⟩
    · exact ⟨o, by rw [impl_degreeOf.l0d_eq, if_neg (by omega)], by omega⟩
theorem spec_l01Rest.loop_v {m p : Nat} (hm : m ≤ 5) (hp : p < 2 ^ (m + 1)) (hpb : p.testBit m = true) : ∀ i r : Nat, i ≤ 5 → r < 2 ^ (m + i) → spec_l01Rest.l0d (r : Int) (p : Int) (m : Int) = some ((red m p r i : Nat) : Int)
  | 0, r, hi, h => by
    obtain ⟨d, e, hd⟩ := spec_l01Degree.lt_v m r (-1) (by omega) h (by omega) (by omega)
    rw [spec_l01Rest.l0d_eq, spec_l01Degree.d_eq, e, bind_some', if_neg (by omega)]; rfl
  | i + 1, r, hi, h => by
    have st := red_step_lt (i := i) hp hpb h
    rw [red]
    by_cases c : r.testBit (m + i) = true
    · rw [if_pos c] at st ⊢
      have e : spec_l01Degree.d (r : Int) = some ((m + i : Nat) : Int) := by
        rw [spec_l01Degree.d_eq, spec_l01Degree.some_v (m + i) r (-1) (by omega) h c (by omega) (by omega)]; congr 1; omega
      have h1 : p * 2 ^ i < 2 ^ 12 := lt_mono (mul_pow_lt hp) (by omega)
      have h2 : r < 2 ^ 12 := lt_mono h (by omega)
      rw [spec_l01Rest.l0d_eq, e, bind_some', if_pos (by omega), bind_some', show (IntKind.u64.wrap (wrap64 (((m + i : Nat) : Int) - (m : Int)))) = (i : Int) by rw [wr (by omega) (by omega), u64_id (by omega) (by omega)]; omega, if_pos (by omega), shl_nat (by omega) (by omega), bxor (by omega) (by omega)]
      exact spec_l01Rest.loop_v hm hp hpb i _ (by omega) st
    · rw [if_neg c] at st ⊢
      exact spec_l01Rest.loop_v hm hp hpb i r (by omega) st
theorem spec_l01Rest.v {m p : Nat} (hm : m ≤ 5) (hp : p < 2 ^ (m + 1)) (hpb : p.testBit m = true) {r : Nat} (h : r < 2 ^ (m + m)) : spec_l01Rest.d (r : Int) (p : Int) = some ((red m p r m : Nat) : Int) := by
  rw [spec_l01Rest.d_eq, spec_l01Degree.d_eq, spec_l01Degree.some_v m p (-1) (by omega) hp hpb (by omega) (by omega), bind_some', show (-1 + (m : Int) + 1) = m by omega]
  exact spec_l01Rest.loop_v hm hp hpb m r (by omega) h
theorem impl_restOf.loop_v {m p : Nat} (hm : m ≤ 5) (hp : p < 2 ^ (m + 1)) (hpb : p.testBit m = true) : ∀ i r : Nat, i ≤ 5 → r < 2 ^ (m + i) → impl_restOf.l0d (r : Int) (p : Int) (m : Int) = some ((red m p r i : Nat) : Int)
  | 0, r, hi, h => by
    obtain ⟨d, e, hd⟩ := impl_degreeOf.lt_v m r (-1) (by omega) h (by omega) (by omega)
    rw [impl_restOf.l0d_eq, impl_degreeOf.d_eq, e, bind_some', if_neg (by omega)]; rfl
  | i + 1, r, hi, h => by
    have st := red_step_lt (i := i) hp hpb h
    rw [red]
    by_cases c : r.testBit (m + i) = true
    · rw [if_pos c] at st ⊢
      have e : impl_degreeOf.d (r : Int) = some ((m + i : Nat) : Int) := by
        rw [impl_degreeOf.d_eq, impl_degreeOf.some_v (m + i) r (-1) (by omega) h c (by omega) (by omega)]; congr 1; omega
      have h1 : p * 2 ^ i < 2 ^ 12 := lt_mono (mul_pow_lt hp) (by omega)
      have h2 : r < 2 ^ 12 := lt_mono h (by omega)
      rw [impl_restOf.l0d_eq, e, bind_some', if_pos (by omega), bind_some', show wrap64 (((m + i : Nat) : Int) - (m : Int)) = (i : Int) by rw [wr (by omega) (by omega)]; omega, if_pos (by omega), shl_nat (by omega) (by omega), bxor (by omega) (by omega)]
      exact impl_restOf.loop_v hm hp hpb i _ (by omega) st
    · rw [if_neg c] at st ⊢
      exact impl_restOf.loop_v hm hp hpb i r (by omega) st
theorem impl_restOf.v {m p : Nat} (hm : m ≤ 5) (hp : p < 2 ^ (m + 1)) (hpb : p.testBit m = true) {r : Nat} (h : r < 2 ^ (m + m)) : impl_restOf.d (r : Int) (p : Int) = some ((red m p r m : Nat) : Int) := by
  rw [impl_restOf.d_eq, impl_degreeOf.d_eq, impl_degreeOf.some_v m p (-1) (by omega) hp hpb (by omega) (by omega), bind_some', show (-1 + (m : Int) + 1) = m by omega]
  exact impl_restOf.loop_v hm hp hpb m r (by omega) h
theorem fields_bits : ∀ f ∈ fields14, 0 ≤ f.2 ∧ f.2.toNat < 2 ^ (f.1.toNat + 1) ∧ f.2.toNat.testBit f.1.toNat = true := by decide +kernel
theorem valid_nat {m p : Int} (h : validB m p = true) : ∃ M P : Nat, m = (M : Int) ∧ p = (P : Int) ∧ 1 ≤ M ∧ M ≤ 5 := by
  have h' : (m, p) ∈ fields14 := by simpa [validB] using h
  have h2 := fields_bits _ h'
  have h3 := valid_facts h
  exact ⟨m.toNat, p.toNat, by omega, by simp only at h2; omega, by omega, by omega⟩
theorem valid_bits {M P : Nat} (h : validB (M : Int) (P : Int) = true) : 1 ≤ M ∧ M ≤ 5 ∧ P < 2 ^ (M + 1) ∧ P.testBit M = true := by
  have h' : ((M : Int), (P : Int)) ∈ fields14 := by simpa [validB] using h
  have h2 := fields_bits _ h'
  have h3 := valid_facts h
  exact ⟨by omega, by omega, h2.2.1, h2.2.2⟩
theorem fmul_lt {M P : Nat} (h : validB (M : Int) (P : Int) = true) {a : Nat} (ha : a < 2 ^ M) (b : Nat) : fmul M P a b < 2 ^ M := by
  have hv := valid_bits h
  exact red_lt hv.2.2.1 hv.2.2.2 M _ (clm_lt ha b M)
end Go.Proofs.Ytbgbblgdbcjibaa.P
end
section
namespace Go.Proofs.Ytbgbblgdbcjibaa.P
open Go.RowKit Go.Proofs.YtbgbblgdbcjibaaW.PrintWords Go.Proofs.YtbgbblgdbcjibaaW.PrintLast Go.Proofs.YtbgbblgdbcjibaaW.PrintMore
set_option linter.unusedVariables false
set_option linter.unusedSimpArgs false
/-- x squared k times -/
def fsq (m p : Nat) : Nat → Nat → Nat
  | 0, x => x
  | k + 1, x => fsq m p k (fmul m p x x)
theorem fsq_lt {M P : Nat} (h : validB (M : Int) (P : Int) = true) : ∀ (k : Nat) {x : Nat}, x < 2 ^ M → fsq M P k x < 2 ^ M
  | 0, x, hx => hx
  | k + 1, x, hx => fsq_lt h k (fmul_lt h hx x)
theorem tmod_nat (k M : Nat) : Int.tmod (k : Int) (M : Int) = ((k % M : Nat) : Int) := (Int.ofNat_tmod k M).symm
end Go.Proofs.Ytbgbblgdbcjibaa.P
end
section
namespace Go.Proofs.Ytbgbblgdbcjibaa.P
open Go.RowKit Go.Proofs.YtbgbblgdbcjibaaW.PrintWords Go.Proofs.YtbgbblgdbcjibaaW.PrintLast Go.Proofs.YtbgbblgdbcjibaaW.PrintMore
set_option linter.unusedVariables false
set_option linter.unusedSimpArgs false
/-- the value of a linear polynomial, its first i coefficients -/
def fval (M P : Nat) (pn : List Nat) (x : Nat) : Nat → Nat
  | 0 => 0
  | i + 1 => fval M P pn x i ^^^ fmul M P (pn.getD i 0) (fsq M P (i % M) x)
theorem fval_lt {M P : Nat} (h : validB (M : Int) (P : Int) = true) {pn : List Nat} (hp : ∀ y ∈ pn, y < 2 ^ M) (x : Nat) : ∀ i, i ≤ pn.length → fval M P pn x i < 2 ^ M
  | 0, _ => Nat.two_pow_pos M
  | i + 1, hi => Nat.xor_lt_two_pow (fval_lt h hp x i (by omega)) (fmul_lt h (hp _ (getD_mem (by omega))) _)
end Go.Proofs.Ytbgbblgdbcjibaa.P
end
section
namespace Go.Proofs.Ytbgbblgdbcjibaa.P
open Go.RowKit Go.Proofs.YtbgbblgdbcjibaaW.PrintWords Go.Proofs.YtbgbblgdbcjibaaW.PrintLast Go.Proofs.YtbgbblgdbcjibaaW.PrintMore
set_option linter.unusedVariables false
set_option linter.unusedSimpArgs false
theorem i_product_v {M a b : Nat} (hM : M ≤ 5) (ha : a < 2 ^ M) (hb : b < 2 ^ M) : impl_product.d (a : Int) (b : Int) = some ((clm a b M : Nat) : Int) := by
  have hb5 : b < 2 ^ 5 := lt_mono hb hM
  have key : ∀ i, i ≤ M → impl_product.l0d ((a * 2 ^ i : Nat) : Int) ((b / 2 ^ i : Nat) : Int) ((clm a b i : Nat) : Int) = some ((clm a b M : Nat) : Int) := by
    apply down
    · rw [impl_product.l0d_eq, if_neg (by rw [Nat.div_eq_of_lt hb]; decide)]
    · intro i hi e
      have h1 : a * 2 ^ i < 2 ^ 10 := lt_mono (mul_pow_lt ha) (by omega)
      have h2 : clm a b i < 2 ^ 10 := lt_mono (clm_lt ha b i) (by omega)
      have h3 : b / 2 ^ i ≤ b := Nat.div_le_self _ _
      by_cases z : b / 2 ^ i = 0
      · have z' : b < 2 ^ i := by
          apply Classical.byContradiction
          intro w
          have := Nat.div_pos (Nat.le_of_not_lt w) (Nat.two_pow_pos i)
          omega
        rw [impl_product.l0d_eq, if_neg (by omega)]
        have := clm_stop a z' (M - i)
        rw [show i + (M - i) = M by omega] at this
        rw [this]
      · have e1 : wrap64 (((a * 2 ^ i : Nat) : Int) * 2) = ((a * 2 ^ (i + 1) : Nat) : Int) := by
          rw [wr (by omega) (by omega), Nat.pow_succ, ← Nat.mul_assoc]; simp
        have e2 : ((b / 2 ^ i : Nat) : Int) / 2 = ((b / 2 ^ (i + 1) : Nat) : Int) := by
          rw [Nat.pow_succ, ← Nat.div_div_eq_div_mul]; generalize b / 2 ^ i = q; omega
        have e3 : Go.bits .and .i64 ((b / 2 ^ i : Nat) : Int) 1 = if b.testBit i = true then 1 else 0 := by
          have := band (a := b / 2 ^ i) (b := 1) (by omega) (by omega)
          rw [show ((1 : Nat) : Int) = 1 from rfl] at this
          rw [this, Nat.and_one_is_mod, Nat.testBit_eq_decide_div_mod_eq]
          rcases Nat.mod_two_eq_zero_or_one (b / 2 ^ i) with w | w <;> rw [w] <;> simp
        rw [impl_product.l0d_eq, if_pos (Int.natCast_pos.mpr (Nat.pos_of_ne_zero z)), e1, e2, e3, ← e, clm]
        by_cases c : b.testBit i = true
        · rw [if_pos c, if_pos rfl, if_pos c, bxor (by omega) (by omega)]
        · rw [if_neg c, if_neg (by decide), if_neg c, Nat.xor_zero]
  rw [impl_product.d_eq]
  have := key 0 (by omega)
  simpa [clm] using this
theorem i_mul_v {M P : Nat} (h : validB (M : Int) (P : Int) = true) {a b : Nat} (ha : a < 2 ^ M) (hb : b < 2 ^ M) : impl_Field_mul.d (M : Int) (P : Int) (a : Int) (b : Int) = some ((fmul M P a b : Nat) : Int) := by
  have hv := valid_bits h
  rw [impl_Field_mul.d_eq, i_product_v hv.2.1 ha hb, bind_some', impl_restOf.v hv.2.1 hv.2.2.1 hv.2.2.2 (clm_lt ha b M)]; rfl
end Go.Proofs.Ytbgbblgdbcjibaa.P
end
section
namespace Go.Proofs.Ytbgbblgdbcjibaa.P
open Go.RowKit Go.Proofs.YtbgbblgdbcjibaaW.PrintWords Go.Proofs.YtbgbblgdbcjibaaW.PrintLast Go.Proofs.YtbgbblgdbcjibaaW.PrintMore
set_option linter.unusedVariables false
set_option linter.unusedSimpArgs false
theorem i_sq_loop {M P : Nat} (h : validB (M : Int) (P : Int) = true) {K : Nat} (hK : K ≤ 1000) : ∀ (k : Nat) {x : Nat}, k ≤ K → x < 2 ^ M → impl_Field_square.l0d (x : Int) (K : Int) ((K - k : Nat) : Int) (M : Int) (P : Int) = some ((fsq M P k x : Nat) : Int)
  | 0, x, _, hx => by rw [impl_Field_square.l0d_eq, if_neg (by omega)]; rfl
  | k + 1, x, hk, hx => by
    rw [impl_Field_square.l0d_eq, if_pos (by omega), i_mul_v h hx hx, bind_some', show wrap64 (((K - (k + 1) : Nat) : Int) + 1) = ((K - k : Nat) : Int) by rw [wr (by omega) (by omega)]; omega]
    exact i_sq_loop h hK k (by omega) (fmul_lt h hx x)
theorem i_sq_v {M P : Nat} (h : validB (M : Int) (P : Int) = true) (k : Nat) {x : Nat} (hx : x < 2 ^ M) : impl_Field_square.d (M : Int) (P : Int) (x : Int) (k : Int) = some ((fsq M P (k % M) x : Nat) : Int) := by
  have hv := valid_bits h
  have := Nat.mod_lt k (show M > 0 by omega)
  rw [impl_Field_square.d_eq, if_neg (by omega), tmod_nat]
  have e := i_sq_loop h (K := k % M) (by omega) (k % M) (x := x) (by omega) hx
  rwa [Nat.sub_self] at e
end Go.Proofs.Ytbgbblgdbcjibaa.P
end
section
namespace Go.Proofs.Ytbgbblgdbcjibaa.P
open Go.RowKit Go.Proofs.YtbgbblgdbcjibaaW.PrintWords Go.Proofs.YtbgbblgdbcjibaaW.PrintLast Go.Proofs.YtbgbblgdbcjibaaW.PrintMore
set_option linter.unusedVariables false
set_option linter.unusedSimpArgs false
theorem i_value_v {M P : Nat} (h : validB (M : Int) (P : Int) = true) {pn : List Nat} (hl : pn.length ≤ 1048576) (hp : ∀ y ∈ pn, y < 2 ^ M) {x : Nat} (hx : x < 2 ^ M) :
    impl_Field_value.d (M : Int) (P : Int) (up pn) (x : Int) = some ((fval M P pn x pn.length : Nat) : Int) := by
  have hv := valid_bits h
  have key : ∀ i, i ≤ pn.length → impl_Field_value.l0d (x : Int) ((fval M P pn x i : Nat) : Int) (up pn) ((up pn).length : Int) (i : Int) (M : Int) (P : Int) = some ((fval M P pn x pn.length : Nat) : Int) := by
    apply down
    · rw [impl_Field_value.l0d_eq, if_neg (by rw [up_length]; omega)]
    · intro i hi e
      have h1 := hp _ (getD_mem hi)
      have h2 := fsq_lt h (i % M) hx
      have h3 := small62 (by omega) (fval_lt h hp x i (by omega))
      have h4 := small62 (by omega) (fmul_lt h h1 (fsq M P (i % M) x))
      rw [impl_Field_value.l0d_eq, if_pos (by rw [up_length]; omega), if_pos (by omega), if_pos (by rw [up_length]; omega), i_sq_v h i hx, bind_some', up_getD hi, i_mul_v h h1 h2, bind_some', bxor h3 h4, wrS hi (by omega), ← e, fval]
  rw [impl_Field_value.d_eq]
  exact key 0 (by omega)
end Go.Proofs.Ytbgbblgdbcjibaa.P
end
section
namespace Go.Proofs.Ytbgbblgdbcjibaa.P
set_option linter.unusedVariables false
set_option linter.unusedSimpArgs false
/-- a sum of some of the rows -/
inductive Sp (R : List Nat) : Nat → Prop
  | zero : Sp R 0
  | add {r v : Nat} : r ∈ R → Sp R v → Sp R (v ^^^ r)
theorem Sp.mem {R : List Nat} {r : Nat} (h : r ∈ R) : Sp R r := by
  have := Sp.add h Sp.zero
  rwa [Nat.zero_xor] at this
theorem Sp.xor {R : List Nat} {u v : Nat} (hu : Sp R u) (hv : Sp R v) : Sp R (u ^^^ v) := by
  induction hv with
  | zero => rwa [Nat.xor_zero]
  | add h _ ih => rw [← Nat.xor_assoc]; exact Sp.add h ih
theorem Sp.sub {R R' : List Nat} (h : ∀ r ∈ R, Sp R' r) {v : Nat} (hv : Sp R v) : Sp R' v := by
  induction hv with
  | zero => exact Sp.zero
  | add hr _ ih => exact ih.xor (h _ hr)
theorem Sp.mono {R R' : List Nat} (h : ∀ r ∈ R, r ∈ R') {v : Nat} (hv : Sp R v) : Sp R' v := hv.sub fun r hr => Sp.mem (h r hr)
theorem Sp.nil {v : Nat} (h : Sp [] v) : v = 0 := by
  cases h with
  | zero => rfl
  | add h _ => cases h
theorem Sp.cons {r : Nat} {R : List Nat} {v : Nat} (h : Sp (r :: R) v) : Sp R v ∨ Sp R (v ^^^ r) := by
  induction h with
  | zero => exact .inl .zero
  | @add s v hs _ ih =>
    rcases List.mem_cons.mp hs with rfl | hs
    · rcases ih with ih | ih
      · right; rw [Nat.xor_assoc, Nat.xor_self, Nat.xor_zero]; exact ih
      · left; exact ih
    · rcases ih with ih | ih
      · left; exact ih.add hs
      · right; rw [Nat.xor_assoc, Nat.xor_comm s r, ← Nat.xor_assoc]; exact ih.add hs
theorem Sp.bit {R : List Nat} {b : Nat} (h : ∀ r ∈ R, r.testBit b = false) {v : Nat} (hv : Sp R v) : v.testBit b = false := by
  induction hv with
  | zero => exact Nat.zero_testBit b
  | add hr _ ih => rw [Nat.testBit_xor, ih, h _ hr]; rfl
/-- reduced rows R with their leading places C, growing -/
def RED : List Nat → List Nat → Prop
  | [], [] => True
  | r :: R, c :: C => r.testBit c = true ∧ (∀ b, b < c → r.testBit b = false) ∧ (∀ d ∈ C, c < d ∧ r.testBit d = false) ∧ RED R C
  | _, _ => False
theorem RED.low {R C : List Nat} (h : RED R C) {b : Nat} (hb : ∀ d ∈ C, b < d) : ∀ r ∈ R, r.testBit b = false := by
  induction R generalizing C with
  | nil => intro r hr; cases hr
  | cons r R ih =>
    cases C with
    | nil => exact h.elim
    | cons c C =>
      obtain ⟨h1, h2, h3, h4⟩ := h
      intro s hs
      rcases List.mem_cons.mp hs with rfl | hs
      · exact h2 b (hb c (by simp))
      · exact ih h4 (fun d hd => hb d (by simp [hd])) s hs
theorem RED.zero {R C : List Nat} (h : RED R C) {v : Nat} (hv : Sp R v) (h0 : ∀ c ∈ C, v.testBit c = false) : v = 0 := by
  induction R generalizing C v with
  | nil => exact hv.nil
  | cons r R ih =>
    cases C with
    | nil => exact h.elim
    | cons c C =>
      obtain ⟨h1, h2, h3, h4⟩ := h
      have low : ∀ s ∈ R, s.testBit c = false := h4.low fun d hd => (h3 d hd).1
      rcases hv.cons with hv | hv
      · exact ih h4 hv fun d hd => h0 d (by simp [hd])
      · have := hv.bit low
        rw [Nat.testBit_xor, h1, h0 c (by simp)] at this
        cases this
theorem RED.lead {R C : List Nat} (h : RED R C) {v : Nat} (hv : Sp R v) (h0 : v ≠ 0) : ∃ c ∈ C, v.testBit c = true ∧ ∀ b, b < c → v.testBit b = false := by
  induction R generalizing C v with
  | nil => exact absurd hv.nil h0
  | cons r R ih =>
    cases C with
    | nil => exact h.elim
    | cons c C =>
      obtain ⟨h1, h2, h3, h4⟩ := h
      rcases hv.cons with hv | hv
      · obtain ⟨d, hd, a, b⟩ := ih h4 hv h0
        exact ⟨d, by simp [hd], a, b⟩
      · refine ⟨c, by simp, ?_, fun b hb => ?_⟩
        · have := hv.bit (h4.low fun d hd => (h3 d hd).1)
          rw [Nat.testBit_xor, h1] at this
          revert this; cases v.testBit c <;> simp
        · have := hv.bit (h4.low (b := b) fun d hd => Nat.lt_trans hb (h3 d hd).1)
          rw [Nat.testBit_xor, h2 b hb] at this
          revert this; cases v.testBit b <;> simp
theorem RED.nonzero {r c : Nat} (h : r.testBit c = true) : r ≠ 0 := by rintro rfl; rw [Nat.zero_testBit] at h; cases h
theorem RED.head_le {r c : Nat} {R C R' C' : List Nat} {r' c' : Nat} (h : RED (r :: R) (c :: C)) (h' : RED (r' :: R') (c' :: C'))
    (hs : ∀ v, Sp (r' :: R') v → Sp (r :: R) v) : c ≤ c' := by
  obtain ⟨d, hd, a, b⟩ := h.lead (hs r' (Sp.mem (by simp))) (RED.nonzero h'.1)
  have : c ≤ d := by
    rcases List.mem_cons.mp hd with rfl | hd
    · exact Nat.le_refl _
    · exact Nat.le_of_lt (h.2.2.1 d hd).1
  rcases Nat.lt_or_ge c' d with z | z
  · have := b c' z; rw [h'.1] at this; cases this
  · omega
theorem RED.tail {r c : Nat} {R C : List Nat} (h : RED (r :: R) (c :: C)) {v : Nat} : Sp R v ↔ (Sp (r :: R) v ∧ v.testBit c = false) := by
  have low : ∀ s ∈ R, s.testBit c = false := h.2.2.2.low fun d hd => (h.2.2.1 d hd).1
  constructor
  · intro hv; exact ⟨hv.mono fun s hs => by simp [hs], hv.bit low⟩
  · rintro ⟨hv, h0⟩
    rcases hv.cons with hv | hv
    · exact hv
    · have := hv.bit low
      rw [Nat.testBit_xor, h.1, h0] at this; cases this
theorem RED.unique {R C R' C' : List Nat} (h : RED R C) (h' : RED R' C') (hs : ∀ v, Sp R v ↔ Sp R' v) : R = R' ∧ C = C' := by
  induction R generalizing C R' C' with
  | nil =>
    cases C with
    | cons c C => exact h.elim
    | nil =>
      cases R' with
      | nil => cases C' with
        | nil => exact ⟨rfl, rfl⟩
        | cons c' C' => exact h'.elim
      | cons r' R' => cases C' with
        | nil => exact h'.elim
        | cons c' C' => exact absurd ((hs r').mpr (Sp.mem (by simp))).nil (RED.nonzero h'.1)
  | cons r R ih =>
    cases C with
    | nil => exact h.elim
    | cons c C =>
      cases R' with
      | nil => cases C' with
        | nil => exact absurd ((hs r).mp (Sp.mem (by simp))).nil (RED.nonzero h.1)
        | cons c' C' => exact h'.elim
      | cons r' R' =>
        cases C' with
        | nil => exact h'.elim
        | cons c' C' =>
          have e : c = c' := Nat.le_antisymm (h.head_le h' fun v => (hs v).mpr) (h'.head_le h fun v => (hs v).mp)
          subst e
          obtain ⟨e1, e2⟩ := ih h.2.2.2 h'.2.2.2 fun v => by rw [h.tail, h'.tail, hs v]
          subst e1 e2
          refine ⟨?_, rfl⟩
          have hz : r ^^^ r' = 0 := by
            refine h.zero (Sp.xor (Sp.mem (by simp)) ((hs r').mpr (Sp.mem (by simp)))) fun d hd => ?_
            rw [Nat.testBit_xor]
            rcases List.mem_cons.mp hd with rfl | hd
            · rw [h.1, h'.1]; rfl
            · rw [(h.2.2.1 d hd).2, (h'.2.2.1 d hd).2]; rfl
          have : r = r' := by
            have := congrArg (· ^^^ r') hz
            simp only [Nat.xor_assoc, Nat.xor_self, Nat.xor_zero, Nat.zero_xor] at this
            exact this
          rw [this]
end Go.Proofs.Ytbgbblgdbcjibaa.P
end
section
namespace Go.Proofs.Ytbgbblgdbcjibaa.P
set_option linter.unusedVariables false
set_option linter.unusedSimpArgs false
/-- the sum of the n lowest bits -/
def par : Nat → Nat → Bool
  | 0, _ => false
  | n + 1, x => xor (x.testBit 0) (par n (x / 2))
theorem par_zero : ∀ n, par n 0 = false
  | 0 => rfl
  | n + 1 => by rw [par, Nat.zero_div, par_zero n]; simp
theorem xor_half (x y : Nat) : (x ^^^ y) / 2 = x / 2 ^^^ y / 2 := by
  apply Nat.eq_of_testBit_eq
  intro i
  rw [Nat.testBit_xor, Nat.testBit_div_two, Nat.testBit_div_two, Nat.testBit_div_two, Nat.testBit_xor]
theorem par_xor : ∀ n x y, par n (x ^^^ y) = xor (par n x) (par n y)
  | 0, _, _ => rfl
  | n + 1, x, y => by
    rw [par, par, par, xor_half, par_xor n, Nat.testBit_xor]
    cases x.testBit 0 <;> cases y.testBit 0 <;> cases par n (x / 2) <;> cases par n (y / 2) <;> rfl
/-- the product of two rows of n places -/
def dot (n a b : Nat) : Bool := par n (a &&& b)
theorem dot_xor (n a b c : Nat) : dot n a (b ^^^ c) = xor (dot n a b) (dot n a c) := by
  unfold dot
  rw [← par_xor]
  congr 1
  apply Nat.eq_of_testBit_eq
  intro i
  simp only [Nat.testBit_and, Nat.testBit_xor]
  cases a.testBit i <;> simp
theorem dot_zero (n a : Nat) : dot n a 0 = false := by unfold dot; rw [Nat.and_zero, par_zero]
/-- x has the product 0 with all rows -/
def Ker (n : Nat) (rows : List Nat) (x : Nat) : Prop := x < 2 ^ n ∧ ∀ r ∈ rows, dot n r x = false
theorem Ker.zero (n : Nat) (rows : List Nat) : Ker n rows 0 := ⟨Nat.two_pow_pos n, fun r _ => dot_zero n r⟩
theorem Ker.xor {n : Nat} {rows : List Nat} {x y : Nat} (hx : Ker n rows x) (hy : Ker n rows y) : Ker n rows (x ^^^ y) :=
  ⟨Nat.xor_lt_two_pow hx.1 hy.1, fun r hr => by rw [dot_xor, hx.2 r hr, hy.2 r hr]; rfl⟩
/-- the leads of the rows that have the place c -/
def lc (c : Nat) : List Nat → List Nat → Nat
  | r :: R, d :: C => (if r.testBit c = true then 2 ^ d else 0) ^^^ lc c R C
  | _, _ => 0
end Go.Proofs.Ytbgbblgdbcjibaa.P
end
section
namespace Go.Proofs.Ytbgbblgdbcjibaa.P
open Go.RowKit Go.Proofs.YtbgbblgdbcjibaaW.PrintWords Go.Proofs.YtbgbblgdbcjibaaW.PrintLast Go.Proofs.YtbgbblgdbcjibaaW.PrintMore
set_option linter.unusedVariables false
set_option linter.unusedSimpArgs false
theorem s_irr_small : ∀ i, i < 62 → spec_IsIrreducible.f 80 (2 + (i : Nat)) = some (irrB (2 + (i : Nat))) := by decide +kernel
theorem s_IsIrreducible_v (p : Int) : spec_IsIrreducible.d p = some (irrB p) := by
  by_cases h : p < 64
  · by_cases h2 : 2 ≤ p
    · have := of_range (P := fun p => spec_IsIrreducible.f 80 p = some (irrB p)) 62 2 s_irr_small p (by omega) (by omega)
      exact ((spec_IsIrreducible.lim p).2 _).mpr ⟨_, this⟩
    · by_cases h3 : p = 1
      · subst h3; exact ((spec_IsIrreducible.lim 1).2 _).mpr ⟨80, by decide +kernel⟩
      · rw [spec_IsIrreducible.d_eq, if_neg (by omega), irrB_big (.inl (by omega))]
  · rw [spec_IsIrreducible.d_eq, if_pos (by omega), if_neg h, irrB_big (.inr (by omega))]
theorem s_deg_irr {p : Int} (h : irrB p = true) : ∀ m, ((m, p) ∈ fields14) = (spec_l01Degree.d p = some m) := by
  have h := irrB_mem h
  have key : ∀ p ∈ irrs, ∃ m, spec_l01Degree.f 80 p = some m ∧ (m, p) ∈ fields14 ∧ ∀ m', (m', p) ∈ fields14 → m' = m := by
    have : ∀ p ∈ irrs, ∃ m ∈ [1, 2, 3, 4, 5], spec_l01Degree.f 80 p = some m ∧ (m, p) ∈ fields14 ∧ ∀ f ∈ fields14, f.2 = p → f.1 = m := by decide +kernel
    intro p hp
    obtain ⟨m, _, a, b, c⟩ := this p hp
    exact ⟨m, a, b, fun m' h' => c (m', p) h' rfl⟩
  intro m
  obtain ⟨m0, a, b, c⟩ := key p h
  have e : spec_l01Degree.d p = some m0 := ((spec_l01Degree.lim p).2 _).mpr ⟨_, a⟩
  rw [e]
  apply propext
  exact ⟨fun h => by rw [c m h], fun h => by cases h; exact b⟩
theorem s_l01Ok_v (m p : Int) : spec_l01Ok.d m p = some (validB m p) := by
  rw [spec_l01Ok.d_eq]
  unfold spec_l00In.f
  by_cases h1 : m ≥ 1
  · rw [if_pos h1, bind_some']
    by_cases h5 : m ≤ 5
    · rw [if_pos (by simpa using h5), s_IsIrreducible_v, bind_some']
      by_cases hi : irrB p = true
      · rw [if_pos hi]
        obtain ⟨m0, hm0⟩ := deg_some hi
        rw [s_deg_irr hi] at hm0
        rw [hm0, bind_some', validB_eq]
        have := s_deg_irr hi m
        rw [hm0] at this
        congr 1
        simp only [this, Option.some.injEq]
        by_cases e : m0 = m
        · simp [e]
        · simp [e]
      · rw [if_neg hi]
        congr 1
        have : ¬ validB m p = true := fun h => hi (valid_facts h).2.2
        exact (Bool.eq_false_iff.mpr this).symm
    · rw [if_neg (by simpa using h5)]
      have : ¬ validB m p = true := fun h => h5 (valid_facts h).2.1
      rw [Bool.eq_false_iff.mpr this]
  · rw [if_neg h1, bind_some', if_neg (by decide)]
    have : ¬ validB m p = true := fun h => h1 (valid_facts h).1
    rw [Bool.eq_false_iff.mpr this]
end Go.Proofs.Ytbgbblgdbcjibaa.P
end
section
namespace Go.Proofs.Ytbgbblgdbcjibaa.P
open Go.RowKit Go.Proofs.YtbgbblgdbcjibaaW.PrintWords Go.Proofs.YtbgbblgdbcjibaaW.PrintLast Go.Proofs.YtbgbblgdbcjibaaW.PrintMore
set_option linter.unusedVariables false
set_option linter.unusedSimpArgs false
theorem m_cases {m p : Int} (h : validB m p = true) : m = 1 ∨ m = 2 ∨ m = 3 ∨ m = 4 ∨ m = 5 := by
  have := valid_facts h; omega
theorem i_count_v {m p : Int} (h : validB m p = true) (q : Int) : impl_Field_count.f m q = some (2 ^ m.toNat) := by
  rcases m_cases h with rfl | rfl | rfl | rfl | rfl <;> rfl
theorem s_l01Size_v {m p : Int} (h : validB m p = true) (q : Int) : spec_l01Size.f m q = some (2 ^ m.toNat) := by
  rcases m_cases h with rfl | rfl | rfl | rfl | rfl <;> rfl
theorem pow_bound {m p : Int} (h : validB m p = true) : (2 : Int) ≤ 2 ^ m.toNat ∧ (2 : Int) ^ m.toNat ≤ 32 := by
  rcases m_cases h with rfl | rfl | rfl | rfl | rfl <;> decide
theorem i_has_1_v {m p : Int} (h : validB m p = true) (q x : Int) : impl_Field_has_1.f x m q = some (!(elemB m x)) := by
  unfold impl_Field_has_1.f impl_within.f elemB
  have hb := pow_bound h
  rw [i_count_v h, bind_some', wr (by omega) (by omega)]
  by_cases c : 0 ≤ x
  · rw [if_pos (by omega), bind_some']
    simp only [decide_eq_true c, Bool.true_and]
    congr 2
    apply decide_eq_decide.mpr; omega
  · rw [if_neg (by omega), bind_some']
    simp only [decide_eq_false c, Bool.false_and]
theorem i_has_v {m p : Int} (h : validB m p = true) (q : Int) {l : List Int} (hl : l.length ≤ 17592186044416) : impl_Field_has.d m q l = some (l.all (elemB m)) := by
  rw [impl_Field_has.d_eq, slices_ContainsFunc_int64_int64_AT_impl_Field_has_1.d_eq, slices_IndexFunc_int64_int64_AT_impl_Field_has_1.d_eq]
  obtain ⟨v, e, c, _⟩ := index_gen (F := fun i => slices_IndexFunc_int64_int64_AT_impl_Field_has_1.l0d l (l.length : Int) i m q) (n := l.length) (q := fun i => !(elemB m (rd l (i : Int))))
    (by show slices_IndexFunc_int64_int64_AT_impl_Field_has_1.l0d l (l.length : Int) (l.length : Int) m q = _
        rw [slices_IndexFunc_int64_int64_AT_impl_Field_has_1.l0d_eq, if_neg (by omega)])
    (by intro i hi
        show slices_IndexFunc_int64_int64_AT_impl_Field_has_1.l0d l (l.length : Int) (i : Int) m q = _
        rw [slices_IndexFunc_int64_int64_AT_impl_Field_has_1.l0d_eq, if_pos (by omega), if_pos (by omega), if_pos (by omega), i_has_1_v h, bind_some', wrS hi hl])
  have e' : slices_IndexFunc_int64_int64_AT_impl_Field_has_1.l0d l (l.length : Int) 0 m q = some v := e
  rw [e', bind_some', bind_some', c, Bool.not_not]
  congr 1
  rw [← all_get]
  apply decide_eq_decide.mpr
  simp only [Bool.not_eq_false']
end Go.Proofs.Ytbgbblgdbcjibaa.P
end
section
namespace Go.Proofs.Ytbgbblgdbcjibaa.P
open Go.RowKit Go.Proofs.YtbgbblgdbcjibaaW.PrintWords Go.Proofs.YtbgbblgdbcjibaaW.PrintLast Go.Proofs.YtbgbblgdbcjibaaW.PrintMore
set_option linter.unusedVariables false
set_option linter.unusedSimpArgs false
theorem s_l03Elements_v {m p : Int} (h : validB m p = true) (q : Int) {l : List Int} (hl : l.length ≤ 17592186044416) : spec_l03Elements.d m q l = some (l.all (elemB m)) := by
  have hb := pow_bound h
  rw [spec_l03Elements.d_eq]
  have := all_gen (F := fun i => spec_l03Elements.l0d l i m q) (n := l.length) (q := fun i => elemB m (rd l (i : Int)))
    (by show spec_l03Elements.l0d l (l.length : Int) m q = _
        rw [spec_l03Elements.l0d_eq, if_neg (by omega)])
    (by intro i hi
        show spec_l03Elements.l0d l (i : Int) m q = _
        have e : spec_l00In.f (rd l (i : Int)) 0 (2 ^ m.toNat - 1) = some (elemB m (rd l (i : Int))) := by
          unfold spec_l00In.f elemB
          by_cases c : rd l (i : Int) ≥ 0
          · rw [if_pos c]
            simp only [decide_eq_true (show 0 ≤ rd l (i : Int) from c), Bool.true_and]
            congr 1
            apply decide_eq_decide.mpr; omega
          · rw [if_neg c]
            simp only [decide_eq_false (show ¬ 0 ≤ rd l (i : Int) from c), Bool.false_and]
        rw [spec_l03Elements.l0d_eq, if_pos (by omega), if_pos (by omega), s_l01Size_v h, bind_some', wr (by omega) (by omega), e, bind_some', wrS hi hl])
  have this' : spec_l03Elements.l0d l 0 m q = some (decide (∀ i, i < l.length → elemB m (rd l (i : Int)) = true)) := this
  rw [this']
  congr 1
  exact all_get
def linB (m : Int) (l : List Int) : Bool := (decide (l.length ≤ 12) && l.all (elemB m)) && (decide (l.length = 0) || decide (rd l ((l.length : Int) - 1) ≠ 0))
theorem last_v {l : List Int} (hl : l.length ≤ 12) : (if (l.length : Int) = 0 then (some true) else (if 0 ≤ (wrap64 ((l.length : Int) - 1)) then (if (wrap64 ((l.length : Int) - 1)) < (l.length : Int) then (some ((rd l (wrap64 ((l.length : Int) - 1))) != 0)) else (none)) else (none))) = some (decide (l.length = 0) || decide (rd l ((l.length : Int) - 1) ≠ 0)) := by
  by_cases h : l.length = 0
  · rw [if_pos (by omega), decide_eq_true h]; rfl
  · rw [if_neg (by omega), wr (by omega) (by omega), if_pos (by omega), if_pos (by omega), decide_eq_false h, Bool.false_or]
    congr 1
    by_cases z : rd l ((l.length : Int) - 1) = 0
    · simp [z]
    · simp [z]
theorem s_l03Ok_v {m p : Int} (h : validB m p = true) (q : Int) {l : List Int} (hl : l.length ≤ 1048576) : spec_l03Ok.d m q l = some (linB m l) := by
  rw [spec_l03Ok.d_eq]
  unfold linB
  by_cases c : l.length ≤ 12
  · rw [if_pos (by omega), s_l03Elements_v h q (by omega), bind_some', decide_eq_true c, Bool.true_and]
    by_cases e : l.all (elemB m) = true
    · rw [if_pos e, last_v c, e, Bool.true_and]
    · rw [if_neg e, Bool.eq_false_iff.mpr e, Bool.false_and]
  · rw [if_neg (by omega), decide_eq_false c]; rfl
theorem i_isLinear_v {m p : Int} (h : validB m p = true) (q : Int) {l : List Int} (hl : l.length ≤ 1048576) : impl_Field_isLinear.d m q l = some (linB m l) := by
  rw [impl_Field_isLinear.d_eq]
  unfold linB
  by_cases c : l.length ≤ 12
  · rw [if_pos (by omega), i_has_v h q (by omega), bind_some', decide_eq_true c, Bool.true_and]
    by_cases e : l.all (elemB m) = true
    · rw [if_pos e, last_v c, e, Bool.true_and]
    · rw [if_neg e, Bool.eq_false_iff.mpr e, Bool.false_and]
  · rw [if_neg (by omega), decide_eq_false c]; rfl
theorem s_ValidLinear_v (m p : Int) {l : List Int} (hl : l.length ≤ 1048576) : spec_ValidLinear.d m p l = some (validB m p && linB m l) := by
  rw [spec_ValidLinear.d_eq, s_l01Ok_v, bind_some']
  by_cases h : validB m p = true
  · rw [if_pos h, s_l03Ok_v h p hl, bind_some', h, Bool.true_and]
  · rw [if_neg h, Bool.eq_false_iff.mpr h]; rfl
theorem i_linearCode_v (m p : Int) {l : List Int} (hl : l.length ≤ 1048576) : impl_Field_linearCode.d m p [l] = some (if (validB m p && linB m l) = true then 0 else 1) := by
  rw [impl_Field_linearCode.d_eq, i_ValidField_v, bind_some']
  by_cases h : validB m p = true
  · rw [if_pos h, slices_ContainsFunc_int64_int64_AT_impl_Field_linearCode_1.d_eq, slices_IndexFunc_int64_int64_AT_impl_Field_linearCode_1.d_eq, slices_IndexFunc_int64_int64_AT_impl_Field_linearCode_1.l0d_eq, if_pos (by simp), if_pos (by omega), if_pos (by simp), h, Bool.true_and]
    have hq : impl_Field_linearCode_1.d l m p = some (!(linB m l)) := by
      rw [impl_Field_linearCode_1.d_eq, i_isLinear_v h p hl, bind_some']
    have hq' : ∀ x, x = l → impl_Field_linearCode_1.d x m p = some (!(linB m l)) := fun x e => by rw [e, hq]
    rw [hq' _ (by rfl), bind_some']
    by_cases c : linB m l = true
    · rw [if_neg (by simp [c]), slices_IndexFunc_int64_int64_AT_impl_Field_linearCode_1.l0d_eq, if_neg (by rw [wr (by omega) (by omega)]; simp), bind_some', bind_some', if_neg (by decide), if_pos c]
    · rw [if_pos (by simp [c]), bind_some', bind_some', if_pos (by decide), if_neg c]
  · rw [if_neg h, Bool.eq_false_iff.mpr h]; rfl
end Go.Proofs.Ytbgbblgdbcjibaa.P
end
section
namespace Go.Proofs.Ytbgbblgdbcjibaa.P
open Go.RowKit Go.Proofs.YtbgbblgdbcjibaaW.PrintWords Go.Proofs.YtbgbblgdbcjibaaW.PrintLast Go.Proofs.YtbgbblgdbcjibaaW.PrintMore
set_option linter.unusedVariables false
set_option linter.unusedSimpArgs false
theorem s_mul_v {M P : Nat} (h : validB (M : Int) (P : Int) = true) {a b : Nat} (ha : a < 2 ^ M) (hb : b < 2 ^ M) : spec_l01Mul.d (M : Int) (P : Int) (a : Int) (b : Int) = some ((fmul M P a b : Nat) : Int) := by
  have hv := valid_bits h
  have hb5 : b < 2 ^ 5 := lt_mono hb hv.2.1
  have key : ∀ i, i ≤ M → spec_l01Mul.l0d (a : Int) (b : Int) ((clm a b i : Nat) : Int) (i : Int) (M : Int) (P : Int) = some ((fmul M P a b : Nat) : Int) := by
    apply down
    · rw [spec_l01Mul.l0d_eq, if_neg (by omega), spec_l01Rest.v hv.2.1 hv.2.2.1 hv.2.2.2 (clm_lt ha b M)]; rfl
    · intro i hi e
      have h1 : a * 2 ^ i < 2 ^ 10 := lt_mono (mul_pow_lt ha) (by omega)
      have h2 : clm a b i < 2 ^ 10 := lt_mono (clm_lt ha b i) (by omega)
      rw [spec_l01Mul.l0d_eq, if_pos (by omega), u64_id (by omega) (by omega), if_pos (by omega), bit_test (by omega) (by omega), wrS hi (by omega), ← e, clm]
      by_cases c : b.testBit i = true
      · rw [if_pos c, if_pos rfl, if_pos c, shl_nat (by omega) (by omega), bxor (by omega) (by omega)]
      · rw [if_neg c, if_neg (by decide), if_neg c, Nat.xor_zero]
  rw [spec_l01Mul.d_eq]
  exact key 0 (by omega)
end Go.Proofs.Ytbgbblgdbcjibaa.P
end
section
namespace Go.Proofs.Ytbgbblgdbcjibaa.P
open Go.RowKit Go.Proofs.YtbgbblgdbcjibaaW.PrintWords Go.Proofs.YtbgbblgdbcjibaaW.PrintLast Go.Proofs.YtbgbblgdbcjibaaW.PrintMore
set_option linter.unusedVariables false
set_option linter.unusedSimpArgs false
theorem s_sq_loop {M P : Nat} (h : validB (M : Int) (P : Int) = true) : ∀ (k : Nat) {x : Nat}, k ≤ 1000 → x < 2 ^ M → spec_l01Square.l0d (x : Int) (k : Int) (M : Int) (P : Int) = some ((fsq M P k x : Nat) : Int)
  | 0, x, _, hx => by rw [spec_l01Square.l0d_eq, if_neg (by omega)]; rfl
  | k + 1, x, hk, hx => by
    rw [spec_l01Square.l0d_eq, if_pos (by omega), s_mul_v h hx hx, bind_some', show wrap64 (((k + 1 : Nat) : Int) - 1) = (k : Int) by rw [wr (by omega) (by omega)]; omega]
    exact s_sq_loop h k (by omega) (fmul_lt h hx x)
theorem s_sq_v {M P : Nat} (h : validB (M : Int) (P : Int) = true) (k : Nat) {x : Nat} (hx : x < 2 ^ M) : spec_l01Square.d (M : Int) (P : Int) (x : Int) (k : Int) = some ((fsq M P (k % M) x : Nat) : Int) := by
  have hv := valid_bits h
  have := Nat.mod_lt k (show M > 0 by omega)
  rw [spec_l01Square.d_eq, if_neg (by omega), tmod_nat]
  exact s_sq_loop h (k % M) (by omega) hx
end Go.Proofs.Ytbgbblgdbcjibaa.P
end
section
namespace Go.Proofs.Ytbgbblgdbcjibaa.P
open Go.RowKit Go.Proofs.YtbgbblgdbcjibaaW.PrintWords Go.Proofs.YtbgbblgdbcjibaaW.PrintLast Go.Proofs.YtbgbblgdbcjibaaW.PrintMore
set_option linter.unusedVariables false
set_option linter.unusedSimpArgs false
theorem s_value3_v {M P : Nat} (h : validB (M : Int) (P : Int) = true) {pn : List Nat} (hl : pn.length ≤ 1048576) (hp : ∀ y ∈ pn, y < 2 ^ M) {x : Nat} (hx : x < 2 ^ M) :
    spec_l03Value.d (M : Int) (P : Int) (up pn) (x : Int) = some ((fval M P pn x pn.length : Nat) : Int) := by
  have hv := valid_bits h
  have key : ∀ i, i ≤ pn.length → spec_l03Value.l0d (up pn) (x : Int) ((fval M P pn x i : Nat) : Int) (i : Int) (M : Int) (P : Int) = some ((fval M P pn x pn.length : Nat) : Int) := by
    apply down
    · rw [spec_l03Value.l0d_eq, if_neg (by rw [up_length]; omega)]
    · intro i hi e
      have h1 := hp _ (getD_mem hi)
      have h2 := fsq_lt h (i % M) hx
      have h3 := small62 (by omega) (fval_lt h hp x i (by omega))
      have h4 := small62 (by omega) (fmul_lt h h1 (fsq M P (i % M) x))
      rw [spec_l03Value.l0d_eq, if_pos (by rw [up_length]; omega), if_pos (by omega), s_sq_v h i hx, bind_some', up_getD hi, s_mul_v h h1 h2, bind_some', bxor h3 h4, wrS hi (by omega), ← e, fval]
  rw [spec_l03Value.d_eq]
  exact key 0 (by omega)
end Go.Proofs.Ytbgbblgdbcjibaa.P
end
section
namespace Go.Proofs.Ytbgbblgdbcjibaa.P
open Go.RowKit Go.Proofs.YtbgbblgdbcjibaaW.PrintWords Go.Proofs.YtbgbblgdbcjibaaW.PrintLast Go.Proofs.YtbgbblgdbcjibaaW.PrintMore
set_option linter.unusedVariables false
set_option linter.unusedSimpArgs false
def listCode (m p : Int) (l : List Int) : Int := if validB m p = true then (if l.all (elemB m) = true then 0 else 2) else 1
theorem s_list_v (m p : Int) {l : List Int} (hl : l.length ≤ 1048576) : spec_l01List.d m p l = some (listCode m p l) := by
  rw [spec_l01List.d_eq, s_l01Ok_v, bind_some']
  unfold listCode
  by_cases h : validB m p = true
  · rw [if_pos h, if_pos h]
    have hb := pow_bound h
    have key : ∀ i, i ≤ l.length → spec_l01List.l0d l (i : Int) m p = some (if (l.drop i).all (elemB m) = true then 0 else 2) := by
      apply down
      · rw [spec_l01List.l0d_eq, if_neg (by omega), List.drop_length]; rfl
      · intro i hi ih
        have e : spec_l00In.f (rd l (i : Int)) 0 (2 ^ m.toNat - 1) = some (elemB m (rd l (i : Int))) := by
          unfold spec_l00In.f elemB
          by_cases c : rd l (i : Int) ≥ 0
          · rw [if_pos c]
            simp only [decide_eq_true (show 0 ≤ rd l (i : Int) from c), Bool.true_and]
            congr 1
            apply decide_eq_decide.mpr; omega
          · rw [if_neg c]
            simp only [decide_eq_false (show ¬ 0 ≤ rd l (i : Int) from c), Bool.false_and]
        rw [spec_l01List.l0d_eq, if_pos (by omega), if_pos (by omega), s_l01Size_v h, bind_some', wr (by omega) (by omega), e, bind_some', wrS hi (by omega), ih, List.drop_eq_getElem_cons hi, List.all_cons, rd_get hi]
        by_cases c : elemB m l[i] = true
        · rw [if_pos c, c, Bool.true_and]
        · rw [if_neg c, Bool.eq_false_iff.mpr c, Bool.false_and]; rfl
    have := key 0 (by omega)
    simpa using this
  · rw [if_neg h, if_neg h]
end Go.Proofs.Ytbgbblgdbcjibaa.P
end
section
namespace Go.Proofs.Ytbgbblgdbcjibaa.P
open Go.RowKit Go.Proofs.YtbgbblgdbcjibaaW.PrintWords Go.Proofs.YtbgbblgdbcjibaaW.PrintLast Go.Proofs.YtbgbblgdbcjibaaW.PrintMore
set_option linter.unusedVariables false
set_option linter.unusedSimpArgs false
theorem xor4 (a b c d : Nat) : (a ^^^ b) ^^^ (c ^^^ d) = (a ^^^ c) ^^^ (b ^^^ d) := by
  rw [Nat.xor_assoc, Nat.xor_assoc, ← Nat.xor_assoc b, Nat.xor_comm b c, Nat.xor_assoc]
end Go.Proofs.Ytbgbblgdbcjibaa.P
end
section
namespace Go.Proofs.Ytbgbblgdbcjibaa.P
open Go.RowKit Go.Proofs.YtbgbblgdbcjibaaW.PrintWords Go.Proofs.YtbgbblgdbcjibaaW.PrintLast Go.Proofs.YtbgbblgdbcjibaaW.PrintMore
set_option linter.unusedVariables false
set_option linter.unusedSimpArgs false
/-- the sum of those of the first i elements whose indices are bits of n -/
def cs (l : List Nat) (n : Nat) : Nat → Nat
  | 0 => 0
  | i + 1 => if n.testBit i = true then cs l n i ^^^ l.getD i 0 else cs l n i
theorem getD_lt {l : List Nat} {M : Nat} (h : ∀ y ∈ l, y < 2 ^ M) (i : Nat) : l.getD i 0 < 2 ^ M := by
  by_cases d : i < l.length
  · have : l.getD i 0 = l[i] := by simp [List.getD, d]
    rw [this]; exact h _ (List.getElem_mem d)
  · have : l.getD i 0 = 0 := by simp [List.getD, List.getElem?_eq_none (show l.length ≤ i by omega)]
    rw [this]; exact Nat.two_pow_pos M
theorem cs_lt {l : List Nat} {M : Nat} (h : ∀ y ∈ l, y < 2 ^ M) (n : Nat) : ∀ i, cs l n i < 2 ^ M
  | 0 => Nat.two_pow_pos M
  | i + 1 => by
    show (if _ then _ else _) < _
    by_cases c : n.testBit i = true
    · rw [if_pos c]; exact Nat.xor_lt_two_pow (cs_lt h n i) (getD_lt h i)
    · rw [if_neg c]; exact cs_lt h n i
theorem cs_0 (l : List Nat) : ∀ i, cs l 0 i = 0
  | 0 => rfl
  | i + 1 => by
    show (if (0 : Nat).testBit i = true then _ else _) = _
    rw [if_neg (by simp)]; exact cs_0 l i
theorem cs_xor (l : List Nat) (a b : Nat) : ∀ i, cs l (a ^^^ b) i = cs l a i ^^^ cs l b i
  | 0 => by show 0 = 0 ^^^ 0; rw [Nat.xor_self]
  | i + 1 => by
    show (if (a ^^^ b).testBit i = true then cs l (a ^^^ b) i ^^^ l.getD i 0 else cs l (a ^^^ b) i) = (if a.testBit i = true then cs l a i ^^^ l.getD i 0 else cs l a i) ^^^ (if b.testBit i = true then cs l b i ^^^ l.getD i 0 else cs l b i)
    rw [cs_xor l a b i, Nat.testBit_xor]
    cases a.testBit i <;> cases b.testBit i <;> simp
    · rw [Nat.xor_assoc]
    · rw [Nat.xor_assoc, Nat.xor_assoc, Nat.xor_comm (cs l b i)]
    · rw [xor4 (cs l a i) (l[i]?.getD 0), Nat.xor_self, Nat.xor_zero]
/-- a basis: as many as the degree, and no sum but the empty one is 0 -/
def isB (M : Nat) (l : List Nat) : Prop := l.length = M ∧ ∀ n, 0 < n → n < 2 ^ M → cs l n l.length ≠ 0
theorem isB_inj {M : Nat} {l : List Nat} (h : isB M l) {a b : Nat} (ha : a < 2 ^ M) (hb : b < 2 ^ M) (e : cs l a l.length = cs l b l.length) : a = b := by
  by_cases c : a = b
  · exact c
  · exfalso
    have z : a ^^^ b ≠ 0 := fun z => c (by
      have t := congrArg (fun z => z ^^^ b) z
      simpa [Nat.xor_assoc] using t)
    exact h.2 (a ^^^ b) (Nat.pos_of_ne_zero z) (Nat.xor_lt_two_pow ha hb) (by rw [cs_xor, e, Nat.xor_self])
theorem pigeon : ∀ (n : Nat) (f : Nat → Nat), (∀ i, i < n → f i < n) → (∀ i j, i < n → j < n → f i = f j → i = j) → ∀ a, a < n → ∃ i, i < n ∧ f i = a
  | 0, _, _, _, a, ha => absurd ha (Nat.not_lt_zero a)
  | n + 1, f, h1, h2, a, ha => by
    by_cases c : ∃ i0, i0 < n + 1 ∧ f i0 = n
    · obtain ⟨i0, hi0, e0⟩ := c
      have g1 : ∀ i, i < n → (if i = i0 then f n else f i) < n := by
        intro i hi
        by_cases d : i = i0
        · rw [if_pos d]
          have := h1 n (by omega)
          have ne : f n ≠ n := fun z => by
            have := h2 n i0 (by omega) hi0 (z.trans e0.symm)
            omega
          omega
        · rw [if_neg d]
          have := h1 i (by omega)
          have ne : f i ≠ n := fun z => d (h2 i i0 (by omega) hi0 (z.trans e0.symm))
          omega
      have g2 : ∀ i j, i < n → j < n → (if i = i0 then f n else f i) = (if j = i0 then f n else f j) → i = j := by
        intro i j hi hj e
        by_cases d : i = i0
        · by_cases d' : j = i0
          · omega
          · rw [if_pos d, if_neg d'] at e
            have := h2 n j (by omega) (by omega) e
            omega
        · by_cases d' : j = i0
          · rw [if_neg d, if_pos d'] at e
            have := h2 i n (by omega) (by omega) e
            omega
          · rw [if_neg d, if_neg d'] at e
            exact h2 i j (by omega) (by omega) e
      by_cases ea : a = n
      · exact ⟨i0, hi0, by rw [e0, ea]⟩
      · obtain ⟨i, hi, e⟩ := pigeon n (fun i => if i = i0 then f n else f i) g1 g2 a (by omega)
        by_cases d : i = i0
        · exact ⟨n, by omega, by simpa [d] using e⟩
        · exact ⟨i, by omega, by simpa [d] using e⟩
    · exfalso
      have ne : ∀ i, i < n + 1 → f i ≠ n := fun i hi e => c ⟨i, hi, e⟩
      obtain ⟨i, hi, e⟩ := pigeon n f (fun i hi => by have := h1 i (by omega); have := ne i (by omega); omega) (fun i j hi hj e => h2 i j (by omega) (by omega) e) (f n) (by have := h1 n (by omega); have := ne n (by omega); omega)
      have := h2 i n (by omega) (by omega) e
      omega
theorem isB_hit {M : Nat} {l : List Nat} (h : isB M l) (hl : ∀ y ∈ l, y < 2 ^ M) {a : Nat} (ha : a < 2 ^ M) : ∃ n, n < 2 ^ M ∧ cs l n l.length = a :=
  pigeon (2 ^ M) (fun n => cs l n l.length) (fun i _ => cs_lt hl i _) (fun i j hi hj e => isB_inj h hi hj e) a ha
end Go.Proofs.Ytbgbblgdbcjibaa.P
end
section
namespace Go.Proofs.Ytbgbblgdbcjibaa.P
open Go.RowKit Go.Proofs.YtbgbblgdbcjibaaW.PrintWords Go.Proofs.YtbgbblgdbcjibaaW.PrintLast Go.Proofs.YtbgbblgdbcjibaaW.PrintMore
set_option linter.unusedVariables false
set_option linter.unusedSimpArgs false
theorem i_sum_v {l : List Nat} {M : Nat} (hM : M ≤ 60) (hl : ∀ y ∈ l, y < 2 ^ M) (h60 : l.length ≤ 60) {n : Nat} (hn : n < 9223372036854775808) : impl_sumOf.d (up l) (n : Int) = some ((cs l n l.length : Nat) : Int) := by
  have key : ∀ i, i ≤ l.length → impl_sumOf.l0d (n : Int) ((cs l n i : Nat) : Int) (up l) ((up l).length : Int) (i : Int) = some ((cs l n l.length : Nat) : Int) := by
    apply down
    · rw [impl_sumOf.l0d_eq, if_neg (by rw [up_length]; omega)]
    · intro i hi ih
      have z1 : (i : Int) < ((up l).length : Int) := by rw [up_length]; exact Int.ofNat_lt.mpr hi
      rw [impl_sumOf.l0d_eq, if_pos z1, if_pos (Int.natCast_nonneg i), if_pos z1, bit_test hn (by omega), wrS hi (by omega)]
      by_cases c : n.testBit i = true
      · have e : cs l n (i + 1) = cs l n i ^^^ l.getD i 0 := if_pos c
        rw [e] at ih
        rw [if_pos c, if_pos rfl, up_getD hi, bxor (small62 (by omega) (cs_lt hl n i)) (small62 (by omega) (getD_lt hl i)), ih]
      · have e : cs l n (i + 1) = cs l n i := if_neg c
        rw [e] at ih
        rw [if_neg c, if_neg (by decide), ih]
  rw [impl_sumOf.d_eq]
  exact key 0 (by omega)
theorem s_sum_v {l : List Nat} {M : Nat} (hM : M ≤ 60) (hl : ∀ y ∈ l, y < 2 ^ M) (h60 : l.length ≤ 60) {n : Nat} (hn : n < 9223372036854775808) : spec_l01Sum.d (up l) (n : Int) = some ((cs l n l.length : Nat) : Int) := by
  have key : ∀ i, i ≤ l.length → spec_l01Sum.l0d (up l) (n : Int) ((cs l n i : Nat) : Int) (i : Int) = some ((cs l n l.length : Nat) : Int) := by
    apply down
    · rw [spec_l01Sum.l0d_eq, if_neg (by rw [up_length]; omega)]
    · intro i hi ih
      have z1 : (i : Int) < ((up l).length : Int) := by rw [up_length]; exact Int.ofNat_lt.mpr hi
      have u : IntKind.u64.wrap (i : Int) = (i : Int) := u64_id (by omega) (by omega)
      rw [spec_l01Sum.l0d_eq, if_pos z1, u, if_pos (Int.natCast_nonneg i), bit_test hn (by omega), wrS hi (by omega)]
      by_cases c : n.testBit i = true
      · have e : cs l n (i + 1) = cs l n i ^^^ l.getD i 0 := if_pos c
        rw [e] at ih
        rw [if_pos c, if_pos rfl, if_pos (Int.natCast_nonneg i), up_getD hi, bxor (small62 (by omega) (cs_lt hl n i)) (small62 (by omega) (getD_lt hl i)), ih]
      · have e : cs l n (i + 1) = cs l n i := if_neg c
        rw [e] at ih
        rw [if_neg c, if_neg (by decide), ih]
  rw [spec_l01Sum.d_eq]
  exact key 0 (by omega)
theorem siz_v {M Q : Nat} (h : validB (M : Int) (Q : Int) = true) {q : Int} : spec_l01Size.f (M : Int) q = some ((2 ^ M : Nat) : Int) := by
  rw [s_l01Size_v h, Int.toNat_natCast]; simp
theorem up_zer (n : Nat) : List.replicate n (0 : Int) = up (List.replicate n 0) := by simp [up]
theorem p31 {M P : Nat} (h : validB (M : Int) (P : Int) = true) : 2 ^ M ≤ 32 := by
  have hv := valid_bits h
  have : 2 ^ M ≤ 2 ^ 5 := Nat.pow_le_pow_right (by omega) hv.2.1
  exact this
theorem s_basis_len {m p : Int} {l : List Int} (h : ¬ (l.length : Int) = m) : spec_l01Basis.d m p l = some false := by rw [spec_l01Basis.d_eq, if_neg h]
theorem s_basis_loop {M P : Nat} (h : validB (M : Int) (P : Int) = true) {l : List Nat} (hl : ∀ y ∈ l, y < 2 ^ M) (hM : l.length = M) :
    ((∀ n, 0 < n → n < 2 ^ M → cs l n l.length ≠ 0) → spec_l01Basis.d (M : Int) (P : Int) (up l) = some true) ∧ ((∃ n, 0 < n ∧ n < 2 ^ M ∧ cs l n l.length = 0) → spec_l01Basis.d (M : Int) (P : Int) (up l) = some false) := by
  have hv := valid_bits h
  have p5 := p31 h
  have p1 := Nat.two_pow_pos M
  have st : spec_l01Basis.d (M : Int) (P : Int) (up l) = spec_l01Basis.l0d (up l) ((1 : Nat) : Int) (M : Int) (P : Int) := by rw [spec_l01Basis.d_eq, if_pos (by rw [up_length]; omega)]; rfl
  have one : ∀ i : Nat, i < 2 ^ M → spec_l01Basis.l0d (up l) (i : Int) (M : Int) (P : Int) = if cs l i l.length = 0 then some false else spec_l01Basis.l0d (up l) ((i + 1 : Nat) : Int) (M : Int) (P : Int) := by
    intro i hi
    rw [spec_l01Basis.l0d_eq, siz_v h, bind_some', if_pos (by omega), s_sum_v (M := M) (by omega) hl (by omega) (by omega), bind_some', wrS hi (by omega)]
    by_cases z : cs l i l.length = 0
    · rw [if_pos (by omega), if_pos z]
    · rw [if_neg (by omega), if_neg z]
  have last : spec_l01Basis.l0d (up l) ((2 ^ M : Nat) : Int) (M : Int) (P : Int) = some true := by rw [spec_l01Basis.l0d_eq, siz_v h, bind_some', if_neg (by omega)]
  rw [st]
  constructor
  · intro hb
    have key : ∀ i : Nat, i ≤ 2 ^ M → 0 < i → spec_l01Basis.l0d (up l) (i : Int) (M : Int) (P : Int) = some true := by
      apply down (Q := fun i => 0 < i → spec_l01Basis.l0d (up l) (i : Int) (M : Int) (P : Int) = some true)
      · intro _; exact last
      · intro i hi ih h0
        rw [one i hi, if_neg (hb i h0 hi)]; exact ih (by omega)
    exact key 1 (by omega) (by omega)
  · intro hb
    have key : ∀ i : Nat, i ≤ 2 ^ M → (∃ n, i ≤ n ∧ n < 2 ^ M ∧ cs l n l.length = 0) → spec_l01Basis.l0d (up l) (i : Int) (M : Int) (P : Int) = some false := by
      apply down (Q := fun i => (∃ n, i ≤ n ∧ n < 2 ^ M ∧ cs l n l.length = 0) → spec_l01Basis.l0d (up l) (i : Int) (M : Int) (P : Int) = some false)
      · rintro ⟨n, h1, h2, _⟩; omega
      · rintro i hi ih ⟨n, h1, h2, h3⟩
        rw [one i hi]
        by_cases z : cs l i l.length = 0
        · rw [if_pos z]
        · rw [if_neg z]
          exact ih ⟨n, by
            by_cases e : i = n
            · rw [e] at z; exact absurd h3 z
            · omega, h2, h3⟩
    obtain ⟨n, h1, h2, h3⟩ := hb
    exact key 1 (by omega) ⟨n, h1, h2, h3⟩
/-- the numbers met so far, the latest first -/
def metN (l : List Nat) (i : Nat) : List Int := (List.range i).reverse.map fun j => ((cs l j l.length : Nat) : Int)
theorem metN_succ (l : List Nat) (i : Nat) : ((cs l i l.length : Nat) : Int) :: metN l i = metN l (i + 1) := by simp [metN, List.range_succ]
theorem metN_mem (l : List Nat) (i t : Nat) : (metN l i).contains (t : Int) = true ↔ ∃ j, j < i ∧ cs l j l.length = t := by
  rw [List.contains_iff_mem]
  unfold metN
  constructor
  · intro h
    obtain ⟨j, hj, e⟩ := List.mem_map.mp h
    rw [List.mem_reverse, List.mem_range] at hj
    exact ⟨j, hj, by omega⟩
  · rintro ⟨j, hj, e⟩
    exact List.mem_map.mpr ⟨j, by rw [List.mem_reverse, List.mem_range]; exact hj, by rw [e]⟩
theorem metN_len (l : List Nat) (i : Nat) : (metN l i).length = i := by simp [metN]
theorem coord_step {M P : Nat} (h : validB (M : Int) (P : Int) = true) {l : List Nat} (hl : ∀ y ∈ l, y < 2 ^ M) (hM : l.length = M) {on : List Nat} (ho : on.length = 2 ^ M) {i : Nat} (hi : i < 2 ^ M) :
    impl_Field_coordinates.l0d (up l) (up on) (metN l i) ((2 ^ M : Nat) : Int) (i : Int) = if (metN l i).contains ((cs l i l.length : Nat) : Int) = true then some [] else impl_Field_coordinates.l0d (up l) (up (on.set (cs l i l.length) i)) (metN l (i + 1)) ((2 ^ M : Nat) : Int) ((i + 1 : Nat) : Int) := by
  have hv := valid_bits h
  have p5 := p31 h
  have lt := cs_lt hl i l.length
  have g : ((cs l i l.length : Nat) : Int) < ((up on).length : Int) := by rw [up_length, ho]; omega
  rw [impl_Field_coordinates.l0d_eq, if_pos (by omega), i_sum_v (M := M) (by omega) hl (by omega) (by omega), bind_some', if_pos (Int.natCast_nonneg _), if_pos g, wrS hi (by omega), metN_succ, if_pos (show (metN l i).length < 1000000 by rw [metN_len]; omega), Int.toNat_natCast, up_set]
theorem coord_start {M P : Nat} (h : validB (M : Int) (P : Int) = true) {l : List Nat} (hM : l.length = M) : impl_Field_coordinates.d (M : Int) (P : Int) (up l) = impl_Field_coordinates.l0d (up l) (up (List.replicate (2 ^ M) 0)) (metN l 0) ((2 ^ M : Nat) : Int) ((0 : Nat) : Int) := by
  have p5 := p31 h
  have p1 := Nat.two_pow_pos M
  have e : ((2 ^ M : Nat) : Int) = (2 : Int) ^ M := by simp
  rw [impl_Field_coordinates.d_eq, if_pos (by rw [up_length]; omega), i_count_v h, bind_some', Int.toNat_natCast, ← e, if_pos (by omega), Int.toNat_natCast, if_pos (by omega), up_zer]
  rfl
theorem coord_no {M P : Nat} (h : validB (M : Int) (P : Int) = true) {l : List Nat} (hl : ∀ y ∈ l, y < 2 ^ M) (hM : l.length = M) (hb : ∃ n, 0 < n ∧ n < 2 ^ M ∧ cs l n l.length = 0) : impl_Field_coordinates.d (M : Int) (P : Int) (up l) = some [] := by
  have key : ∀ i : Nat, i ≤ 2 ^ M → ∀ on : List Nat, on.length = 2 ^ M → (∃ n, i ≤ n ∧ n < 2 ^ M ∧ ∃ j, j < n ∧ cs l j l.length = cs l n l.length) → impl_Field_coordinates.l0d (up l) (up on) (metN l i) ((2 ^ M : Nat) : Int) (i : Int) = some [] := by
    apply down (Q := fun i => ∀ on : List Nat, on.length = 2 ^ M → (∃ n, i ≤ n ∧ n < 2 ^ M ∧ ∃ j, j < n ∧ cs l j l.length = cs l n l.length) → impl_Field_coordinates.l0d (up l) (up on) (metN l i) ((2 ^ M : Nat) : Int) (i : Int) = some [])
    · rintro on _ ⟨n, h1, h2, _⟩; omega
    · rintro i hi ih on ho ⟨n, h1, h2, j, h3, h4⟩
      rw [coord_step h hl hM ho hi]
      by_cases c : (metN l i).contains ((cs l i l.length : Nat) : Int) = true
      · rw [if_pos c]
      · rw [if_neg c]
        refine ih _ (by rw [List.length_set]; exact ho) ⟨n, ?_, h2, j, h3, h4⟩
        by_cases e : i = n
        · exact absurd ((metN_mem l i _).mpr ⟨j, by omega, by rw [h4, e]⟩) c
        · omega
  obtain ⟨n, h1, h2, h3⟩ := hb
  rw [coord_start h hM]
  exact key 0 (Nat.zero_le _) _ (by simp) ⟨n, Nat.zero_le _, h2, 0, h1, by rw [cs_0, h3]⟩
theorem coord_yes {M P : Nat} (h : validB (M : Int) (P : Int) = true) {l : List Nat} (hl : ∀ y ∈ l, y < 2 ^ M) (hb : isB M l) : ∃ on : List Nat, on.length = 2 ^ M ∧ (∀ n, n < 2 ^ M → on.getD (cs l n l.length) 0 = n) ∧ impl_Field_coordinates.d (M : Int) (P : Int) (up l) = some (up on) := by
  have key : ∀ i : Nat, i ≤ 2 ^ M → ∀ on : List Nat, on.length = 2 ^ M → (∀ n, n < i → on.getD (cs l n l.length) 0 = n) → ∃ rn : List Nat, rn.length = 2 ^ M ∧ (∀ n, n < 2 ^ M → rn.getD (cs l n l.length) 0 = n) ∧ impl_Field_coordinates.l0d (up l) (up on) (metN l i) ((2 ^ M : Nat) : Int) (i : Int) = some (up rn) := by
    apply down (Q := fun i => ∀ on : List Nat, on.length = 2 ^ M → (∀ n, n < i → on.getD (cs l n l.length) 0 = n) → ∃ rn : List Nat, rn.length = 2 ^ M ∧ (∀ n, n < 2 ^ M → rn.getD (cs l n l.length) 0 = n) ∧ impl_Field_coordinates.l0d (up l) (up on) (metN l i) ((2 ^ M : Nat) : Int) (i : Int) = some (up rn))
    · intro on ho h1
      exact ⟨on, ho, h1, by rw [impl_Field_coordinates.l0d_eq, if_neg (by omega)]⟩
    · intro i hi ih on ho h1
      have lt := cs_lt hl i l.length
      have c : ¬ (metN l i).contains ((cs l i l.length : Nat) : Int) = true := by
        rw [metN_mem]
        rintro ⟨j, hj, e⟩
        have := isB_inj hb (show j < 2 ^ M by omega) hi e
        omega
      obtain ⟨rn, r1, r2, r3⟩ := ih (on.set (cs l i l.length) i) (by rw [List.length_set]; exact ho) (fun n hn => by
        by_cases e : cs l n l.length = cs l i l.length
        · have := isB_inj hb (show n < 2 ^ M by omega) hi e
          rw [e, this]
          simp [List.getD, ho, lt]
        · have := h1 n (by
            by_cases e' : n = i
            · rw [e'] at e; exact absurd rfl e
            · omega)
          have e'' : cs l i l.length ≠ cs l n l.length := fun z => e z.symm
          refine Eq.trans ?_ this
          simp [List.getD, List.getElem?_set_ne e''])
      exact ⟨rn, r1, r2, by rw [coord_step h hl hb.1 ho hi, if_neg c]; exact r3⟩
  rw [coord_start h hb.1]
  exact key 0 (Nat.zero_le _) _ (by simp) (fun n hn => absurd hn (Nat.not_lt_zero n))
end Go.Proofs.Ytbgbblgdbcjibaa.P
end
section
namespace Go.Proofs.Ytbgbblgdbcjibaa.P
open Go.RowKit Go.Proofs.YtbgbblgdbcjibaaW.PrintWords Go.Proofs.YtbgbblgdbcjibaaW.PrintLast Go.Proofs.YtbgbblgdbcjibaaW.PrintMore
set_option linter.unusedVariables false
set_option linter.unusedSimpArgs false
end Go.Proofs.Ytbgbblgdbcjibaa.P
end
section
namespace Go.Proofs.Ytbgbblgdbcjibaa.P
open Go.RowKit Go.Proofs.YtbgbblgdbcjibaaW.PrintWords Go.Proofs.YtbgbblgdbcjibaaW.PrintLast Go.Proofs.YtbgbblgdbcjibaaW.PrintMore
set_option linter.unusedVariables false
set_option linter.unusedSimpArgs false
theorem base_v {M P : Nat} (h : validB (M : Int) (P : Int) = true) {ln : List Nat} (hl : ∀ y ∈ ln, y < 2 ^ M) :
    (isB M ln ∧ spec_l01Basis.d (M : Int) (P : Int) (up ln) = some true ∧ ∃ on : List Nat, on.length = 2 ^ M ∧ (∀ n, n < 2 ^ M → on.getD (cs ln n ln.length) 0 = n) ∧ impl_Field_coordinates.d (M : Int) (P : Int) (up ln) = some (up on)) ∨
    (spec_l01Basis.d (M : Int) (P : Int) (up ln) = some false ∧ impl_Field_coordinates.d (M : Int) (P : Int) (up ln) = some []) := by
  by_cases c : ln.length = M
  · obtain ⟨b1, b2⟩ := s_basis_loop h hl c
    by_cases d : ∃ n, 0 < n ∧ n < 2 ^ M ∧ cs ln n ln.length = 0
    · exact .inr ⟨b2 d, coord_no h hl c d⟩
    · have hb : isB M ln := ⟨c, fun n h0 h1 e => d ⟨n, h0, h1, e⟩⟩
      exact .inl ⟨hb, b1 hb.2, coord_yes h hl hb⟩
  · have c' : ¬ ((up ln).length : Int) = (M : Int) := by rw [up_length]; omega
    exact .inr ⟨s_basis_len c', by rw [impl_Field_coordinates.d_eq, if_neg c']⟩
theorem i_lcode_w (m p : Int) {l : List Int} (hl : l.length ≤ 17592186044416) : impl_Field_code.d m p true l = some (listCode m p l) := by
  rw [impl_Field_code.d_eq, i_ValidField_v, bind_some']
  unfold listCode
  by_cases h : validB m p = true
  · rw [if_pos h, if_pos h, i_has_v h p hl, bind_some']
    by_cases c : l.all (elemB m) = true
    · rw [if_pos c, if_pos c, if_pos rfl]
    · rw [if_neg c, if_neg c]
  · rw [if_neg h, if_neg h]
theorem i_bc_v (m p : Int) {l k : List Int} (hl : l.length ≤ 1048576) (hk : k.length ≤ 10) : impl_Field_basisCode.d m p l k = if listCode m p (l ++ k) = 0 then ((impl_Field_coordinates.d m p l).bind fun t => (if (t.length : Int) = 0 then (some 4) else (some 0))) else some (listCode m p (l ++ k)) := by
  have g : l.length + k.length < 17592186044416 := by omega
  rw [impl_Field_basisCode.d_eq]
  unfold slices_Clone_int64_int64.f
  rw [if_pos (by omega), bind_some', if_pos g, i_lcode_w m p (by rw [List.length_append]; omega), bind_some']
  by_cases c : listCode m p (l ++ k) = 0
  · rw [c]
  · rw [if_neg c, if_neg c]
end Go.Proofs.Ytbgbblgdbcjibaa.P
end
section
namespace Go.Proofs.Ytbgbblgdbcjibaa.P
open Go.RowKit Go.Proofs.YtbgbblgdbcjibaaW.PrintWords Go.Proofs.YtbgbblgdbcjibaaW.PrintLast Go.Proofs.YtbgbblgdbcjibaaW.PrintMore
set_option linter.unusedVariables false
set_option linter.unusedSimpArgs false
theorem s_coord_v {M P : Nat} (h : validB (M : Int) (P : Int) = true) {ln : List Nat} (hln : ∀ y ∈ ln, y < 2 ^ M) (hb : isB M ln) {n : Nat} (hn : n < 2 ^ M) : spec_l03Coordinates.d (up ln) ((cs ln n ln.length : Nat) : Int) = some (n : Int) := by
  have p5 := p31 h
  have M5 := (valid_bits h).2.1
  have hlen : ln.length ≤ 60 := by rw [hb.1]; omega
  have key : ∀ i : Nat, i ≤ n → spec_l03Coordinates.l0d (up ln) ((cs ln n ln.length : Nat) : Int) (i : Int) = some (n : Int) := by
    apply down
    · rw [spec_l03Coordinates.l0d_eq, s_sum_v (M := M) (by omega) hln hlen (by omega), bind_some', if_pos rfl]
    · intro i hi ih
      have ne : cs ln i ln.length ≠ cs ln n ln.length := fun z => by
        have := isB_inj hb (show i < 2 ^ M by omega) hn z
        omega
      rw [spec_l03Coordinates.l0d_eq, s_sum_v (M := M) (by omega) hln hlen (by omega), bind_some', if_neg (by omega), wrS hi (by omega), ih]
  rw [spec_l03Coordinates.d_eq]
  exact key 0 (Nat.zero_le _)
theorem i_vals_v {M P : Nat} (h : validB (M : Int) (P : Int) = true) {pn ln : List Nat} (hl : pn.length ≤ 12) (hp : ∀ y ∈ pn, y < 2 ^ M) (hln : ∀ y ∈ ln, y < 2 ^ M) (h5 : ln.length ≤ 5) :
    impl_Field_values.d (M : Int) (P : Int) (up pn) (up ln) = some (up (ln.map fun x => fval M P pn x pn.length)) := by
  have key : ∀ i : Nat, i ≤ ln.length → impl_Field_values.l0d (up pn) (up ((ln.take i).map fun x => fval M P pn x pn.length)) (up ln) ((up ln).length : Int) (i : Int) (M : Int) (P : Int) = some (up (ln.map fun x => fval M P pn x pn.length)) := by
    apply down
    · rw [impl_Field_values.l0d_eq, if_neg (by rw [up_length]; omega), List.take_length]
    · intro i hi ih
      have z1 : (i : Int) < ((up ln).length : Int) := by rw [up_length]; exact Int.ofNat_lt.mpr hi
      have g : (up ((ln.take i).map fun x => fval M P pn x pn.length)).length < 17592186044416 := by rw [up_length, List.length_map, List.length_take]; omega
      have e : up ((ln.take i).map fun x => fval M P pn x pn.length) ++ [((fval M P pn ln[i] pn.length : Nat) : Int)] = up ((ln.take (i + 1)).map fun x => fval M P pn x pn.length) := by
        rw [List.take_succ_eq_append_getElem hi, List.map_append, up_append]; rfl
      rw [impl_Field_values.l0d_eq, if_pos z1, if_pos (Int.natCast_nonneg i), if_pos z1, up_get hi, i_value_v h (by omega) hp (hln _ (List.getElem_mem hi)), bind_some', if_pos g, e, wrS hi (by omega), ih]
  rw [impl_Field_values.d_eq]
  exact key 0 (Nat.zero_le _)
theorem MatrixOfLinear_both (m p : Int) {l k : List Int} (hl : l.length ≤ 1048576) (hk : k.length ≤ 1048576) : ∃ r : Int × List Int × Int, (r.2.1.length ≤ 17592186044416) ∧ spec_MatrixOfLinear.d m p l k = some r ∧ impl_MatrixOfLinear.d m p l k = some r := by
  rw [spec_MatrixOfLinear.d_eq, impl_MatrixOfLinear.d_eq, s_ValidLinear_v m p hk, i_linearCode_v m p hk, bind_some', bind_some']
  by_cases c : (validB m p && linB m k) = true
  · rw [if_pos c, if_pos c, if_pos rfl, i_bc_v m p hl (by simp), List.append_nil, spec_l03Based.d_eq, s_list_v m p hl, bind_some']
    have c' := c
    rw [Bool.and_eq_true] at c'
    obtain ⟨hv, hb⟩ := c'
    by_cases lc : listCode m p l = 0
    · have ce : l.all (elemB m) = true := by
        by_cases c : l.all (elemB m) = true
        · exact c
        · unfold listCode at lc; rw [if_pos hv, if_neg c] at lc; cases lc
      rw [lc, if_pos rfl, if_pos rfl]
      obtain ⟨M, P, rfl, rfl, _, _⟩ := valid_nat hv
      obtain ⟨ln, rfl, hln⟩ := elems_up ce
      unfold linB at hb
      simp only [Bool.and_eq_true, decide_eq_true_eq] at hb
      obtain ⟨pn, rfl, hp⟩ := elems_up hb.1.2
      have l12 := hb.1.1
      rw [up_length] at l12
      have p5 := p31 hv
      have p1 := Nat.two_pow_pos M
      have M5 := (valid_bits hv).2.1
      rcases base_v hv hln with ⟨hB, s1, on, o1, o2, i1⟩ | ⟨s1, i1⟩
      · have g : ¬ ((up on).length : Int) = 0 := by rw [up_length, o1]; omega
        have hM : ln.length = M := hB.1
        have co : ∀ x ∈ ln, ∃ n, n < 2 ^ M ∧ cs ln n ln.length = fval M P pn x pn.length := fun x hx => isB_hit hB hln (fval_lt hv hp x pn.length (Nat.le_refl _))
        have co' : ∀ x, ∃ n, x ∈ ln → n < 2 ^ M ∧ cs ln n ln.length = fval M P pn x pn.length := fun x => by
          by_cases hx : x ∈ ln
          · obtain ⟨n, hn⟩ := co x hx; exact ⟨n, fun _ => hn⟩
          · exact ⟨0, fun z => absurd z hx⟩
        obtain ⟨C, hC⟩ : ∃ C : Nat → Nat, ∀ x, x ∈ ln → C x < 2 ^ M ∧ cs ln (C x) ln.length = fval M P pn x pn.length := ⟨fun x => (co' x).choose, fun x => (co' x).choose_spec⟩
        refine ⟨((M : Int), up (ln.map C), 0), by show (up _).length ≤ _; rw [up_length, List.length_map]; omega, ?_, ?_⟩
        · have key : ∀ i : Nat, i ≤ ln.length → spec_MatrixOfLinear.l0d (up ln) (up pn) (i : Int) (M : Int) (P : Int) (M : Int) (up ((ln.take i).map C)) = some ((M : Int), up (ln.map C), 0) := by
            apply down
            · rw [spec_MatrixOfLinear.l0d_eq, if_neg (by rw [up_length]; omega), List.take_length]
            · intro i hi ih
              have z1 : (i : Int) < ((up ln).length : Int) := by rw [up_length]; exact Int.ofNat_lt.mpr hi
              have hx := List.getElem_mem hi
              have e : up ((ln.take i).map C) ++ [((C ln[i] : Nat) : Int)] = up ((ln.take (i + 1)).map C) := by rw [List.take_succ_eq_append_getElem hi, List.map_append, up_append]; rfl
              have g4 : (up ((ln.take i).map C)).length < 17592186044416 := by rw [up_length, List.length_map, List.length_take]; omega
              rw [spec_MatrixOfLinear.l0d_eq, if_pos z1, if_pos (Int.natCast_nonneg i), up_get hi, s_value3_v hv (by omega) hp (hln _ hx), bind_some', ← (hC _ hx).2, s_coord_v hv hln hB (hC _ hx).1, bind_some', if_pos g4, e, wrS hi (by omega), ih]
          rw [s1, bind_some', if_pos rfl, bind_some', if_pos rfl]
          exact key 0 (Nat.zero_le _)
        · have key : ∀ i : Nat, i ≤ ln.length → impl_MatrixOfLinear.l0d (up on) (up (ln.map fun x => fval M P pn x pn.length)) ((up (ln.map fun x => fval M P pn x pn.length)).length : Int) (i : Int) (M : Int) (up ((ln.take i).map C)) = some ((M : Int), up (ln.map C), 0) := by
            apply down
            · rw [impl_MatrixOfLinear.l0d_eq, if_neg (by rw [up_length, List.length_map]; omega), List.take_length]
            · intro i hi ih
              have hi' : i < (ln.map fun x => fval M P pn x pn.length).length := by rw [List.length_map]; exact hi
              have z1 : (i : Int) < ((up (ln.map fun x => fval M P pn x pn.length)).length : Int) := by rw [up_length]; exact Int.ofNat_lt.mpr hi'
              have hx := List.getElem_mem hi
              have e : up ((ln.take i).map C) ++ [((C ln[i] : Nat) : Int)] = up ((ln.take (i + 1)).map C) := by rw [List.take_succ_eq_append_getElem hi, List.map_append, up_append]; rfl
              have g4 : (up ((ln.take i).map C)).length < 17592186044416 := by rw [up_length, List.length_map, List.length_take]; omega
              have fl := fval_lt hv hp ln[i] pn.length (Nat.le_refl _)
              have r1 : rd (up (ln.map fun x => fval M P pn x pn.length)) (i : Int) = ((fval M P pn ln[i] pn.length : Nat) : Int) := by rw [up_get hi', List.getElem_map]
              have g5 : ((fval M P pn ln[i] pn.length : Nat) : Int) < ((up on).length : Int) := by rw [up_length, o1]; omega
              have r2 : rd (up on) ((fval M P pn ln[i] pn.length : Nat) : Int) = ((C ln[i] : Nat) : Int) := by
                rw [up_getD (by rw [o1]; exact fl), ← (hC _ hx).2, o2 _ (hC _ hx).1]
              rw [impl_MatrixOfLinear.l0d_eq, if_pos z1, if_pos (Int.natCast_nonneg i), if_pos z1, r1, if_pos (Int.natCast_nonneg _), if_pos g5, if_pos g4, r2, e, wrS hi (by omega), ih]
          rw [i1, bind_some', if_neg g, bind_some', impl_MatrixOfLinear.j0d_eq, if_pos rfl, i1, bind_some', i_vals_v hv l12 hp hln (by omega), bind_some']
          exact key 0 (Nat.zero_le _)
      · refine ⟨(0, [], 4), by simp, ?_, ?_⟩
        · rw [s1, bind_some', if_neg Bool.false_ne_true, bind_some', if_neg (by decide)]
        · rw [i1, bind_some', if_pos (by simp), bind_some', impl_MatrixOfLinear.j0d_eq, if_neg (by decide)]
    · rw [if_neg lc, if_neg lc, bind_some', if_neg lc, bind_some', impl_MatrixOfLinear.j0d_eq, if_neg lc]
      exact ⟨_, by simp, rfl, rfl⟩
  · rw [if_neg c, if_neg c, if_neg (by decide), impl_MatrixOfLinear.j0d_eq, if_neg (by decide)]
    exact ⟨_, by simp, rfl, rfl⟩
theorem MatrixOfLinear_law (m p : Int) (l k : List Int) : laws_FnExactMatrixOfLinear.d m p l k = some true := by
  by_cases hl_all : ¬ (l.length ≤ 1048576 ∧ k.length ≤ 1048576)
  · by_cases z_l : l.length ≤ 1048576 <;> by_cases z_k : k.length ≤ 1048576 <;> first
    | (exfalso; omega)
    | (skip
       repeat' (first
         | with_reducible exact rfl
         | dsimp only
         | with_reducible refine bind_ok (eqInt64S_self (by omega)) ?_
         | with_reducible refine bind_ok (toInt64S_v (by omega)) ?_
         | with_reducible refine bind_ok (heldInt64S_v (by omega) (by omega) (by omega)) ?_
         | with_reducible refine bind_ok (markInt64S_v (by omega) (by omega) (by omega)) ?_
         | with_reducible refine some_bind_ok ?_
         | with_reducible refine ite_bind_t (by first | with_reducible exact rfl | omega) ?_
         | with_reducible refine ite_bind_f (by first | omega | decide | (simp; done)) ?_
         | with_reducible refine bind_assoc_ok ?_
         | with_reducible refine ite_t (by first | with_reducible exact rfl | omega) ?_
         | with_reducible refine ite_f (by first | omega | decide | (simp; done)) ?_
         | rw [laws_FnExactMatrixOfLinear.j0d_eq]
         | rw [laws_FnExactMatrixOfLinear.j1d_eq]
         | rw [laws_FnExactMatrixOfLinear.j2d_eq]
         | rw [laws_FnExactMatrixOfLinear.d_eq]
         | rw [laws_eqMatrix.d_eq]
         | unfold laws_toField.f
         | rw [laws_heldMatrix.d_eq]
         | rw [laws_markMatrix.d_eq]
         )
       done)
  obtain ⟨hl_l, hl_k⟩ := Classical.not_not.mp hl_all
  have key : ∃ r : Int × List Int × Int, (r.2.1.length ≤ 17592186044416) ∧ spec_MatrixOfLinear.d m p l k = some r ∧ impl_MatrixOfLinear.d m p l k = some r := by
    exact MatrixOfLinear_both m p hl_l hl_k
  obtain ⟨r, hb, hS, hI⟩ := key
  obtain ⟨r0, r1, r2⟩ := r
  simp only at hb
  repeat' (first
    | with_reducible exact rfl
    | dsimp only
    | refine bind_ok hS ?_
    | refine bind_ok hI ?_
    | with_reducible refine bind_ok (eqInt64S_self (by omega)) ?_
    | with_reducible refine bind_ok (toInt64S_v (by omega)) ?_
    | with_reducible refine bind_ok (heldInt64S_v (by omega) (by omega) (by omega)) ?_
    | with_reducible refine bind_ok (markInt64S_v (by omega) (by omega) (by omega)) ?_
    | with_reducible refine some_bind_ok ?_
    | with_reducible refine ite_bind_t (by first | with_reducible exact rfl | omega) ?_
    | with_reducible refine ite_bind_f (by first | omega | decide | (simp; done)) ?_
    | with_reducible refine bind_assoc_ok ?_
    | with_reducible refine ite_t (by first | with_reducible exact rfl | omega) ?_
    | with_reducible refine ite_f (by first | omega | decide | (simp; done)) ?_
    | rw [laws_FnExactMatrixOfLinear.j0d_eq]
    | rw [laws_FnExactMatrixOfLinear.j1d_eq]
    | rw [laws_FnExactMatrixOfLinear.j2d_eq]
    | rw [laws_FnExactMatrixOfLinear.d_eq]
    | rw [laws_eqMatrix.d_eq]
    | unfold laws_toField.f
    | rw [laws_heldMatrix.d_eq]
    | rw [laws_markMatrix.d_eq]
    )
end Go.Proofs.Ytbgbblgdbcjibaa.P
end
section
namespace Go.Proofs.Ytbgbblgdbcjibaa.P
open Go.RowKit Go.Proofs.YtbgbblgdbcjibaaW.PrintWords Go.Proofs.YtbgbblgdbcjibaaW.PrintLast Go.Proofs.YtbgbblgdbcjibaaW.PrintMore
/-- The one pure statement of laws_FnExactMatrixOfLinear. -/
def laws_FnExactMatrixOfLinear.Pure : Prop := ∀ (a0_0 : Int) (a0_1 : Int) (l1 : List Int) (l2 : List Int), ((Lit.int .i64 a0_0).wf = true) → ((Lit.int .i64 a0_1).wf = true) → (l1.length ≤ maxLen) → (∀ x ∈ l1, (Lit.int .i64 x).wf = true) → (l2.length ≤ maxLen) → (∀ x ∈ l2, (Lit.int .i64 x).wf = true) → ∃ k, laws_FnExactMatrixOfLinear.f k a0_0 a0_1 l1 l2 = some true
end Go.Proofs.Ytbgbblgdbcjibaa.P
end
section
namespace Go.Proofs.Ytbgbblgdbcjibaa.Pure
theorem FnExactMatrixOfLinear : P.laws_FnExactMatrixOfLinear.Pure := fun a0_0 a0_1 l1 l2 _ _ _ _ _ _ => P.IsLim.some_ (P.laws_FnExactMatrixOfLinear.lim a0_0 a0_1 l1 l2) (P.MatrixOfLinear_law a0_0 a0_1 l1 l2)
end Go.Proofs.Ytbgbblgdbcjibaa.Pure
end
