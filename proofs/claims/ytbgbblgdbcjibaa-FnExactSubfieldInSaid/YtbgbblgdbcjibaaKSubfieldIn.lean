/- What the functions of the law FnExactSubfieldIn tell without rounds, and its pure statement. -/
import Derived.Test.YtbgbblgdbcjibaaPx0
import Derived.Test.YtbgbblgdbcjibaaPx1
import Derived.Test.YtbgbblgdbcjibaaPx2
import Derived.Test.YtbgbblgdbcjibaaPx4
import Derived.Test.YtbgbblgdbcjibaaPx3
import Derived.Test.YtbgbblgdbcjibaaPx7
import Derived.Test.YtbgbblgdbcjibaaPx14
import Derived.Test.YtbgbblgdbcjibaaPx9
import Derived.Test.YtbgbblgdbcjibaaPx15
import Derived.Test.YtbgbblgdbcjibaaPx5
import Derived.Test.YtbgbblgdbcjibaaPx25
import Derived.ProofKit
import Derived.Test.YtbgbblgdbcjibaaPx8
section
namespace Go.Proofs.Ytbgbblgdbcjibaa.P
open Go.RowKit Go.Proofs.YtbgbblgdbcjibaaW.PrintWords Go.Proofs.YtbgbblgdbcjibaaW.PrintLast Go.Proofs.YtbgbblgdbcjibaaW.PrintMore
def IsLim {α : Type} (g : Nat → Option α) (v : Option α) : Prop := (∀ k, LeO (g k) (g (k + 1))) ∧ ∀ r, v = some r ↔ ∃ k, g k = some r
theorem leO_le {α : Type} {g : Nat → Option α} (h : ∀ k, LeO (g k) (g (k + 1))) {j k : Nat} (hjk : j ≤ k) : LeO (g j) (g k) := by
  induction hjk with
  | refl => exact fun _ e => e
  | step _ ih => exact fun r e => h _ r (ih r e)
open Classical in
noncomputable def lim {α : Type} (g : Nat → Option α) : Option α := if h : ∃ r, ∃ k, g k = some r then some h.choose else none
theorem lim_spec {α : Type} {g : Nat → Option α} (h : ∀ k, LeO (g k) (g (k + 1))) : IsLim g (lim g) := by
  refine ⟨h, fun r => ?_⟩
  unfold lim
  by_cases hx : ∃ r, ∃ k, g k = some r
  · rw [dif_pos hx]
    obtain ⟨k, hk⟩ := hx.choose_spec
    constructor
    · intro e; exact ⟨k, by rw [hk]; exact e⟩
    · rintro ⟨j, hj⟩
      have a := leO_le h (Nat.le_max_left j k) _ hj
      have b := leO_le h (Nat.le_max_right j k) _ hk
      rw [a] at b; exact b.symm
  · rw [dif_neg hx]
    constructor
    · intro e; cases e
    · rintro ⟨k, hk⟩; exact absurd ⟨r, k, hk⟩ hx
theorem IsLim.unique {α : Type} {g : Nat → Option α} {v v' : Option α} (h : IsLim g v) (h' : IsLim g v') : v = v' :=
  Option.ext fun r => (h.2 r).trans (h'.2 r).symm
theorem IsLim.const {α : Type} (v : Option α) : IsLim (fun _ => v) v := ⟨fun _ _ e => e, fun _ => ⟨fun e => ⟨0, e⟩, fun ⟨_, e⟩ => e⟩⟩
theorem IsLim.ite {α : Type} {c : Prop} [Decidable c] {g g' : Nat → Option α} {v v' : Option α} (h : IsLim g v) (h' : IsLim g' v') :
    IsLim (fun k => if c then g k else g' k) (if c then v else v') := by
  by_cases hc : c
  · simp only [if_pos hc]; exact h
  · simp only [if_neg hc]; exact h'
theorem IsLim.bind {α β : Type} {g : Nat → Option α} {v : Option α} {q : Nat → α → Option β} {w : α → Option β}
    (h : IsLim g v) (hq : ∀ x, IsLim (fun k => q k x) (w x)) : IsLim (fun k => (g k).bind (q k)) (v.bind w) := by
  refine ⟨fun k r e => ?_, fun r => ?_⟩
  · obtain ⟨x, hx, hr⟩ := Option.bind_eq_some_iff.mp e
    exact Option.bind_eq_some_iff.mpr ⟨x, h.1 k x hx, (hq x).1 k r hr⟩
  · constructor
    · intro e
      obtain ⟨x, hx, hr⟩ := Option.bind_eq_some_iff.mp e
      obtain ⟨j, hj⟩ := (h.2 x).mp hx
      obtain ⟨k, hk⟩ := ((hq x).2 r).mp hr
      exact ⟨max j k, Option.bind_eq_some_iff.mpr ⟨x, leO_le h.1 (Nat.le_max_left j k) _ hj, leO_le (hq x).1 (Nat.le_max_right j k) _ hk⟩⟩
    · rintro ⟨k, e⟩
      obtain ⟨x, hx, hr⟩ := Option.bind_eq_some_iff.mp e
      exact Option.bind_eq_some_iff.mpr ⟨x, (h.2 x).mpr ⟨k, hx⟩, ((hq x).2 r).mpr ⟨k, hr⟩⟩
theorem IsLim.shift {α : Type} {g : Nat → Option α} {v : Option α} (h0 : g 0 = none) (h : IsLim (fun k => g (k + 1)) v) : IsLim g v := by
  refine ⟨fun k => ?_, fun r => ?_⟩
  · cases k with
    | zero => intro r e; rw [h0] at e; cases e
    | succ k => exact h.1 k
  · rw [h.2 r]
    constructor
    · rintro ⟨k, e⟩; exact ⟨k + 1, e⟩
    · rintro ⟨k, e⟩
      cases k with
      | zero => rw [h0] at e; cases e
      | succ k => exact ⟨k, e⟩
theorem IsLim.some_ {α : Type} {g : Nat → Option α} {v : Option α} {r : α} (h : IsLim g v) (e : v = some r) : ∃ k, g k = some r := (h.2 r).mp e
end Go.Proofs.Ytbgbblgdbcjibaa.P
end
section
namespace Go.Proofs.Ytbgbblgdbcjibaa.P
open Go.RowKit Go.Proofs.YtbgbblgdbcjibaaW.PrintWords Go.Proofs.YtbgbblgdbcjibaaW.PrintLast Go.Proofs.YtbgbblgdbcjibaaW.PrintMore
set_option linter.unusedVariables false
set_option linter.unusedSimpArgs false
noncomputable def spec_l01Degree.l0d (x0 : Int) (x3 : Int) : Option (Int) := lim (fun k => spec_l01Degree.l0 k x0 x3)
theorem spec_l01Degree.l0lim (x0 : Int) (x3 : Int) : IsLim (fun k => spec_l01Degree.l0 k x0 x3) (spec_l01Degree.l0d x0 x3) := lim_spec (fun k => (spec_l01Degree.mono_l k) x0 x3)
theorem spec_l01Degree.l0d_eq (x0 : Int) (x3 : Int) : spec_l01Degree.l0d x0 x3 = if x0 > 0 then (spec_l01Degree.l0d (wrap64 (Int.tdiv x0 2)) (wrap64 (x3 + 1))) else (some x3) := by
  refine IsLim.unique (spec_l01Degree.l0lim _ _) ?_
  refine IsLim.shift (by rfl) ?_
  simp only [spec_l01Degree.l0]
  repeat' (first | exact IsLim.const _ | refine IsLim.ite ?_ ?_ | refine IsLim.bind ?_ (fun _ => ?_) | exact spec_l01Degree.l0lim ..)
noncomputable def spec_l01Degree.d (a0 : Int) : Option (Int) := lim (fun k => spec_l01Degree.f k a0)
theorem spec_l01Degree.lim (a0 : Int) : IsLim (fun k => spec_l01Degree.f k a0) (spec_l01Degree.d a0) := lim_spec (fun k => spec_l01Degree.mono a0 k)
theorem spec_l01Degree.d_eq (a0 : Int) : spec_l01Degree.d a0 = spec_l01Degree.l0d a0 (-1) := by
  refine IsLim.unique (spec_l01Degree.lim _) ?_
  unfold spec_l01Degree.f
  repeat' (first | exact IsLim.const _ | refine IsLim.ite ?_ ?_ | refine IsLim.bind ?_ (fun _ => ?_) | exact spec_l01Degree.l0lim ..)
noncomputable def spec_l01Rest.l0d (x0 : Int) (x1 : Int) (x5 : Int) : Option (Int) := lim (fun k => spec_l01Rest.l0 k x0 x1 x5)
theorem spec_l01Rest.l0lim (x0 : Int) (x1 : Int) (x5 : Int) : IsLim (fun k => spec_l01Rest.l0 k x0 x1 x5) (spec_l01Rest.l0d x0 x1 x5) := lim_spec (fun k => (spec_l01Rest.mono_l k) x0 x1 x5)
theorem spec_l01Rest.l0d_eq (x0 : Int) (x1 : Int) (x5 : Int) : spec_l01Rest.l0d x0 x1 x5 = (spec_l01Degree.d x0).bind fun t102 => (if t102 ≥ x5 then ((spec_l01Degree.d x0).bind fun t103 => (if 0 ≤ (IntKind.u64.wrap (wrap64 (t103 - x5))) then (spec_l01Rest.l0d (Go.bits .xor .i64 x0 (shl .i64 x1 (IntKind.u64.wrap (wrap64 (t103 - x5))))) x1 x5) else (none))) else (some x0)) := by
  refine IsLim.unique (spec_l01Rest.l0lim _ _ _) ?_
  refine IsLim.shift (by rfl) ?_
  simp only [spec_l01Rest.l0]
  repeat' (first | exact IsLim.const _ | refine IsLim.ite ?_ ?_ | refine IsLim.bind ?_ (fun _ => ?_) | exact spec_l01Degree.lim .. | exact spec_l01Rest.l0lim ..)
noncomputable def spec_l01Rest.d (a0 : Int) (a1 : Int) : Option (Int) := lim (fun k => spec_l01Rest.f k a0 a1)
theorem spec_l01Rest.lim (a0 : Int) (a1 : Int) : IsLim (fun k => spec_l01Rest.f k a0 a1) (spec_l01Rest.d a0 a1) := lim_spec (fun k => spec_l01Rest.mono a0 a1 k)
theorem spec_l01Rest.d_eq (a0 : Int) (a1 : Int) : spec_l01Rest.d a0 a1 = (spec_l01Degree.d a1).bind fun t101 => (spec_l01Rest.l0d a0 a1 t101) := by
  refine IsLim.unique (spec_l01Rest.lim _ _) ?_
  unfold spec_l01Rest.f
  repeat' (first | exact IsLim.const _ | refine IsLim.ite ?_ ?_ | refine IsLim.bind ?_ (fun _ => ?_) | exact spec_l01Degree.lim .. | exact spec_l01Rest.l0lim ..)
noncomputable def spec_l01Irreducible.d (a0 : Int) : Option (Bool) := lim (fun k => spec_l01Irreducible.f k a0)
theorem spec_l01Irreducible.lim (a0 : Int) : IsLim (fun k => spec_l01Irreducible.f k a0) (spec_l01Irreducible.d a0) := lim_spec (fun k => spec_l01Irreducible.mono a0 k)
noncomputable def spec_IsIrreducible.d (a0 : Int) : Option (Bool) := lim (fun k => spec_IsIrreducible.f k a0)
theorem spec_IsIrreducible.lim (a0 : Int) : IsLim (fun k => spec_IsIrreducible.f k a0) (spec_IsIrreducible.d a0) := lim_spec (fun k => spec_IsIrreducible.mono a0 k)
theorem spec_IsIrreducible.d_eq (a0 : Int) : spec_IsIrreducible.d a0 = if a0 > 0 then (if a0 < 64 then ((spec_l01Irreducible.d a0).bind fun t107 => (some t107)) else (some false)) else (some false) := by
  refine IsLim.unique (spec_IsIrreducible.lim _) ?_
  unfold spec_IsIrreducible.f
  repeat' (first | exact IsLim.const _ | refine IsLim.ite ?_ ?_ | refine IsLim.bind ?_ (fun _ => ?_) | exact spec_l01Irreducible.lim ..)
noncomputable def spec_l01Ok.d (a0_0 : Int) (a0_1 : Int) : Option (Bool) := lim (fun k => spec_l01Ok.f k a0_0 a0_1)
theorem spec_l01Ok.lim (a0_0 : Int) (a0_1 : Int) : IsLim (fun k => spec_l01Ok.f k a0_0 a0_1) (spec_l01Ok.d a0_0 a0_1) := lim_spec (fun k => spec_l01Ok.mono a0_0 a0_1 k)
theorem spec_l01Ok.d_eq (a0_0 : Int) (a0_1 : Int) : spec_l01Ok.d a0_0 a0_1 = (spec_l00In.f a0_0 1 5).bind fun t109 => (if t109 = true then ((spec_IsIrreducible.d a0_1).bind fun t110 => (if t110 = true then ((spec_l01Degree.d a0_1).bind fun t111 => (some (t111 == a0_0))) else (some false))) else (some false)) := by
  refine IsLim.unique (spec_l01Ok.lim _ _) ?_
  unfold spec_l01Ok.f
  repeat' (first | exact IsLim.const _ | refine IsLim.ite ?_ ?_ | refine IsLim.bind ?_ (fun _ => ?_) | exact spec_IsIrreducible.lim .. | exact spec_l01Degree.lim ..)
noncomputable def impl_degreeOf.l0d (x0 : Int) (x3 : Int) : Option (Int) := lim (fun k => impl_degreeOf.l0 k x0 x3)
theorem impl_degreeOf.l0lim (x0 : Int) (x3 : Int) : IsLim (fun k => impl_degreeOf.l0 k x0 x3) (impl_degreeOf.l0d x0 x3) := lim_spec (fun k => (impl_degreeOf.mono_l k) x0 x3)
theorem impl_degreeOf.l0d_eq (x0 : Int) (x3 : Int) : impl_degreeOf.l0d x0 x3 = if x0 > 0 then (impl_degreeOf.l0d (x0 / 2) (wrap64 (x3 + 1))) else (some x3) := by
  refine IsLim.unique (impl_degreeOf.l0lim _ _) ?_
  refine IsLim.shift (by rfl) ?_
  simp only [impl_degreeOf.l0]
  repeat' (first | exact IsLim.const _ | refine IsLim.ite ?_ ?_ | refine IsLim.bind ?_ (fun _ => ?_) | exact impl_degreeOf.l0lim ..)
noncomputable def impl_degreeOf.d (a0 : Int) : Option (Int) := lim (fun k => impl_degreeOf.f k a0)
theorem impl_degreeOf.lim (a0 : Int) : IsLim (fun k => impl_degreeOf.f k a0) (impl_degreeOf.d a0) := lim_spec (fun k => impl_degreeOf.mono a0 k)
theorem impl_degreeOf.d_eq (a0 : Int) : impl_degreeOf.d a0 = impl_degreeOf.l0d a0 (-1) := by
  refine IsLim.unique (impl_degreeOf.lim _) ?_
  unfold impl_degreeOf.f
  repeat' (first | exact IsLim.const _ | refine IsLim.ite ?_ ?_ | refine IsLim.bind ?_ (fun _ => ?_) | exact impl_degreeOf.l0lim ..)
end Go.Proofs.Ytbgbblgdbcjibaa.P
end
section
namespace Go.Proofs.Ytbgbblgdbcjibaa.P
open Go.RowKit Go.Proofs.YtbgbblgdbcjibaaW.PrintWords Go.Proofs.YtbgbblgdbcjibaaW.PrintLast Go.Proofs.YtbgbblgdbcjibaaW.PrintMore
set_option linter.unusedVariables false
set_option linter.unusedSimpArgs false
noncomputable def impl_restOf.l0d (x0 : Int) (x1 : Int) (x5 : Int) : Option (Int) := lim (fun k => impl_restOf.l0 k x0 x1 x5)
theorem impl_restOf.l0lim (x0 : Int) (x1 : Int) (x5 : Int) : IsLim (fun k => impl_restOf.l0 k x0 x1 x5) (impl_restOf.l0d x0 x1 x5) := lim_spec (fun k => (impl_restOf.mono_l k) x0 x1 x5)
theorem impl_restOf.l0d_eq (x0 : Int) (x1 : Int) (x5 : Int) : impl_restOf.l0d x0 x1 x5 = (impl_degreeOf.d x0).bind fun t138 => (if t138 ≥ x5 then ((impl_degreeOf.d x0).bind fun t139 => (if 0 ≤ (wrap64 (t139 - x5)) then (impl_restOf.l0d (Go.bits .xor .i64 x0 (shl .i64 x1 (wrap64 (t139 - x5)))) x1 x5) else (none))) else (some x0)) := by
  refine IsLim.unique (impl_restOf.l0lim _ _ _) ?_
  refine IsLim.shift (by rfl) ?_
  simp only [impl_restOf.l0]
  repeat' (first | exact IsLim.const _ | refine IsLim.ite ?_ ?_ | refine IsLim.bind ?_ (fun _ => ?_) | exact impl_degreeOf.lim .. | exact impl_restOf.l0lim ..)
noncomputable def impl_restOf.d (a0 : Int) (a1 : Int) : Option (Int) := lim (fun k => impl_restOf.f k a0 a1)
theorem impl_restOf.lim (a0 : Int) (a1 : Int) : IsLim (fun k => impl_restOf.f k a0 a1) (impl_restOf.d a0 a1) := lim_spec (fun k => impl_restOf.mono a0 a1 k)
theorem impl_restOf.d_eq (a0 : Int) (a1 : Int) : impl_restOf.d a0 a1 = (impl_degreeOf.d a1).bind fun t137 => (impl_restOf.l0d a0 a1 t137) := by
  refine IsLim.unique (impl_restOf.lim _ _) ?_
  unfold impl_restOf.f
  repeat' (first | exact IsLim.const _ | refine IsLim.ite ?_ ?_ | refine IsLim.bind ?_ (fun _ => ?_) | exact impl_degreeOf.lim .. | exact impl_restOf.l0lim ..)
noncomputable def impl_IsIrreducible.j0d (x0 : Int) (x9 : Bool) : Option (Bool) := lim (fun k => impl_IsIrreducible.j0 k x0 x9)
theorem impl_IsIrreducible.j0lim (x0 : Int) (x9 : Bool) : IsLim (fun k => impl_IsIrreducible.j0 k x0 x9) (impl_IsIrreducible.j0d x0 x9) := lim_spec (fun k => (impl_IsIrreducible.mono_l k).1 x0 x9)
noncomputable def impl_IsIrreducible.l0d (x0 : Int) (x3 : Int) : Option (Bool) := lim (fun k => impl_IsIrreducible.l0 k x0 x3)
theorem impl_IsIrreducible.l0lim (x0 : Int) (x3 : Int) : IsLim (fun k => impl_IsIrreducible.l0 k x0 x3) (impl_IsIrreducible.l0d x0 x3) := lim_spec (fun k => (impl_IsIrreducible.mono_l k).2 x0 x3)
theorem impl_IsIrreducible.j0d_eq (x0 : Int) (x9 : Bool) : impl_IsIrreducible.j0d x0 x9 = if x9 = true then (some false) else (impl_IsIrreducible.l0d x0 2) := by
  refine IsLim.unique (impl_IsIrreducible.j0lim _ _) ?_
  refine IsLim.shift (by rfl) ?_
  simp only [impl_IsIrreducible.j0]
  repeat' (first | exact IsLim.const _ | refine IsLim.ite ?_ ?_ | refine IsLim.bind ?_ (fun _ => ?_) | exact impl_IsIrreducible.l0lim ..)
noncomputable def impl_IsIrreducible.d (a0 : Int) : Option (Bool) := lim (fun k => impl_IsIrreducible.f k a0)
theorem impl_IsIrreducible.lim (a0 : Int) : IsLim (fun k => impl_IsIrreducible.f k a0) (impl_IsIrreducible.d a0) := lim_spec (fun k => impl_IsIrreducible.mono a0 k)
theorem impl_IsIrreducible.d_eq (a0 : Int) : impl_IsIrreducible.d a0 = if a0 < 2 then (impl_IsIrreducible.j0d a0 true) else (impl_IsIrreducible.j0d a0 (decide (a0 ≥ 64))) := by
  refine IsLim.unique (impl_IsIrreducible.lim _) ?_
  unfold impl_IsIrreducible.f
  repeat' (first | exact IsLim.const _ | refine IsLim.ite ?_ ?_ | refine IsLim.bind ?_ (fun _ => ?_) | exact impl_IsIrreducible.j0lim ..)
noncomputable def impl_ValidField.d (a0_0 : Int) (a0_1 : Int) : Option (Bool) := lim (fun k => impl_ValidField.f k a0_0 a0_1)
theorem impl_ValidField.lim (a0_0 : Int) (a0_1 : Int) : IsLim (fun k => impl_ValidField.f k a0_0 a0_1) (impl_ValidField.d a0_0 a0_1) := lim_spec (fun k => impl_ValidField.mono a0_0 a0_1 k)
theorem impl_ValidField.d_eq (a0_0 : Int) (a0_1 : Int) : impl_ValidField.d a0_0 a0_1 = (impl_within.f a0_0 1 5).bind fun t144 => (if t144 = true then ((impl_IsIrreducible.d a0_1).bind fun t145 => (if t145 = true then ((impl_degreeOf.d a0_1).bind fun t146 => (some (t146 == a0_0))) else (some false))) else (some false)) := by
  refine IsLim.unique (impl_ValidField.lim _ _) ?_
  unfold impl_ValidField.f
  repeat' (first | exact IsLim.const _ | refine IsLim.ite ?_ ?_ | refine IsLim.bind ?_ (fun _ => ?_) | exact impl_IsIrreducible.lim .. | exact impl_degreeOf.lim ..)
noncomputable def slices_IndexFunc_int64_int64_AT_impl_Field_has_1.l0d (x0 : List Int) (x7 : Int) (x8 : Int) (x49000 : Int) (x49001 : Int) : Option (Int) := lim (fun k => slices_IndexFunc_int64_int64_AT_impl_Field_has_1.l0 k x0 x7 x8 x49000 x49001)
theorem slices_IndexFunc_int64_int64_AT_impl_Field_has_1.l0lim (x0 : List Int) (x7 : Int) (x8 : Int) (x49000 : Int) (x49001 : Int) : IsLim (fun k => slices_IndexFunc_int64_int64_AT_impl_Field_has_1.l0 k x0 x7 x8 x49000 x49001) (slices_IndexFunc_int64_int64_AT_impl_Field_has_1.l0d x0 x7 x8 x49000 x49001) := lim_spec (fun k => (slices_IndexFunc_int64_int64_AT_impl_Field_has_1.mono_l k) x0 x7 x8 x49000 x49001)
theorem slices_IndexFunc_int64_int64_AT_impl_Field_has_1.l0d_eq (x0 : List Int) (x7 : Int) (x8 : Int) (x49000 : Int) (x49001 : Int) : slices_IndexFunc_int64_int64_AT_impl_Field_has_1.l0d x0 x7 x8 x49000 x49001 = if x8 < x7 then (if 0 ≤ x8 then (if x8 < (x0.length : Int) then ((impl_Field_has_1.f (rd x0 x8) x49000 x49001).bind fun t151 => (if t151 = true then (some x8) else (slices_IndexFunc_int64_int64_AT_impl_Field_has_1.l0d x0 x7 (wrap64 (x8 + 1)) x49000 x49001))) else (none)) else (none)) else (some (-1)) := by
  refine IsLim.unique (slices_IndexFunc_int64_int64_AT_impl_Field_has_1.l0lim _ _ _ _ _) ?_
  refine IsLim.shift (by rfl) ?_
  simp only [slices_IndexFunc_int64_int64_AT_impl_Field_has_1.l0]
  repeat' (first | exact IsLim.const _ | refine IsLim.ite ?_ ?_ | refine IsLim.bind ?_ (fun _ => ?_) | exact slices_IndexFunc_int64_int64_AT_impl_Field_has_1.l0lim ..)
noncomputable def slices_IndexFunc_int64_int64_AT_impl_Field_has_1.d (l0 : List Int) (a1_0 : Int) (a1_1 : Int) : Option (Int) := lim (fun k => slices_IndexFunc_int64_int64_AT_impl_Field_has_1.f k l0 a1_0 a1_1)
theorem slices_IndexFunc_int64_int64_AT_impl_Field_has_1.lim (l0 : List Int) (a1_0 : Int) (a1_1 : Int) : IsLim (fun k => slices_IndexFunc_int64_int64_AT_impl_Field_has_1.f k l0 a1_0 a1_1) (slices_IndexFunc_int64_int64_AT_impl_Field_has_1.d l0 a1_0 a1_1) := lim_spec (fun k => slices_IndexFunc_int64_int64_AT_impl_Field_has_1.mono l0 a1_0 a1_1 k)
theorem slices_IndexFunc_int64_int64_AT_impl_Field_has_1.d_eq (l0 : List Int) (a1_0 : Int) (a1_1 : Int) : slices_IndexFunc_int64_int64_AT_impl_Field_has_1.d l0 a1_0 a1_1 = slices_IndexFunc_int64_int64_AT_impl_Field_has_1.l0d l0 (l0.length : Int) 0 a1_0 a1_1 := by
  refine IsLim.unique (slices_IndexFunc_int64_int64_AT_impl_Field_has_1.lim _ _ _) ?_
  unfold slices_IndexFunc_int64_int64_AT_impl_Field_has_1.f
  repeat' (first | exact IsLim.const _ | refine IsLim.ite ?_ ?_ | refine IsLim.bind ?_ (fun _ => ?_) | exact slices_IndexFunc_int64_int64_AT_impl_Field_has_1.l0lim ..)
noncomputable def slices_ContainsFunc_int64_int64_AT_impl_Field_has_1.d (l0 : List Int) (a1_0 : Int) (a1_1 : Int) : Option (Bool) := lim (fun k => slices_ContainsFunc_int64_int64_AT_impl_Field_has_1.f k l0 a1_0 a1_1)
theorem slices_ContainsFunc_int64_int64_AT_impl_Field_has_1.lim (l0 : List Int) (a1_0 : Int) (a1_1 : Int) : IsLim (fun k => slices_ContainsFunc_int64_int64_AT_impl_Field_has_1.f k l0 a1_0 a1_1) (slices_ContainsFunc_int64_int64_AT_impl_Field_has_1.d l0 a1_0 a1_1) := lim_spec (fun k => slices_ContainsFunc_int64_int64_AT_impl_Field_has_1.mono l0 a1_0 a1_1 k)
theorem slices_ContainsFunc_int64_int64_AT_impl_Field_has_1.d_eq (l0 : List Int) (a1_0 : Int) (a1_1 : Int) : slices_ContainsFunc_int64_int64_AT_impl_Field_has_1.d l0 a1_0 a1_1 = (slices_IndexFunc_int64_int64_AT_impl_Field_has_1.d l0 a1_0 a1_1).bind fun t152 => (some (decide (t152 ≥ 0))) := by
  refine IsLim.unique (slices_ContainsFunc_int64_int64_AT_impl_Field_has_1.lim _ _ _) ?_
  unfold slices_ContainsFunc_int64_int64_AT_impl_Field_has_1.f
  repeat' (first | exact IsLim.const _ | refine IsLim.ite ?_ ?_ | refine IsLim.bind ?_ (fun _ => ?_) | exact slices_IndexFunc_int64_int64_AT_impl_Field_has_1.lim ..)
noncomputable def impl_Field_has.d (a0_0 : Int) (a0_1 : Int) (l1 : List Int) : Option (Bool) := lim (fun k => impl_Field_has.f k a0_0 a0_1 l1)
theorem impl_Field_has.lim (a0_0 : Int) (a0_1 : Int) (l1 : List Int) : IsLim (fun k => impl_Field_has.f k a0_0 a0_1 l1) (impl_Field_has.d a0_0 a0_1 l1) := lim_spec (fun k => impl_Field_has.mono a0_0 a0_1 l1 k)
theorem impl_Field_has.d_eq (a0_0 : Int) (a0_1 : Int) (l1 : List Int) : impl_Field_has.d a0_0 a0_1 l1 = (slices_ContainsFunc_int64_int64_AT_impl_Field_has_1.d l1 a0_0 a0_1).bind fun t154 => (some (!t154)) := by
  refine IsLim.unique (impl_Field_has.lim _ _ _) ?_
  unfold impl_Field_has.f
  repeat' (first | exact IsLim.const _ | refine IsLim.ite ?_ ?_ | refine IsLim.bind ?_ (fun _ => ?_) | exact slices_ContainsFunc_int64_int64_AT_impl_Field_has_1.lim ..)
end Go.Proofs.Ytbgbblgdbcjibaa.P
end
section
namespace Go.Proofs.Ytbgbblgdbcjibaa.P
open Go.RowKit Go.Proofs.YtbgbblgdbcjibaaW.PrintWords Go.Proofs.YtbgbblgdbcjibaaW.PrintLast Go.Proofs.YtbgbblgdbcjibaaW.PrintMore
set_option linter.unusedVariables false
set_option linter.unusedSimpArgs false
noncomputable def impl_Field_code.d (a0_0 : Int) (a0_1 : Int) (a1 : Bool) (l2 : List Int) : Option (Int) := lim (fun k => impl_Field_code.f k a0_0 a0_1 a1 l2)
theorem impl_Field_code.lim (a0_0 : Int) (a0_1 : Int) (a1 : Bool) (l2 : List Int) : IsLim (fun k => impl_Field_code.f k a0_0 a0_1 a1 l2) (impl_Field_code.d a0_0 a0_1 a1 l2) := lim_spec (fun k => impl_Field_code.mono a0_0 a0_1 a1 l2 k)
theorem impl_Field_code.d_eq (a0_0 : Int) (a0_1 : Int) (a1 : Bool) (l2 : List Int) : impl_Field_code.d a0_0 a0_1 a1 l2 = (impl_ValidField.d a0_0 a0_1).bind fun t156 => (if t156 = true then ((impl_Field_has.d a0_0 a0_1 l2).bind fun t157 => (if t157 = true then (if a1 = true then (some 0) else (some 2)) else (some 2))) else (some 1)) := by
  refine IsLim.unique (impl_Field_code.lim _ _ _ _) ?_
  unfold impl_Field_code.f
  repeat' (first | exact IsLim.const _ | refine IsLim.ite ?_ ?_ | refine IsLim.bind ?_ (fun _ => ?_) | exact impl_ValidField.lim .. | exact impl_Field_has.lim ..)
end Go.Proofs.Ytbgbblgdbcjibaa.P
end
section
namespace Go.Proofs.Ytbgbblgdbcjibaa.P
open Go.RowKit Go.Proofs.YtbgbblgdbcjibaaW.PrintWords Go.Proofs.YtbgbblgdbcjibaaW.PrintLast Go.Proofs.YtbgbblgdbcjibaaW.PrintMore
set_option linter.unusedVariables false
set_option linter.unusedSimpArgs false
noncomputable def spec_l01Mul.l0d (x1 : Int) (x2 : Int) (x7 : Int) (x8 : Int) (x118000 : Int) (x118001 : Int) : Option (Int) := lim (fun k => spec_l01Mul.l0 k x1 x2 x7 x8 x118000 x118001)
theorem spec_l01Mul.l0lim (x1 : Int) (x2 : Int) (x7 : Int) (x8 : Int) (x118000 : Int) (x118001 : Int) : IsLim (fun k => spec_l01Mul.l0 k x1 x2 x7 x8 x118000 x118001) (spec_l01Mul.l0d x1 x2 x7 x8 x118000 x118001) := lim_spec (fun k => (spec_l01Mul.mono_l k) x1 x2 x7 x8 x118000 x118001)
theorem spec_l01Mul.l0d_eq (x1 : Int) (x2 : Int) (x7 : Int) (x8 : Int) (x118000 : Int) (x118001 : Int) : spec_l01Mul.l0d x1 x2 x7 x8 x118000 x118001 = if x8 < x118000 then (if 0 ≤ (IntKind.u64.wrap (x8)) then (if (Go.bits .and .i64 (shr .i64 x2 (IntKind.u64.wrap (x8))) 1) = 1 then (spec_l01Mul.l0d x1 x2 (Go.bits .xor .i64 x7 (shl .i64 x1 (IntKind.u64.wrap (x8)))) (wrap64 (x8 + 1)) x118000 x118001) else (spec_l01Mul.l0d x1 x2 x7 (wrap64 (x8 + 1)) x118000 x118001)) else (none)) else ((spec_l01Rest.d x7 x118001).bind fun t118 => (some t118)) := by
  refine IsLim.unique (spec_l01Mul.l0lim _ _ _ _ _ _) ?_
  refine IsLim.shift (by rfl) ?_
  simp only [spec_l01Mul.l0]
  repeat' (first | exact IsLim.const _ | refine IsLim.ite ?_ ?_ | refine IsLim.bind ?_ (fun _ => ?_) | exact spec_l01Rest.lim .. | exact spec_l01Mul.l0lim ..)
noncomputable def spec_l01Mul.d (a0_0 : Int) (a0_1 : Int) (a1 : Int) (a2 : Int) : Option (Int) := lim (fun k => spec_l01Mul.f k a0_0 a0_1 a1 a2)
theorem spec_l01Mul.lim (a0_0 : Int) (a0_1 : Int) (a1 : Int) (a2 : Int) : IsLim (fun k => spec_l01Mul.f k a0_0 a0_1 a1 a2) (spec_l01Mul.d a0_0 a0_1 a1 a2) := lim_spec (fun k => spec_l01Mul.mono a0_0 a0_1 a1 a2 k)
theorem spec_l01Mul.d_eq (a0_0 : Int) (a0_1 : Int) (a1 : Int) (a2 : Int) : spec_l01Mul.d a0_0 a0_1 a1 a2 = spec_l01Mul.l0d a1 a2 0 0 a0_0 a0_1 := by
  refine IsLim.unique (spec_l01Mul.lim _ _ _ _) ?_
  unfold spec_l01Mul.f
  repeat' (first | exact IsLim.const _ | refine IsLim.ite ?_ ?_ | refine IsLim.bind ?_ (fun _ => ?_) | exact spec_l01Mul.l0lim ..)
noncomputable def impl_product.l0d (x0 : Int) (x1 : Int) (x5 : Int) : Option (Int) := lim (fun k => impl_product.l0 k x0 x1 x5)
theorem impl_product.l0lim (x0 : Int) (x1 : Int) (x5 : Int) : IsLim (fun k => impl_product.l0 k x0 x1 x5) (impl_product.l0d x0 x1 x5) := lim_spec (fun k => (impl_product.mono_l k) x0 x1 x5)
theorem impl_product.l0d_eq (x0 : Int) (x1 : Int) (x5 : Int) : impl_product.l0d x0 x1 x5 = if x1 > 0 then (if (Go.bits .and .i64 x1 1) = 1 then (impl_product.l0d (wrap64 (x0 * 2)) (x1 / 2) (Go.bits .xor .i64 x5 x0)) else (impl_product.l0d (wrap64 (x0 * 2)) (x1 / 2) x5)) else (some x5) := by
  refine IsLim.unique (impl_product.l0lim _ _ _) ?_
  refine IsLim.shift (by rfl) ?_
  simp only [impl_product.l0]
  repeat' (first | exact IsLim.const _ | refine IsLim.ite ?_ ?_ | refine IsLim.bind ?_ (fun _ => ?_) | exact impl_product.l0lim ..)
noncomputable def impl_product.d (a0 : Int) (a1 : Int) : Option (Int) := lim (fun k => impl_product.f k a0 a1)
theorem impl_product.lim (a0 : Int) (a1 : Int) : IsLim (fun k => impl_product.f k a0 a1) (impl_product.d a0 a1) := lim_spec (fun k => impl_product.mono a0 a1 k)
theorem impl_product.d_eq (a0 : Int) (a1 : Int) : impl_product.d a0 a1 = impl_product.l0d a0 a1 0 := by
  refine IsLim.unique (impl_product.lim _ _) ?_
  unfold impl_product.f
  repeat' (first | exact IsLim.const _ | refine IsLim.ite ?_ ?_ | refine IsLim.bind ?_ (fun _ => ?_) | exact impl_product.l0lim ..)
noncomputable def impl_Field_mul.d (a0_0 : Int) (a0_1 : Int) (a1 : Int) (a2 : Int) : Option (Int) := lim (fun k => impl_Field_mul.f k a0_0 a0_1 a1 a2)
theorem impl_Field_mul.lim (a0_0 : Int) (a0_1 : Int) (a1 : Int) (a2 : Int) : IsLim (fun k => impl_Field_mul.f k a0_0 a0_1 a1 a2) (impl_Field_mul.d a0_0 a0_1 a1 a2) := lim_spec (fun k => impl_Field_mul.mono a0_0 a0_1 a1 a2 k)
theorem impl_Field_mul.d_eq (a0_0 : Int) (a0_1 : Int) (a1 : Int) (a2 : Int) : impl_Field_mul.d a0_0 a0_1 a1 a2 = (impl_product.d a1 a2).bind fun t166 => ((impl_restOf.d t166 a0_1).bind fun t167 => (some t167)) := by
  refine IsLim.unique (impl_Field_mul.lim _ _ _ _) ?_
  unfold impl_Field_mul.f
  repeat' (first | exact IsLim.const _ | refine IsLim.ite ?_ ?_ | refine IsLim.bind ?_ (fun _ => ?_) | exact impl_product.lim .. | exact impl_restOf.lim ..)
end Go.Proofs.Ytbgbblgdbcjibaa.P
end
section
namespace Go.Proofs.Ytbgbblgdbcjibaa.P
open Go.RowKit Go.Proofs.YtbgbblgdbcjibaaW.PrintWords Go.Proofs.YtbgbblgdbcjibaaW.PrintLast Go.Proofs.YtbgbblgdbcjibaaW.PrintMore
set_option linter.unusedVariables false
set_option linter.unusedSimpArgs false
noncomputable def spec_l01Square.l0d (x1 : Int) (x2 : Int) (x190000 : Int) (x190001 : Int) : Option (Int) := lim (fun k => spec_l01Square.l0 k x1 x2 x190000 x190001)
theorem spec_l01Square.l0lim (x1 : Int) (x2 : Int) (x190000 : Int) (x190001 : Int) : IsLim (fun k => spec_l01Square.l0 k x1 x2 x190000 x190001) (spec_l01Square.l0d x1 x2 x190000 x190001) := lim_spec (fun k => (spec_l01Square.mono_l k) x1 x2 x190000 x190001)
theorem spec_l01Square.l0d_eq (x1 : Int) (x2 : Int) (x190000 : Int) (x190001 : Int) : spec_l01Square.l0d x1 x2 x190000 x190001 = if x2 > 0 then ((spec_l01Mul.d x190000 x190001 x1 x1).bind fun t190 => (spec_l01Square.l0d t190 (wrap64 (x2 - 1)) x190000 x190001)) else (some x1) := by
  refine IsLim.unique (spec_l01Square.l0lim _ _ _ _) ?_
  refine IsLim.shift (by rfl) ?_
  simp only [spec_l01Square.l0]
  repeat' (first | exact IsLim.const _ | refine IsLim.ite ?_ ?_ | refine IsLim.bind ?_ (fun _ => ?_) | exact spec_l01Mul.lim .. | exact spec_l01Square.l0lim ..)
noncomputable def spec_l01Square.d (a0_0 : Int) (a0_1 : Int) (a1 : Int) (a2 : Int) : Option (Int) := lim (fun k => spec_l01Square.f k a0_0 a0_1 a1 a2)
theorem spec_l01Square.lim (a0_0 : Int) (a0_1 : Int) (a1 : Int) (a2 : Int) : IsLim (fun k => spec_l01Square.f k a0_0 a0_1 a1 a2) (spec_l01Square.d a0_0 a0_1 a1 a2) := lim_spec (fun k => spec_l01Square.mono a0_0 a0_1 a1 a2 k)
theorem spec_l01Square.d_eq (a0_0 : Int) (a0_1 : Int) (a1 : Int) (a2 : Int) : spec_l01Square.d a0_0 a0_1 a1 a2 = if a0_0 = 0 then (none) else (spec_l01Square.l0d a1 (Int.tmod a2 a0_0) a0_0 a0_1) := by
  refine IsLim.unique (spec_l01Square.lim _ _ _ _) ?_
  unfold spec_l01Square.f
  repeat' (first | exact IsLim.const _ | refine IsLim.ite ?_ ?_ | refine IsLim.bind ?_ (fun _ => ?_) | exact spec_l01Square.l0lim ..)
noncomputable def impl_Field_square.l0d (x1 : Int) (x10 : Int) (x11 : Int) (x217000 : Int) (x217001 : Int) : Option (Int) := lim (fun k => impl_Field_square.l0 k x1 x10 x11 x217000 x217001)
theorem impl_Field_square.l0lim (x1 : Int) (x10 : Int) (x11 : Int) (x217000 : Int) (x217001 : Int) : IsLim (fun k => impl_Field_square.l0 k x1 x10 x11 x217000 x217001) (impl_Field_square.l0d x1 x10 x11 x217000 x217001) := lim_spec (fun k => (impl_Field_square.mono_l k) x1 x10 x11 x217000 x217001)
theorem impl_Field_square.l0d_eq (x1 : Int) (x10 : Int) (x11 : Int) (x217000 : Int) (x217001 : Int) : impl_Field_square.l0d x1 x10 x11 x217000 x217001 = if x11 < x10 then ((impl_Field_mul.d x217000 x217001 x1 x1).bind fun t217 => (impl_Field_square.l0d t217 x10 (wrap64 (x11 + 1)) x217000 x217001)) else (some x1) := by
  refine IsLim.unique (impl_Field_square.l0lim _ _ _ _ _) ?_
  refine IsLim.shift (by rfl) ?_
  simp only [impl_Field_square.l0]
  repeat' (first | exact IsLim.const _ | refine IsLim.ite ?_ ?_ | refine IsLim.bind ?_ (fun _ => ?_) | exact impl_Field_mul.lim .. | exact impl_Field_square.l0lim ..)
noncomputable def impl_Field_square.d (a0_0 : Int) (a0_1 : Int) (a1 : Int) (a2 : Int) : Option (Int) := lim (fun k => impl_Field_square.f k a0_0 a0_1 a1 a2)
theorem impl_Field_square.lim (a0_0 : Int) (a0_1 : Int) (a1 : Int) (a2 : Int) : IsLim (fun k => impl_Field_square.f k a0_0 a0_1 a1 a2) (impl_Field_square.d a0_0 a0_1 a1 a2) := lim_spec (fun k => impl_Field_square.mono a0_0 a0_1 a1 a2 k)
theorem impl_Field_square.d_eq (a0_0 : Int) (a0_1 : Int) (a1 : Int) (a2 : Int) : impl_Field_square.d a0_0 a0_1 a1 a2 = if a0_0 = 0 then (none) else (impl_Field_square.l0d a1 (Int.tmod a2 a0_0) 0 a0_0 a0_1) := by
  refine IsLim.unique (impl_Field_square.lim _ _ _ _) ?_
  unfold impl_Field_square.f
  repeat' (first | exact IsLim.const _ | refine IsLim.ite ?_ ?_ | refine IsLim.bind ?_ (fun _ => ?_) | exact impl_Field_square.l0lim ..)
noncomputable def laws_markInt64S.l0d (x0 : List Int) (x1 : Int) (x5 : Int) : Option (Int × List Int) := lim (fun k => laws_markInt64S.l0 k x0 x1 x5)
theorem laws_markInt64S.l0lim (x0 : List Int) (x1 : Int) (x5 : Int) : IsLim (fun k => laws_markInt64S.l0 k x0 x1 x5) (laws_markInt64S.l0d x0 x1 x5) := lim_spec (fun k => (laws_markInt64S.mono_l k) x0 x1 x5)
theorem laws_markInt64S.l0d_eq (x0 : List Int) (x1 : Int) (x5 : Int) : laws_markInt64S.l0d x0 x1 x5 = if x5 < (x0.length : Int) then (if 0 ≤ x5 then (laws_markInt64S.l0d (x0.set (x5 : Int).toNat x1) (wrap64 (x1 + 1)) (wrap64 (x5 + 1))) else (none)) else (some (x1, x0)) := by
  refine IsLim.unique (laws_markInt64S.l0lim _ _ _) ?_
  refine IsLim.shift (by rfl) ?_
  simp only [laws_markInt64S.l0]
  repeat' (first | exact IsLim.const _ | refine IsLim.ite ?_ ?_ | refine IsLim.bind ?_ (fun _ => ?_) | exact laws_markInt64S.l0lim ..)
noncomputable def laws_markInt64S.d (l0 : List Int) (a1 : Int) : Option (Int × List Int) := lim (fun k => laws_markInt64S.f k l0 a1)
theorem laws_markInt64S.lim (l0 : List Int) (a1 : Int) : IsLim (fun k => laws_markInt64S.f k l0 a1) (laws_markInt64S.d l0 a1) := lim_spec (fun k => laws_markInt64S.mono l0 a1 k)
theorem laws_markInt64S.d_eq (l0 : List Int) (a1 : Int) : laws_markInt64S.d l0 a1 = laws_markInt64S.l0d l0 a1 0 := by
  refine IsLim.unique (laws_markInt64S.lim _ _) ?_
  unfold laws_markInt64S.f
  repeat' (first | exact IsLim.const _ | refine IsLim.ite ?_ ?_ | refine IsLim.bind ?_ (fun _ => ?_) | exact laws_markInt64S.l0lim ..)
noncomputable def laws_heldInt64S.l0d (x0 : List Int) (x1 : Int) (x5 : Int) : Option (Int) := lim (fun k => laws_heldInt64S.l0 k x0 x1 x5)
theorem laws_heldInt64S.l0lim (x0 : List Int) (x1 : Int) (x5 : Int) : IsLim (fun k => laws_heldInt64S.l0 k x0 x1 x5) (laws_heldInt64S.l0d x0 x1 x5) := lim_spec (fun k => (laws_heldInt64S.mono_l k) x0 x1 x5)
theorem laws_heldInt64S.l0d_eq (x0 : List Int) (x1 : Int) (x5 : Int) : laws_heldInt64S.l0d x0 x1 x5 = if x5 < (x0.length : Int) then (if 0 ≤ x5 then (if (rd x0 x5) = x1 then (laws_heldInt64S.l0d x0 (wrap64 (x1 + 1)) (wrap64 (x5 + 1))) else (some (-1))) else (none)) else (some x1) := by
  refine IsLim.unique (laws_heldInt64S.l0lim _ _ _) ?_
  refine IsLim.shift (by rfl) ?_
  simp only [laws_heldInt64S.l0]
  repeat' (first | exact IsLim.const _ | refine IsLim.ite ?_ ?_ | refine IsLim.bind ?_ (fun _ => ?_) | exact laws_heldInt64S.l0lim ..)
noncomputable def laws_heldInt64S.d (l0 : List Int) (a1 : Int) : Option (Int) := lim (fun k => laws_heldInt64S.f k l0 a1)
theorem laws_heldInt64S.lim (l0 : List Int) (a1 : Int) : IsLim (fun k => laws_heldInt64S.f k l0 a1) (laws_heldInt64S.d l0 a1) := lim_spec (fun k => laws_heldInt64S.mono l0 a1 k)
theorem laws_heldInt64S.d_eq (l0 : List Int) (a1 : Int) : laws_heldInt64S.d l0 a1 = laws_heldInt64S.l0d l0 a1 0 := by
  refine IsLim.unique (laws_heldInt64S.lim _ _) ?_
  unfold laws_heldInt64S.f
  repeat' (first | exact IsLim.const _ | refine IsLim.ite ?_ ?_ | refine IsLim.bind ?_ (fun _ => ?_) | exact laws_heldInt64S.l0lim ..)
end Go.Proofs.Ytbgbblgdbcjibaa.P
end
section
namespace Go.Proofs.Ytbgbblgdbcjibaa.P
open Go.RowKit Go.Proofs.YtbgbblgdbcjibaaW.PrintWords Go.Proofs.YtbgbblgdbcjibaaW.PrintLast Go.Proofs.YtbgbblgdbcjibaaW.PrintMore
set_option linter.unusedVariables false
set_option linter.unusedSimpArgs false
noncomputable def spec_SubfieldIn.l0d (x1 : Int) (x6 : List Int) (x7 : Int) (x192000 : Int) (x192001 : Int) : Option (List Int × Int) := lim (fun k => spec_SubfieldIn.l0 k x1 x6 x7 x192000 x192001)
theorem spec_SubfieldIn.l0lim (x1 : Int) (x6 : List Int) (x7 : Int) (x192000 : Int) (x192001 : Int) : IsLim (fun k => spec_SubfieldIn.l0 k x1 x6 x7 x192000 x192001) (spec_SubfieldIn.l0d x1 x6 x7 x192000 x192001) := lim_spec (fun k => (spec_SubfieldIn.mono_l k) x1 x6 x7 x192000 x192001)
theorem spec_SubfieldIn.l0d_eq (x1 : Int) (x6 : List Int) (x7 : Int) (x192000 : Int) (x192001 : Int) : spec_SubfieldIn.l0d x1 x6 x7 x192000 x192001 = (spec_l01Size.f x192000 x192001).bind fun t203 => (if x7 < t203 then ((spec_l01Square.d x192000 x192001 x7 x1).bind fun t204 => (if t204 = x7 then (if x6.length < 17592186044416 then (spec_SubfieldIn.l0d x1 (x6 ++ [x7]) (wrap64 (x7 + 1)) x192000 x192001) else (none)) else (spec_SubfieldIn.l0d x1 x6 (wrap64 (x7 + 1)) x192000 x192001))) else (some (x6, 0))) := by
  refine IsLim.unique (spec_SubfieldIn.l0lim _ _ _ _ _) ?_
  refine IsLim.shift (by rfl) ?_
  simp only [spec_SubfieldIn.l0]
  repeat' (first | exact IsLim.const _ | refine IsLim.ite ?_ ?_ | refine IsLim.bind ?_ (fun _ => ?_) | exact spec_l01Square.lim .. | exact spec_SubfieldIn.l0lim ..)
noncomputable def spec_SubfieldIn.d (a0_0 : Int) (a0_1 : Int) (a1 : Int) : Option (List Int × Int) := lim (fun k => spec_SubfieldIn.f k a0_0 a0_1 a1)
theorem spec_SubfieldIn.lim (a0_0 : Int) (a0_1 : Int) (a1 : Int) : IsLim (fun k => spec_SubfieldIn.f k a0_0 a0_1 a1) (spec_SubfieldIn.d a0_0 a0_1 a1) := lim_spec (fun k => spec_SubfieldIn.mono a0_0 a0_1 a1 k)
theorem spec_SubfieldIn.d_eq (a0_0 : Int) (a0_1 : Int) (a1 : Int) : spec_SubfieldIn.d a0_0 a0_1 a1 = (spec_l01Ok.d a0_0 a0_1).bind fun t192 => (if t192 = true then ((spec_l00In.f a1 1 a0_0).bind fun t196 => (if t196 = true then (spec_SubfieldIn.l0d a1 (([] : List Int)) 0 a0_0 a0_1) else (some ((([] : List Int)), 2)))) else (some ((([] : List Int)), 1))) := by
  refine IsLim.unique (spec_SubfieldIn.lim _ _ _) ?_
  unfold spec_SubfieldIn.f
  repeat' (first | exact IsLim.const _ | refine IsLim.ite ?_ ?_ | refine IsLim.bind ?_ (fun _ => ?_) | exact spec_l01Ok.lim .. | exact spec_SubfieldIn.l0lim ..)
noncomputable def impl_SubfieldIn_1.d (a0 : Int) (a1_0 : Int) (a1_1 : Int) (a2_0 : Int) : Option (Bool) := lim (fun k => impl_SubfieldIn_1.f k a0 a1_0 a1_1 a2_0)
theorem impl_SubfieldIn_1.lim (a0 : Int) (a1_0 : Int) (a1_1 : Int) (a2_0 : Int) : IsLim (fun k => impl_SubfieldIn_1.f k a0 a1_0 a1_1 a2_0) (impl_SubfieldIn_1.d a0 a1_0 a1_1 a2_0) := lim_spec (fun k => impl_SubfieldIn_1.mono a0 a1_0 a1_1 a2_0 k)
theorem impl_SubfieldIn_1.d_eq (a0 : Int) (a1_0 : Int) (a1_1 : Int) (a2_0 : Int) : impl_SubfieldIn_1.d a0 a1_0 a1_1 a2_0 = (impl_Field_square.d a1_0 a1_1 a0 a2_0).bind fun t218 => (some (t218 != a0)) := by
  refine IsLim.unique (impl_SubfieldIn_1.lim _ _ _ _) ?_
  unfold impl_SubfieldIn_1.f
  repeat' (first | exact IsLim.const _ | refine IsLim.ite ?_ ?_ | refine IsLim.bind ?_ (fun _ => ?_) | exact impl_Field_square.lim ..)
noncomputable def slices_IndexFunc_int64_int64_AT_impl_SubfieldIn_1.l0d (x0 : List Int) (x7 : Int) (x8 : Int) (x49000 : Int) (x49001 : Int) (x50000 : Int) : Option (Int) := lim (fun k => slices_IndexFunc_int64_int64_AT_impl_SubfieldIn_1.l0 k x0 x7 x8 x49000 x49001 x50000)
theorem slices_IndexFunc_int64_int64_AT_impl_SubfieldIn_1.l0lim (x0 : List Int) (x7 : Int) (x8 : Int) (x49000 : Int) (x49001 : Int) (x50000 : Int) : IsLim (fun k => slices_IndexFunc_int64_int64_AT_impl_SubfieldIn_1.l0 k x0 x7 x8 x49000 x49001 x50000) (slices_IndexFunc_int64_int64_AT_impl_SubfieldIn_1.l0d x0 x7 x8 x49000 x49001 x50000) := lim_spec (fun k => (slices_IndexFunc_int64_int64_AT_impl_SubfieldIn_1.mono_l k) x0 x7 x8 x49000 x49001 x50000)
theorem slices_IndexFunc_int64_int64_AT_impl_SubfieldIn_1.l0d_eq (x0 : List Int) (x7 : Int) (x8 : Int) (x49000 : Int) (x49001 : Int) (x50000 : Int) : slices_IndexFunc_int64_int64_AT_impl_SubfieldIn_1.l0d x0 x7 x8 x49000 x49001 x50000 = if x8 < x7 then (if 0 ≤ x8 then (if x8 < (x0.length : Int) then ((impl_SubfieldIn_1.d (rd x0 x8) x49000 x49001 x50000).bind fun t220 => (if t220 = true then (some x8) else (slices_IndexFunc_int64_int64_AT_impl_SubfieldIn_1.l0d x0 x7 (wrap64 (x8 + 1)) x49000 x49001 x50000))) else (none)) else (none)) else (some (-1)) := by
  refine IsLim.unique (slices_IndexFunc_int64_int64_AT_impl_SubfieldIn_1.l0lim _ _ _ _ _ _) ?_
  refine IsLim.shift (by rfl) ?_
  simp only [slices_IndexFunc_int64_int64_AT_impl_SubfieldIn_1.l0]
  repeat' (first | exact IsLim.const _ | refine IsLim.ite ?_ ?_ | refine IsLim.bind ?_ (fun _ => ?_) | exact impl_SubfieldIn_1.lim .. | exact slices_IndexFunc_int64_int64_AT_impl_SubfieldIn_1.l0lim ..)
noncomputable def slices_IndexFunc_int64_int64_AT_impl_SubfieldIn_1.d (l0 : List Int) (a1_0 : Int) (a1_1 : Int) (a1_2 : Int) : Option (Int) := lim (fun k => slices_IndexFunc_int64_int64_AT_impl_SubfieldIn_1.f k l0 a1_0 a1_1 a1_2)
theorem slices_IndexFunc_int64_int64_AT_impl_SubfieldIn_1.lim (l0 : List Int) (a1_0 : Int) (a1_1 : Int) (a1_2 : Int) : IsLim (fun k => slices_IndexFunc_int64_int64_AT_impl_SubfieldIn_1.f k l0 a1_0 a1_1 a1_2) (slices_IndexFunc_int64_int64_AT_impl_SubfieldIn_1.d l0 a1_0 a1_1 a1_2) := lim_spec (fun k => slices_IndexFunc_int64_int64_AT_impl_SubfieldIn_1.mono l0 a1_0 a1_1 a1_2 k)
theorem slices_IndexFunc_int64_int64_AT_impl_SubfieldIn_1.d_eq (l0 : List Int) (a1_0 : Int) (a1_1 : Int) (a1_2 : Int) : slices_IndexFunc_int64_int64_AT_impl_SubfieldIn_1.d l0 a1_0 a1_1 a1_2 = slices_IndexFunc_int64_int64_AT_impl_SubfieldIn_1.l0d l0 (l0.length : Int) 0 a1_0 a1_1 a1_2 := by
  refine IsLim.unique (slices_IndexFunc_int64_int64_AT_impl_SubfieldIn_1.lim _ _ _ _) ?_
  unfold slices_IndexFunc_int64_int64_AT_impl_SubfieldIn_1.f
  repeat' (first | exact IsLim.const _ | refine IsLim.ite ?_ ?_ | refine IsLim.bind ?_ (fun _ => ?_) | exact slices_IndexFunc_int64_int64_AT_impl_SubfieldIn_1.l0lim ..)
end Go.Proofs.Ytbgbblgdbcjibaa.P
end
section
namespace Go.Proofs.Ytbgbblgdbcjibaa.P
open Go.RowKit Go.Proofs.YtbgbblgdbcjibaaW.PrintWords Go.Proofs.YtbgbblgdbcjibaaW.PrintLast Go.Proofs.YtbgbblgdbcjibaaW.PrintMore
set_option linter.unusedVariables false
set_option linter.unusedSimpArgs false
noncomputable def impl_Field_all.l0d (x3 : List Int) (x7 : Int) (x8 : Int) : Option (List Int) := lim (fun k => impl_Field_all.l0 k x3 x7 x8)
theorem impl_Field_all.l0lim (x3 : List Int) (x7 : Int) (x8 : Int) : IsLim (fun k => impl_Field_all.l0 k x3 x7 x8) (impl_Field_all.l0d x3 x7 x8) := lim_spec (fun k => (impl_Field_all.mono_l k) x3 x7 x8)
theorem impl_Field_all.l0d_eq (x3 : List Int) (x7 : Int) (x8 : Int) : impl_Field_all.l0d x3 x7 x8 = if x8 < x7 then (if x3.length < 17592186044416 then (impl_Field_all.l0d (x3 ++ [x8]) x7 (wrap64 (x8 + 1))) else (none)) else (some x3) := by
  refine IsLim.unique (impl_Field_all.l0lim _ _ _) ?_
  refine IsLim.shift (by rfl) ?_
  simp only [impl_Field_all.l0]
  repeat' (first | exact IsLim.const _ | refine IsLim.ite ?_ ?_ | refine IsLim.bind ?_ (fun _ => ?_) | exact impl_Field_all.l0lim ..)
noncomputable def impl_Field_all.d (a0_0 : Int) (a0_1 : Int) : Option (List Int) := lim (fun k => impl_Field_all.f k a0_0 a0_1)
theorem impl_Field_all.lim (a0_0 : Int) (a0_1 : Int) : IsLim (fun k => impl_Field_all.f k a0_0 a0_1) (impl_Field_all.d a0_0 a0_1) := lim_spec (fun k => impl_Field_all.mono a0_0 a0_1 k)
theorem impl_Field_all.d_eq (a0_0 : Int) (a0_1 : Int) : impl_Field_all.d a0_0 a0_1 = (impl_Field_count.f a0_0 a0_1).bind fun t212 => (impl_Field_all.l0d (([] : List Int)) t212 0) := by
  refine IsLim.unique (impl_Field_all.lim _ _) ?_
  unfold impl_Field_all.f
  repeat' (first | exact IsLim.const _ | refine IsLim.ite ?_ ?_ | refine IsLim.bind ?_ (fun _ => ?_) | exact impl_Field_all.l0lim ..)
end Go.Proofs.Ytbgbblgdbcjibaa.P
end
section
namespace Go.Proofs.Ytbgbblgdbcjibaa.P
open Go.RowKit Go.Proofs.YtbgbblgdbcjibaaW.PrintWords Go.Proofs.YtbgbblgdbcjibaaW.PrintLast Go.Proofs.YtbgbblgdbcjibaaW.PrintMore
set_option linter.unusedVariables false
set_option linter.unusedSimpArgs false
noncomputable def slices_DeleteFunc_int64_int64_AT_impl_SubfieldIn_1.l0d (x0 : List Int) (x5 : Int) (x6 : Int) (x49000 : Int) (x49001 : Int) (x50000 : Int) : Option (List Int) := lim (fun k => slices_DeleteFunc_int64_int64_AT_impl_SubfieldIn_1.l0 k x0 x5 x6 x49000 x49001 x50000)
theorem slices_DeleteFunc_int64_int64_AT_impl_SubfieldIn_1.l0lim (x0 : List Int) (x5 : Int) (x6 : Int) (x49000 : Int) (x49001 : Int) (x50000 : Int) : IsLim (fun k => slices_DeleteFunc_int64_int64_AT_impl_SubfieldIn_1.l0 k x0 x5 x6 x49000 x49001 x50000) (slices_DeleteFunc_int64_int64_AT_impl_SubfieldIn_1.l0d x0 x5 x6 x49000 x49001 x50000) := lim_spec (fun k => (slices_DeleteFunc_int64_int64_AT_impl_SubfieldIn_1.mono_l k) x0 x5 x6 x49000 x49001 x50000)
theorem slices_DeleteFunc_int64_int64_AT_impl_SubfieldIn_1.l0d_eq (x0 : List Int) (x5 : Int) (x6 : Int) (x49000 : Int) (x49001 : Int) (x50000 : Int) : slices_DeleteFunc_int64_int64_AT_impl_SubfieldIn_1.l0d x0 x5 x6 x49000 x49001 x50000 = if x6 < (x0.length : Int) then (if 0 ≤ x6 then ((impl_SubfieldIn_1.d (rd x0 x6) x49000 x49001 x50000).bind fun t223 => (if t223 = true then (slices_DeleteFunc_int64_int64_AT_impl_SubfieldIn_1.l0d x0 x5 (wrap64 (x6 + 1)) x49000 x49001 x50000) else (if 0 ≤ x5 then (if x5 < (x0.length : Int) then (slices_DeleteFunc_int64_int64_AT_impl_SubfieldIn_1.l0d (x0.set (x5 : Int).toNat (rd x0 x6)) (wrap64 (x5 + 1)) (wrap64 (x6 + 1)) x49000 x49001 x50000) else (none)) else (none)))) else (none)) else (if 0 ≤ x5 then (if x5 ≤ (x0.length : Int) then (some ((clrEnd x0 (x5 : Int).toNat).take (x5 : Int).toNat)) else (none)) else (none)) := by
  refine IsLim.unique (slices_DeleteFunc_int64_int64_AT_impl_SubfieldIn_1.l0lim _ _ _ _ _ _) ?_
  refine IsLim.shift (by rfl) ?_
  simp only [slices_DeleteFunc_int64_int64_AT_impl_SubfieldIn_1.l0]
  repeat' (first | exact IsLim.const _ | refine IsLim.ite ?_ ?_ | refine IsLim.bind ?_ (fun _ => ?_) | exact impl_SubfieldIn_1.lim .. | exact slices_DeleteFunc_int64_int64_AT_impl_SubfieldIn_1.l0lim ..)
noncomputable def slices_DeleteFunc_int64_int64_AT_impl_SubfieldIn_1.d (l0 : List Int) (a1_0 : Int) (a1_1 : Int) (a1_2 : Int) : Option (List Int) := lim (fun k => slices_DeleteFunc_int64_int64_AT_impl_SubfieldIn_1.f k l0 a1_0 a1_1 a1_2)
theorem slices_DeleteFunc_int64_int64_AT_impl_SubfieldIn_1.lim (l0 : List Int) (a1_0 : Int) (a1_1 : Int) (a1_2 : Int) : IsLim (fun k => slices_DeleteFunc_int64_int64_AT_impl_SubfieldIn_1.f k l0 a1_0 a1_1 a1_2) (slices_DeleteFunc_int64_int64_AT_impl_SubfieldIn_1.d l0 a1_0 a1_1 a1_2) := lim_spec (fun k => slices_DeleteFunc_int64_int64_AT_impl_SubfieldIn_1.mono l0 a1_0 a1_1 a1_2 k)
theorem slices_DeleteFunc_int64_int64_AT_impl_SubfieldIn_1.d_eq (l0 : List Int) (a1_0 : Int) (a1_1 : Int) (a1_2 : Int) : slices_DeleteFunc_int64_int64_AT_impl_SubfieldIn_1.d l0 a1_0 a1_1 a1_2 = (slices_IndexFunc_int64_int64_AT_impl_SubfieldIn_1.d l0 a1_0 a1_1 a1_2).bind fun t221 => (if t221 = (-1) then (some l0) else (slices_DeleteFunc_int64_int64_AT_impl_SubfieldIn_1.l0d l0 t221 (wrap64 (t221 + 1)) a1_0 a1_1 a1_2)) := by
  refine IsLim.unique (slices_DeleteFunc_int64_int64_AT_impl_SubfieldIn_1.lim _ _ _ _) ?_
  unfold slices_DeleteFunc_int64_int64_AT_impl_SubfieldIn_1.f
  repeat' (first | exact IsLim.const _ | refine IsLim.ite ?_ ?_ | refine IsLim.bind ?_ (fun _ => ?_) | exact slices_IndexFunc_int64_int64_AT_impl_SubfieldIn_1.lim .. | exact slices_DeleteFunc_int64_int64_AT_impl_SubfieldIn_1.l0lim ..)
noncomputable def impl_SubfieldIn.d (a0_0 : Int) (a0_1 : Int) (a1 : Int) : Option (List Int × Int) := lim (fun k => impl_SubfieldIn.f k a0_0 a0_1 a1)
theorem impl_SubfieldIn.lim (a0_0 : Int) (a0_1 : Int) (a1 : Int) : IsLim (fun k => impl_SubfieldIn.f k a0_0 a0_1 a1) (impl_SubfieldIn.d a0_0 a0_1 a1) := lim_spec (fun k => impl_SubfieldIn.mono a0_0 a0_1 a1 k)
theorem impl_SubfieldIn.d_eq (a0_0 : Int) (a0_1 : Int) (a1 : Int) : impl_SubfieldIn.d a0_0 a0_1 a1 = (impl_within.f a1 1 a0_0).bind fun t235 => ((impl_Field_code.d a0_0 a0_1 t235 ([] : List Int)).bind fun t236 => (if t236 = 0 then ((impl_Field_all.d a0_0 a0_1).bind fun t237 => ((slices_DeleteFunc_int64_int64_AT_impl_SubfieldIn_1.d t237 a0_0 a0_1 a1).bind fun t240 => (some (t240, 0)))) else (some (([] : List Int), t236)))) := by
  refine IsLim.unique (impl_SubfieldIn.lim _ _ _) ?_
  unfold impl_SubfieldIn.f
  repeat' (first | exact IsLim.const _ | refine IsLim.ite ?_ ?_ | refine IsLim.bind ?_ (fun _ => ?_) | exact impl_Field_code.lim .. | exact impl_Field_all.lim .. | exact slices_DeleteFunc_int64_int64_AT_impl_SubfieldIn_1.lim ..)
end Go.Proofs.Ytbgbblgdbcjibaa.P
end
section
namespace Go.Proofs.Ytbgbblgdbcjibaa.P
open Go.RowKit Go.Proofs.YtbgbblgdbcjibaaW.PrintWords Go.Proofs.YtbgbblgdbcjibaaW.PrintLast Go.Proofs.YtbgbblgdbcjibaaW.PrintMore
set_option linter.unusedVariables false
set_option linter.unusedSimpArgs false
noncomputable def laws_eqInt64S.l0d (x0 : List Int) (x1 : List Int) (x5 : Int) : Option (Bool) := lim (fun k => laws_eqInt64S.l0 k x0 x1 x5)
theorem laws_eqInt64S.l0lim (x0 : List Int) (x1 : List Int) (x5 : Int) : IsLim (fun k => laws_eqInt64S.l0 k x0 x1 x5) (laws_eqInt64S.l0d x0 x1 x5) := lim_spec (fun k => (laws_eqInt64S.mono_l k) x0 x1 x5)
theorem laws_eqInt64S.l0d_eq (x0 : List Int) (x1 : List Int) (x5 : Int) : laws_eqInt64S.l0d x0 x1 x5 = if x5 < (x0.length : Int) then (if 0 ≤ x5 then (if x5 < (x1.length : Int) then (if (rd x0 x5) = (rd x1 x5) then (laws_eqInt64S.l0d x0 x1 (wrap64 (x5 + 1))) else (some false)) else (none)) else (none)) else (some true) := by
  refine IsLim.unique (laws_eqInt64S.l0lim _ _ _) ?_
  refine IsLim.shift (by rfl) ?_
  simp only [laws_eqInt64S.l0]
  repeat' (first | exact IsLim.const _ | refine IsLim.ite ?_ ?_ | refine IsLim.bind ?_ (fun _ => ?_) | exact laws_eqInt64S.l0lim ..)
noncomputable def laws_eqInt64S.d (l0 : List Int) (l1 : List Int) : Option (Bool) := lim (fun k => laws_eqInt64S.f k l0 l1)
theorem laws_eqInt64S.lim (l0 : List Int) (l1 : List Int) : IsLim (fun k => laws_eqInt64S.f k l0 l1) (laws_eqInt64S.d l0 l1) := lim_spec (fun k => laws_eqInt64S.mono l0 l1 k)
theorem laws_eqInt64S.d_eq (l0 : List Int) (l1 : List Int) : laws_eqInt64S.d l0 l1 = if (l0.length : Int) = (l1.length : Int) then (laws_eqInt64S.l0d l0 l1 0) else (some false) := by
  refine IsLim.unique (laws_eqInt64S.lim _ _) ?_
  unfold laws_eqInt64S.f
  repeat' (first | exact IsLim.const _ | refine IsLim.ite ?_ ?_ | refine IsLim.bind ?_ (fun _ => ?_) | exact laws_eqInt64S.l0lim ..)
end Go.Proofs.Ytbgbblgdbcjibaa.P
end
section
namespace Go.Proofs.Ytbgbblgdbcjibaa.P
open Go.RowKit Go.Proofs.YtbgbblgdbcjibaaW.PrintWords Go.Proofs.YtbgbblgdbcjibaaW.PrintLast Go.Proofs.YtbgbblgdbcjibaaW.PrintMore
set_option linter.unusedVariables false
set_option linter.unusedSimpArgs false
noncomputable def laws_FnExactSubfieldIn.j0d (x1 : Int) (x5 : List Int) (x6 : Int) (x7 : List Int) (x35 : Bool) (x248000 : Int) (x248001 : Int) : Option (Bool) := lim (fun k => laws_FnExactSubfieldIn.j0 k x1 x5 x6 x7 x35 x248000 x248001)
theorem laws_FnExactSubfieldIn.j0lim (x1 : Int) (x5 : List Int) (x6 : Int) (x7 : List Int) (x35 : Bool) (x248000 : Int) (x248001 : Int) : IsLim (fun k => laws_FnExactSubfieldIn.j0 k x1 x5 x6 x7 x35 x248000 x248001) (laws_FnExactSubfieldIn.j0d x1 x5 x6 x7 x35 x248000 x248001) := lim_spec (fun k => (laws_FnExactSubfieldIn.mono_l k).1 x1 x5 x6 x7 x35 x248000 x248001)
noncomputable def laws_FnExactSubfieldIn.j1d (x7 : List Int) (x9 : Int) (x62 : Bool) : Option (Bool) := lim (fun k => laws_FnExactSubfieldIn.j1 k x7 x9 x62)
theorem laws_FnExactSubfieldIn.j1lim (x7 : List Int) (x9 : Int) (x62 : Bool) : IsLim (fun k => laws_FnExactSubfieldIn.j1 k x7 x9 x62) (laws_FnExactSubfieldIn.j1d x7 x9 x62) := lim_spec (fun k => (laws_FnExactSubfieldIn.mono_l k).2 x7 x9 x62)
theorem laws_FnExactSubfieldIn.j0d_eq (x1 : Int) (x5 : List Int) (x6 : Int) (x7 : List Int) (x35 : Bool) (x248000 : Int) (x248001 : Int) : laws_FnExactSubfieldIn.j0d x1 x5 x6 x7 x35 x248000 x248001 = if x35 = true then (some false) else ((laws_markInt64S.d x7 1).bind fun bt261 => ((laws_heldInt64S.d bt261.2 1).bind fun t263 => (if t263 < 0 then (some false) else (if t263 = bt261.1 then ((laws_toField.f x248000 x248001).bind fun bt264 => ((impl_SubfieldIn.d bt264.1 bt264.2 x1).bind fun bt266 => ((laws_eqInt64S.d bt266.1 x5).bind fun t270 => (if t270 = true then (laws_FnExactSubfieldIn.j1d bt261.2 bt261.1 (bt266.2 != x6)) else (laws_FnExactSubfieldIn.j1d bt261.2 bt261.1 true))))) else (some false))))) := by
  refine IsLim.unique (laws_FnExactSubfieldIn.j0lim _ _ _ _ _ _ _) ?_
  refine IsLim.shift (by rfl) ?_
  simp only [laws_FnExactSubfieldIn.j0]
  repeat' (first | exact IsLim.const _ | refine IsLim.ite ?_ ?_ | refine IsLim.bind ?_ (fun _ => ?_) | exact laws_markInt64S.lim .. | exact laws_heldInt64S.lim .. | exact impl_SubfieldIn.lim .. | exact laws_eqInt64S.lim .. | exact laws_FnExactSubfieldIn.j1lim ..)
theorem laws_FnExactSubfieldIn.j1d_eq (x7 : List Int) (x9 : Int) (x62 : Bool) : laws_FnExactSubfieldIn.j1d x7 x9 x62 = if x62 = true then (some false) else ((laws_heldInt64S.d x7 1).bind fun t271 => (if t271 < 0 then (some false) else (if t271 = x9 then (some true) else (some false)))) := by
  refine IsLim.unique (laws_FnExactSubfieldIn.j1lim _ _ _) ?_
  refine IsLim.shift (by rfl) ?_
  simp only [laws_FnExactSubfieldIn.j1]
  repeat' (first | exact IsLim.const _ | refine IsLim.ite ?_ ?_ | refine IsLim.bind ?_ (fun _ => ?_) | exact laws_heldInt64S.lim ..)
noncomputable def laws_FnExactSubfieldIn.d (a0_0 : Int) (a0_1 : Int) (a1 : Int) : Option (Bool) := lim (fun k => laws_FnExactSubfieldIn.f k a0_0 a0_1 a1)
theorem laws_FnExactSubfieldIn.lim (a0_0 : Int) (a0_1 : Int) (a1 : Int) : IsLim (fun k => laws_FnExactSubfieldIn.f k a0_0 a0_1 a1) (laws_FnExactSubfieldIn.d a0_0 a0_1 a1) := lim_spec (fun k => laws_FnExactSubfieldIn.mono a0_0 a0_1 a1 k)
theorem laws_FnExactSubfieldIn.d_eq (a0_0 : Int) (a0_1 : Int) (a1 : Int) : laws_FnExactSubfieldIn.d a0_0 a0_1 a1 = (laws_toField.f a0_0 a0_1).bind fun bt248 => ((spec_SubfieldIn.d bt248.1 bt248.2 a1).bind fun bt250 => ((laws_toField.f a0_0 a0_1).bind fun bt254 => ((impl_SubfieldIn.d bt254.1 bt254.2 a1).bind fun bt256 => ((laws_eqInt64S.d bt256.1 bt250.1).bind fun t260 => (if t260 = true then (laws_FnExactSubfieldIn.j0d a1 bt250.1 bt250.2 bt256.1 (bt256.2 != bt250.2) a0_0 a0_1) else (laws_FnExactSubfieldIn.j0d a1 bt250.1 bt250.2 bt256.1 true a0_0 a0_1)))))) := by
  refine IsLim.unique (laws_FnExactSubfieldIn.lim _ _ _) ?_
  unfold laws_FnExactSubfieldIn.f
  repeat' (first | exact IsLim.const _ | refine IsLim.ite ?_ ?_ | refine IsLim.bind ?_ (fun _ => ?_) | exact spec_SubfieldIn.lim .. | exact impl_SubfieldIn.lim .. | exact laws_eqInt64S.lim .. | exact laws_FnExactSubfieldIn.j0lim ..)
end Go.Proofs.Ytbgbblgdbcjibaa.P
end
section
namespace Go.Proofs.Ytbgbblgdbcjibaa.P
open Go.RowKit Go.Proofs.YtbgbblgdbcjibaaW.PrintWords Go.Proofs.YtbgbblgdbcjibaaW.PrintLast Go.Proofs.YtbgbblgdbcjibaaW.PrintMore
set_option linter.unusedVariables false
set_option linter.unusedSimpArgs false
theorem wr {x : Int} (h0 : -9223372036854775808 ≤ x) (h1 : x < 9223372036854775808) : wrap64 x = x := by
  unfold wrap64; omega
theorem wrS {i n : Nat} (h : i < n) (hn : n ≤ 17592186044416) : wrap64 ((i : Int) + 1) = ((i + 1 : Nat) : Int) := by rw [wr (by omega) (by omega)]; omega
theorem u64_id {x : Int} (h0 : 0 ≤ x) (h1 : x < 9223372036854775808) : IntKind.u64.wrap x = x := by rw [IntKind.wrap_u64]; omega
theorem down {Q : Nat → Prop} {n : Nat} (h0 : Q n) (hs : ∀ i, i < n → Q (i + 1) → Q i) : ∀ i, i ≤ n → Q i := by
  intro i hi
  obtain ⟨d, hd⟩ : ∃ d, d = n - i := ⟨_, rfl⟩
  induction d generalizing i with
  | zero => have : i = n := by omega
            exact this ▸ h0
  | succ d ih => exact hs i (by omega) (ih (i + 1) (by omega) (by omega))
theorem rd_get {l : List Int} {i : Nat} (h : i < l.length) : rd l (i : Int) = l[i] := rd_at l i h
theorem bind_some' {α β : Type} (a : α) (f : α → Option β) : (some a).bind f = f a := rfl
theorem bind_ok {α β : Type} {x : Option α} {f : α → Option β} {a : α} {b : β} (h : x = some a) (h' : f a = some b) : x.bind f = some b := by rw [h]; exact h'
theorem ite_t {α : Type} {c : Prop} [Decidable c] {a b : Option α} {v : α} (h : c) (h' : a = some v) : (if c then a else b) = some v := by rw [if_pos h]; exact h'
theorem ite_f {α : Type} {c : Prop} [Decidable c] {a b : Option α} {v : α} (h : ¬ c) (h' : b = some v) : (if c then a else b) = some v := by rw [if_neg h]; exact h'
theorem some_bind_ok {α β : Type} {f : α → Option β} {a : α} {b : β} (h' : f a = some b) : (some a).bind f = some b := h'
theorem bind_assoc_ok {α β γ : Type} {x : Option α} {f : α → Option β} {g : β → Option γ} {b : γ} (h : (x.bind fun y => (f y).bind g) = some b) : (x.bind f).bind g = some b := by rw [Option.bind_assoc]; exact h
theorem ite_bind_t {α β : Type} {c : Prop} [Decidable c] {x y : Option α} {g : α → Option β} {b : β} (h : c) (h' : x.bind g = some b) : (if c then x else y).bind g = some b := by rw [if_pos h]; exact h'
theorem ite_bind_f {α β : Type} {c : Prop} [Decidable c] {x y : Option α} {g : α → Option β} {b : β} (h : ¬ c) (h' : y.bind g = some b) : (if c then x else y).bind g = some b := by rw [if_neg h]; exact h'
/-- a, a + 1, .. -/
def iota (a : Int) : Nat → List Int
  | 0 => []
  | n + 1 => a :: iota (a + 1) n
theorem iota_length (a : Int) (n : Nat) : (iota a n).length = n := by
  induction n generalizing a with
  | zero => rfl
  | succ n ih => simp [iota, ih]
theorem iota_get (a : Int) (n : Nat) : ∀ (i : Nat) (h : i < (iota a n).length), (iota a n)[i] = a + i := by
  induction n generalizing a with
  | zero => intro i h; simp [iota] at h
  | succ n ih =>
    intro i h
    cases i with
    | zero => simp [iota]
    | succ i => simp only [iota, List.getElem_cons_succ]; rw [ih]; omega
theorem iota_snoc (a : Int) (n : Nat) : iota a (n + 1) = iota a n ++ [a + n] := by
  induction n generalizing a with
  | zero => simp [iota]
  | succ n ih => rw [iota, ih, iota]; simp; omega
/-- the first place where `q` holds, by a walk upward -/
theorem index_gen {F : Int → Option Int} {n : Nat} {q : Nat → Bool} (hend : F (n : Int) = some (-1))
    (heq : ∀ i : Nat, i < n → F (i : Int) = if q i = true then some (i : Int) else F ((i + 1 : Nat) : Int)) :
    ∃ v, F 0 = some v ∧ (decide (v ≥ 0) = !decide (∀ i, i < n → q i = false)) ∧ (0 ≤ v → v.toNat < n ∧ q v.toNat = true ∧ ∀ j, j < v.toNat → q j = false) := by
  have key : ∀ i, i ≤ n → ∃ v, F (i : Int) = some v ∧ (v ≥ 0 ↔ ¬ ∀ j, i ≤ j → j < n → q j = false) ∧ (0 ≤ v → i ≤ v.toNat ∧ v.toNat < n ∧ q v.toNat = true ∧ ∀ j, i ≤ j → j < v.toNat → q j = false) := by
    apply down
    · exact ⟨-1, hend, ⟨fun h => absurd h (by decide), fun h => absurd (fun j _ _ => by omega) h⟩, fun h => absurd h (by decide)⟩
    · intro i hi ⟨v, e, c, d⟩
      rw [heq i hi]
      by_cases hq : q i = true
      · rw [if_pos hq]
        exact ⟨i, rfl, ⟨fun _ h => (by rw [h i (by omega) hi] at hq; cases hq), fun _ => by omega⟩, fun _ => ⟨by simp, by simpa using hi, by simpa using hq, fun j h1 h2 => by simp at h2; omega⟩⟩
      · rw [if_neg hq]
        have hq' : q i = false := Bool.eq_false_iff.mpr hq
        refine ⟨v, e, c.trans ⟨fun h h' => h fun j a b => h' j (by omega) b, fun h h' => h fun j a b => ?_⟩, fun h => ?_⟩
        · rcases Nat.lt_or_ge i j with z | z
          · exact h' j z b
          · have : j = i := by omega
            rw [this, hq']
        · obtain ⟨a1, a2, a3, a4⟩ := d h
          refine ⟨by omega, a2, a3, fun j h1 h2 => ?_⟩
          rcases Nat.lt_or_ge i j with z | z
          · exact a4 j z h2
          · have : j = i := by omega
            rw [this, hq']
  obtain ⟨v, e, c, d⟩ := key 0 (by omega)
  refine ⟨v, e, ?_, fun h => ⟨(d h).2.1, (d h).2.2.1, fun j hj => (d h).2.2.2 j (by omega) hj⟩⟩
  rw [← decide_not]
  apply decide_eq_decide.mpr
  exact c.trans ⟨fun h h' => h fun j _ b => h' j b, fun h h' => h fun j b => h' j (by omega) b⟩
theorem all_get {l : List Int} {q : Int → Bool} : decide (∀ i, i < l.length → q (rd l (i : Int)) = true) = l.all q := by
  rw [Bool.eq_iff_iff, decide_eq_true_iff, List.all_eq_true]
  constructor
  · intro h x hx
    obtain ⟨i, hi, e⟩ := List.getElem_of_mem hx
    have := h i hi
    rwa [rd_get hi, e] at this
  · intro h i hi
    rw [rd_get hi]; exact h _ (List.getElem_mem hi)
end Go.Proofs.Ytbgbblgdbcjibaa.P
end
section
namespace Go.Proofs.Ytbgbblgdbcjibaa.P
open Go.RowKit Go.Proofs.YtbgbblgdbcjibaaW.PrintWords Go.Proofs.YtbgbblgdbcjibaaW.PrintLast Go.Proofs.YtbgbblgdbcjibaaW.PrintMore
set_option linter.unusedVariables false
set_option linter.unusedSimpArgs false
end Go.Proofs.Ytbgbblgdbcjibaa.P
end
section
namespace Go.Proofs.Ytbgbblgdbcjibaa.P
open Go.RowKit Go.Proofs.YtbgbblgdbcjibaaW.PrintWords Go.Proofs.YtbgbblgdbcjibaaW.PrintLast Go.Proofs.YtbgbblgdbcjibaaW.PrintMore
set_option linter.unusedVariables false
set_option linter.unusedSimpArgs false
theorem eqInt64S_v {a b : List Int} (h : a.length ≤ 17592186044416) : laws_eqInt64S.d a b = some (decide (a = b)) := by
  rw [laws_eqInt64S.d_eq]
  by_cases hl : a.length = b.length
  · rw [if_pos (by omega)]
    have key : ∀ i, i ≤ a.length → laws_eqInt64S.l0d a b (i : Int) = some (decide (a.drop i = b.drop i)) := by
      apply down
      · rw [laws_eqInt64S.l0d_eq, if_neg (by omega)]; simp [hl]
      · intro i hi ih
        have hb : i < b.length := by omega
        rw [laws_eqInt64S.l0d_eq, if_pos (by omega), if_pos (by omega), if_pos (by omega), wrS hi h, rd_get hi, rd_get hb, ih]
        rw [List.drop_eq_getElem_cons hi, List.drop_eq_getElem_cons hb]
        by_cases c : a[i] = b[i]
        · rw [if_pos c]; simp only [List.cons.injEq, c, true_and]
        · rw [if_neg c]; simp only [List.cons.injEq, c, false_and, decide_false]
    have := key 0 (by omega)
    simpa using this
  · rw [if_neg (by omega)]
    have : a ≠ b := fun e => hl (by rw [e])
    simp [this]
theorem eqInt64S_self {a : List Int} (h : a.length ≤ 17592186044416) : laws_eqInt64S.d a a = some true := by rw [eqInt64S_v h]; simp
end Go.Proofs.Ytbgbblgdbcjibaa.P
end
section
namespace Go.Proofs.Ytbgbblgdbcjibaa.P
open Go.RowKit Go.Proofs.YtbgbblgdbcjibaaW.PrintWords Go.Proofs.YtbgbblgdbcjibaaW.PrintLast Go.Proofs.YtbgbblgdbcjibaaW.PrintMore
set_option linter.unusedVariables false
set_option linter.unusedSimpArgs false
theorem markInt64S_v {l : List Int} {a : Int} (h : l.length ≤ 17592186044416) (h0 : 0 ≤ a) (h1 : a ≤ 4611686018427387904) :
    laws_markInt64S.d l a = some (a + l.length, iota a l.length) := by
  have key : ∀ i, i ≤ l.length → laws_markInt64S.l0d (iota a i ++ l.drop i) (a + i) (i : Int) = some (a + l.length, iota a l.length) := by
    apply down
    · rw [laws_markInt64S.l0d_eq, if_neg (by simp [iota_length])]; simp
    · intro i hi ih
      rw [laws_markInt64S.l0d_eq, if_pos (by simp [iota_length]; omega), if_pos (by omega), wrS hi h, wr (x := a + i + 1) (by omega) (by omega), ← ih]
      congr 1
      · rw [iota_snoc, Int.toNat_natCast, List.set_append]
        simp only [iota_length, Nat.lt_irrefl, if_false, Nat.sub_self]
        rw [List.drop_eq_getElem_cons hi]
        simp only [List.set_cons_zero, List.append_assoc, List.singleton_append]
      · omega
  rw [laws_markInt64S.d_eq]
  have := key 0 (by omega)
  simpa [iota] using this
theorem heldInt64S_v {n : Nat} {a : Int} (h : n ≤ 17592186044416) (h0 : 0 ≤ a) (h1 : a ≤ 4611686018427387904) :
    laws_heldInt64S.d (iota a n) a = some (a + n) := by
  have key : ∀ i, i ≤ n → laws_heldInt64S.l0d (iota a n) (a + i) (i : Int) = some (a + n) := by
    apply down
    · rw [laws_heldInt64S.l0d_eq, if_neg (by simp [iota_length])]
    · intro i hi ih
      have hi' : i < (iota a n).length := by rw [iota_length]; exact hi
      rw [laws_heldInt64S.l0d_eq, if_pos (by omega), if_pos (by omega), rd_get hi', iota_get, if_pos rfl, wrS hi h, wr (x := a + i + 1) (by omega) (by omega), ← ih]
      congr 1; omega
  rw [laws_heldInt64S.d_eq]
  have := key 0 (by omega)
  simpa using this
end Go.Proofs.Ytbgbblgdbcjibaa.P
end
section
namespace Go.Proofs.Ytbgbblgdbcjibaa.P
open Go.RowKit Go.Proofs.YtbgbblgdbcjibaaW.PrintWords Go.Proofs.YtbgbblgdbcjibaaW.PrintLast Go.Proofs.YtbgbblgdbcjibaaW.PrintMore
set_option linter.unusedVariables false
set_option linter.unusedSimpArgs false
theorem wrap_nat {n : Nat} (h : n < 9223372036854775808) : IntKind.i64.wrap (n : Int) = (n : Int) := by rw [IntKind.wrap_i64]; omega
theorem bits_nat {a : Nat} (ha : a < 9223372036854775808) : (BitVec.ofInt IntKind.i64.bits (a : Int)).toNat = a := by
  show (BitVec.ofInt 64 (a : Int)).toNat = a
  rw [BitVec.ofInt_natCast, BitVec.toNat_ofNat]
  exact Nat.mod_eq_of_lt (by omega)
theorem bxor {a b : Nat} (ha : a < 9223372036854775808) (hb : b < 9223372036854775808) : Go.bits .xor .i64 (a : Int) (b : Int) = ((a ^^^ b : Nat) : Int) := by
  show IntKind.i64.wrap ((BitVec.ofInt IntKind.i64.bits (a : Int) ^^^ BitVec.ofInt IntKind.i64.bits (b : Int)).toNat : Int) = _
  rw [BitVec.toNat_xor, bits_nat ha, bits_nat hb]
  exact wrap_nat (Nat.xor_lt_two_pow (n := 63) (by omega) (by omega))
theorem band {a b : Nat} (ha : a < 9223372036854775808) (hb : b < 9223372036854775808) : Go.bits .and .i64 (a : Int) (b : Int) = ((a &&& b : Nat) : Int) := by
  show IntKind.i64.wrap ((BitVec.ofInt IntKind.i64.bits (a : Int) &&& BitVec.ofInt IntKind.i64.bits (b : Int)).toNat : Int) = _
  rw [BitVec.toNat_and, bits_nat ha, bits_nat hb]
  exact wrap_nat (Nat.and_lt_two_pow (n := 63) a (by omega))
theorem shr_nat {a c : Nat} (hc : c ≤ 64) : shr .i64 (a : Int) (c : Int) = ((a >>> c : Nat) : Int) := by
  show (a : Int) / 2 ^ min (c : Int).toNat 64 = _
  rw [Int.toNat_natCast, Nat.min_eq_left hc, Nat.shiftRight_eq_div_pow]
  simp
theorem shl_nat {a c : Nat} (hc : c ≤ 64) (h : a * 2 ^ c < 9223372036854775808) : shl .i64 (a : Int) (c : Int) = ((a * 2 ^ c : Nat) : Int) := by
  show IntKind.i64.wrap ((a : Int) * 2 ^ min (c : Int).toNat 64) = _
  rw [Int.toNat_natCast, Nat.min_eq_left hc, ← wrap_nat h]
  simp
theorem bit_test {a c : Nat} (ha : a < 9223372036854775808) (hc : c ≤ 64) : Go.bits .and .i64 (shr .i64 (a : Int) (c : Int)) 1 = if a.testBit c = true then 1 else 0 := by
  rw [shr_nat hc]
  have h1 : a >>> c < 9223372036854775808 := by
    rw [Nat.shiftRight_eq_div_pow]
    exact Nat.lt_of_le_of_lt (Nat.div_le_self _ _) ha
  have := band (a := a >>> c) (b := 1) h1 (by omega)
  rw [show ((1 : Nat) : Int) = 1 from rfl] at this
  rw [this, Nat.testBit, Nat.and_comm 1]
  rw [Nat.and_one_is_mod]
  rcases Nat.mod_two_eq_zero_or_one (a >>> c) with e | e <;> rw [e] <;> simp
theorem lt_mono {x a b : Nat} (h : x < 2 ^ a) (hab : a ≤ b) : x < 2 ^ b := Nat.lt_of_lt_of_le h (Nat.pow_le_pow_right (by omega) hab)
theorem small62 {x n : Nat} (hn : n ≤ 63) (h : x < 2 ^ n) : x < 9223372036854775808 := Nat.lt_of_lt_of_le h (Nat.le_trans (Nat.pow_le_pow_right (by omega) hn) (by decide))
/-- rows as the program holds them -/
def up (l : List Nat) : List Int := l.map fun (x : Nat) => (x : Int)
theorem up_length (l : List Nat) : (up l).length = l.length := by simp [up]
theorem up_append (l l' : List Nat) : up (l ++ l') = up l ++ up l' := by simp [up]
end Go.Proofs.Ytbgbblgdbcjibaa.P
end
section
namespace Go.Proofs.Ytbgbblgdbcjibaa.P
open Go.RowKit Go.Proofs.YtbgbblgdbcjibaaW.PrintWords Go.Proofs.YtbgbblgdbcjibaaW.PrintLast Go.Proofs.YtbgbblgdbcjibaaW.PrintMore
set_option linter.unusedVariables false
set_option linter.unusedSimpArgs false
/-- a number of m places -/
def elemB (m x : Int) : Bool := decide (0 ≤ x) && decide (x < 2 ^ m.toNat)
end Go.Proofs.Ytbgbblgdbcjibaa.P
end
section
namespace Go.Proofs.Ytbgbblgdbcjibaa.P
open Go.RowKit Go.Proofs.YtbgbblgdbcjibaaW.PrintWords Go.Proofs.YtbgbblgdbcjibaaW.PrintLast Go.Proofs.YtbgbblgdbcjibaaW.PrintMore
set_option linter.unusedVariables false
set_option linter.unusedSimpArgs false
/-- the irreducible polynomials of degree 1 .. 5, as numbers -/
def irrs : List Int := [2, 3, 7, 11, 13, 19, 25, 31, 37, 41, 47, 55, 59, 61]
def irrB (p : Int) : Bool := irrs.contains p
/-- the fields: degree and polynomial -/
def fields14 : List (Int × Int) := [(1, 2), (1, 3), (2, 7), (3, 11), (3, 13), (4, 19), (4, 25), (4, 31), (5, 37), (5, 41), (5, 47), (5, 55), (5, 59), (5, 61)]
def validB (m p : Int) : Bool := fields14.contains (m, p)
theorem of_range {P : Int → Prop} (n : Nat) (lo : Int) (h : ∀ i, i < n → P (lo + i)) : ∀ x, lo ≤ x → x < lo + n → P x := by
  intro x h0 h1
  have := h (x - lo).toNat (by omega)
  rwa [show lo + ((x - lo).toNat : Int) = x by omega] at this
theorem i_irr_small : ∀ i, i < 62 → impl_IsIrreducible.f 80 (2 + (i : Nat)) = some (irrB (2 + (i : Nat))) := by decide +kernel
theorem irrB_big {p : Int} (h : p < 2 ∨ 64 ≤ p) : irrB p = false := by
  have : p ∉ irrs := by
    have hb : ∀ q ∈ irrs, 2 ≤ q ∧ q < 64 := by decide +kernel
    intro hp
    have := hb p hp
    omega
  unfold irrB
  rw [List.contains_eq_mem, decide_eq_false this]
theorem i_IsIrreducible_v (p : Int) : impl_IsIrreducible.d p = some (irrB p) := by
  by_cases h : p < 2
  · rw [impl_IsIrreducible.d_eq, if_pos h, impl_IsIrreducible.j0d_eq, if_pos rfl, irrB_big (.inl h)]
  · by_cases h2 : p < 64
    · have := of_range (P := fun p => impl_IsIrreducible.f 80 p = some (irrB p)) 62 2 i_irr_small p (by omega) (by omega)
      exact ((impl_IsIrreducible.lim p).2 _).mpr ⟨_, this⟩
    · rw [impl_IsIrreducible.d_eq, if_neg h, impl_IsIrreducible.j0d_eq, if_pos (by simp; omega), irrB_big (.inr (by omega))]
theorem irrB_mem {p : Int} (h : irrB p = true) : p ∈ irrs := by simpa [irrB] using h
theorem i_deg_irr {p : Int} (h : irrB p = true) : ∀ m, ((m, p) ∈ fields14) = (impl_degreeOf.d p = some m) := by
  have h := irrB_mem h
  have key : ∀ p ∈ irrs, ∃ m, impl_degreeOf.f 80 p = some m ∧ (m, p) ∈ fields14 ∧ ∀ m', (m', p) ∈ fields14 → m' = m := by
    have : ∀ p ∈ irrs, ∃ m ∈ [1, 2, 3, 4, 5], impl_degreeOf.f 80 p = some m ∧ (m, p) ∈ fields14 ∧ ∀ f ∈ fields14, f.2 = p → f.1 = m := by decide +kernel
    intro p hp
    obtain ⟨m, _, a, b, c⟩ := this p hp
    exact ⟨m, a, b, fun m' h' => c (m', p) h' rfl⟩
  intro m
  obtain ⟨m0, a, b, c⟩ := key p h
  have e : impl_degreeOf.d p = some m0 := ((impl_degreeOf.lim p).2 _).mpr ⟨_, a⟩
  rw [e]
  apply propext
  exact ⟨fun h => by rw [c m h], fun h => by cases h; exact b⟩
theorem deg_some {p : Int} (h : irrB p = true) : ∃ m, (m, p) ∈ fields14 := by
  have : ∀ p ∈ irrs, ∃ m ∈ [1, 2, 3, 4, 5], ((m, p) : Int × Int) ∈ fields14 := by decide +kernel
  obtain ⟨m, _, hm⟩ := this p (irrB_mem h)
  exact ⟨m, hm⟩
theorem fields_facts : ∀ f ∈ fields14, (1 ≤ f.1 ∧ f.1 ≤ 5) ∧ irrB f.2 = true := by decide +kernel
theorem valid_facts {m p : Int} (h : validB m p = true) : 1 ≤ m ∧ m ≤ 5 ∧ irrB p = true := by
  have h' : (m, p) ∈ fields14 := by simpa [validB] using h
  have := fields_facts _ h'
  exact ⟨this.1.1, this.1.2, this.2⟩
theorem validB_eq {m p : Int} : validB m p = decide ((m, p) ∈ fields14) := by simp [validB, List.contains_eq_mem]
theorem i_ValidField_v (m p : Int) : impl_ValidField.d m p = some (validB m p) := by
  rw [impl_ValidField.d_eq]
  unfold impl_within.f
  by_cases h1 : m ≥ 1
  · rw [if_pos h1, bind_some']
    by_cases h5 : m ≤ 5
    · rw [if_pos (by simpa using h5), i_IsIrreducible_v, bind_some']
      by_cases hi : irrB p = true
      · rw [if_pos hi]
        obtain ⟨m0, hm0⟩ := deg_some hi
        rw [i_deg_irr hi] at hm0
        rw [hm0, bind_some', validB_eq]
        have := i_deg_irr hi m
        rw [hm0] at this
        congr 1
        simp only [this, Option.some.injEq]
        by_cases e : m0 = m
        · simp [e]
        · simp [e]
      · rw [if_neg hi]
        congr 1
        have : ¬ validB m p = true := fun h => hi (valid_facts h).2.2
        exact (Bool.eq_false_iff.mpr this).symm
    · rw [if_neg (by simpa using h5)]
      have : ¬ validB m p = true := fun h => h5 (valid_facts h).2.1
      rw [Bool.eq_false_iff.mpr this]
  · rw [if_neg h1, bind_some', if_neg (by decide)]
    have : ¬ validB m p = true := fun h => h1 (valid_facts h).1
    rw [Bool.eq_false_iff.mpr this]
end Go.Proofs.Ytbgbblgdbcjibaa.P
end
section
namespace Go.Proofs.Ytbgbblgdbcjibaa.P
open Go.RowKit Go.Proofs.YtbgbblgdbcjibaaW.PrintWords Go.Proofs.YtbgbblgdbcjibaaW.PrintLast Go.Proofs.YtbgbblgdbcjibaaW.PrintMore
set_option linter.unusedVariables false
set_option linter.unusedSimpArgs false
theorem s_irr_small : ∀ i, i < 62 → spec_IsIrreducible.f 80 (2 + (i : Nat)) = some (irrB (2 + (i : Nat))) := by decide +kernel
theorem s_IsIrreducible_v (p : Int) : spec_IsIrreducible.d p = some (irrB p) := by
  by_cases h : p < 64
  · by_cases h2 : 2 ≤ p
    · have := of_range (P := fun p => spec_IsIrreducible.f 80 p = some (irrB p)) 62 2 s_irr_small p (by omega) (by omega)
      exact ((spec_IsIrreducible.lim p).2 _).mpr ⟨_, this⟩
    · by_cases h3 : p = 1
      · subst h3; exact ((spec_IsIrreducible.lim 1).2 _).mpr ⟨80, by decide +kernel⟩
      · rw [spec_IsIrreducible.d_eq, if_neg (by omega), irrB_big (.inl (by omega))]
  · rw [spec_IsIrreducible.d_eq, if_pos (by omega), if_neg h, irrB_big (.inr (by omega))]
theorem s_deg_irr {p : Int} (h : irrB p = true) : ∀ m, ((m, p) ∈ fields14) = (spec_l01Degree.d p = some m) := by
  have h := irrB_mem h
  have key : ∀ p ∈ irrs, ∃ m, spec_l01Degree.f 80 p = some m ∧ (m, p) ∈ fields14 ∧ ∀ m', (m', p) ∈ fields14 → m' = m := by
    have : ∀ p ∈ irrs, ∃ m ∈ [1, 2, 3, 4, 5], spec_l01Degree.f 80 p = some m ∧ (m, p) ∈ fields14 ∧ ∀ f ∈ fields14, f.2 = p → f.1 = m := by decide +kernel
    intro p hp
    obtain ⟨m, _, a, b, c⟩ := this p hp
    exact ⟨m, a, b, fun m' h' => c (m', p) h' rfl⟩
  intro m
  obtain ⟨m0, a, b, c⟩ := key p h
  have e : spec_l01Degree.d p = some m0 := ((spec_l01Degree.lim p).2 _).mpr ⟨_, a⟩
  rw [e]
  apply propext
  exact ⟨fun h => by rw [c m h], fun h => by cases h; exact b⟩
theorem s_l01Ok_v (m p : Int) : spec_l01Ok.d m p = some (validB m p) := by
  rw [spec_l01Ok.d_eq]
  unfold spec_l00In.f
  by_cases h1 : m ≥ 1
  · rw [if_pos h1, bind_some']
    by_cases h5 : m ≤ 5
    · rw [if_pos (by simpa using h5), s_IsIrreducible_v, bind_some']
      by_cases hi : irrB p = true
      · rw [if_pos hi]
        obtain ⟨m0, hm0⟩ := deg_some hi
        rw [s_deg_irr hi] at hm0
        rw [hm0, bind_some', validB_eq]
        have := s_deg_irr hi m
        rw [hm0] at this
        congr 1
        simp only [this, Option.some.injEq]
        by_cases e : m0 = m
        · simp [e]
        · simp [e]
      · rw [if_neg hi]
        congr 1
        have : ¬ validB m p = true := fun h => hi (valid_facts h).2.2
        exact (Bool.eq_false_iff.mpr this).symm
    · rw [if_neg (by simpa using h5)]
      have : ¬ validB m p = true := fun h => h5 (valid_facts h).2.1
      rw [Bool.eq_false_iff.mpr this]
  · rw [if_neg h1, bind_some', if_neg (by decide)]
    have : ¬ validB m p = true := fun h => h1 (valid_facts h).1
    rw [Bool.eq_false_iff.mpr this]
end Go.Proofs.Ytbgbblgdbcjibaa.P
end
section
namespace Go.Proofs.Ytbgbblgdbcjibaa.P
open Go.RowKit Go.Proofs.YtbgbblgdbcjibaaW.PrintWords Go.Proofs.YtbgbblgdbcjibaaW.PrintLast Go.Proofs.YtbgbblgdbcjibaaW.PrintMore
set_option linter.unusedVariables false
set_option linter.unusedSimpArgs false
theorem m_cases {m p : Int} (h : validB m p = true) : m = 1 ∨ m = 2 ∨ m = 3 ∨ m = 4 ∨ m = 5 := by
  have := valid_facts h; omega
theorem i_count_v {m p : Int} (h : validB m p = true) (q : Int) : impl_Field_count.f m q = some (2 ^ m.toNat) := by
  rcases m_cases h with rfl | rfl | rfl | rfl | rfl <;> rfl
theorem s_l01Size_v {m p : Int} (h : validB m p = true) (q : Int) : spec_l01Size.f m q = some (2 ^ m.toNat) := by
  rcases m_cases h with rfl | rfl | rfl | rfl | rfl <;> rfl
theorem pow_bound {m p : Int} (h : validB m p = true) : (2 : Int) ≤ 2 ^ m.toNat ∧ (2 : Int) ^ m.toNat ≤ 32 := by
  rcases m_cases h with rfl | rfl | rfl | rfl | rfl <;> decide
theorem i_has_1_v {m p : Int} (h : validB m p = true) (q x : Int) : impl_Field_has_1.f x m q = some (!(elemB m x)) := by
  unfold impl_Field_has_1.f impl_within.f elemB
  have hb := pow_bound h
  rw [i_count_v h, bind_some', wr (by omega) (by omega)]
  by_cases c : 0 ≤ x
  · rw [if_pos (by omega), bind_some']
    simp only [decide_eq_true c, Bool.true_and]
    congr 2
    apply decide_eq_decide.mpr; omega
  · rw [if_neg (by omega), bind_some']
    simp only [decide_eq_false c, Bool.false_and]
theorem i_has_v {m p : Int} (h : validB m p = true) (q : Int) {l : List Int} (hl : l.length ≤ 17592186044416) : impl_Field_has.d m q l = some (l.all (elemB m)) := by
  rw [impl_Field_has.d_eq, slices_ContainsFunc_int64_int64_AT_impl_Field_has_1.d_eq, slices_IndexFunc_int64_int64_AT_impl_Field_has_1.d_eq]
  obtain ⟨v, e, c, _⟩ := index_gen (F := fun i => slices_IndexFunc_int64_int64_AT_impl_Field_has_1.l0d l (l.length : Int) i m q) (n := l.length) (q := fun i => !(elemB m (rd l (i : Int))))
    (by show slices_IndexFunc_int64_int64_AT_impl_Field_has_1.l0d l (l.length : Int) (l.length : Int) m q = _
        rw [slices_IndexFunc_int64_int64_AT_impl_Field_has_1.l0d_eq, if_neg (by omega)])
    (by intro i hi
        show slices_IndexFunc_int64_int64_AT_impl_Field_has_1.l0d l (l.length : Int) (i : Int) m q = _
        rw [slices_IndexFunc_int64_int64_AT_impl_Field_has_1.l0d_eq, if_pos (by omega), if_pos (by omega), if_pos (by omega), i_has_1_v h, bind_some', wrS hi hl])
  have e' : slices_IndexFunc_int64_int64_AT_impl_Field_has_1.l0d l (l.length : Int) 0 m q = some v := e
  rw [e', bind_some', bind_some', c, Bool.not_not]
  congr 1
  rw [← all_get]
  apply decide_eq_decide.mpr
  simp only [Bool.not_eq_false']
end Go.Proofs.Ytbgbblgdbcjibaa.P
end
section
namespace Go.Proofs.Ytbgbblgdbcjibaa.P
open Go.RowKit Go.Proofs.YtbgbblgdbcjibaaW.PrintWords Go.Proofs.YtbgbblgdbcjibaaW.PrintLast Go.Proofs.YtbgbblgdbcjibaaW.PrintMore
set_option linter.unusedVariables false
set_option linter.unusedSimpArgs false
/-- the product of polynomials a and b, of b the places below n -/
def clm (a b : Nat) : Nat → Nat
  | 0 => 0
  | i + 1 => clm a b i ^^^ (if b.testBit i = true then a * 2 ^ i else 0)
/-- the rest of r by p, a polynomial of degree m: the places m + n - 1 .. m are cleared -/
def red (m p : Nat) (r : Nat) : Nat → Nat
  | 0 => r
  | i + 1 => red m p (if r.testBit (m + i) = true then r ^^^ (p * 2 ^ i) else r) i
/-- the product in the field -/
def fmul (m p a b : Nat) : Nat := red m p (clm a b m) m
theorem mul_pow_lt {a m i : Nat} (ha : a < 2 ^ m) : a * 2 ^ i < 2 ^ (m + i) := by
  rw [Nat.pow_add]; exact Nat.mul_lt_mul_of_pos_right ha (Nat.two_pow_pos i)
theorem clm_lt {a m : Nat} (ha : a < 2 ^ m) (b : Nat) : ∀ n, clm a b n < 2 ^ (m + n)
  | 0 => Nat.two_pow_pos _
  | n + 1 => by
    refine Nat.xor_lt_two_pow (lt_mono (clm_lt ha b n) (by omega)) ?_
    split
    · exact lt_mono (mul_pow_lt ha) (by omega)
    · exact Nat.two_pow_pos _
theorem clm_stop (a : Nat) {b i : Nat} (h : b < 2 ^ i) : ∀ n, clm a b (i + n) = clm a b i
  | 0 => rfl
  | n + 1 => by
    rw [← Nat.add_assoc, clm, clm_stop a h n, Nat.testBit_lt_two_pow (lt_mono h (by omega))]
    simp
theorem lt_of_bit {r k : Nat} (h : r < 2 ^ (k + 1)) (hb : r.testBit k = false) : r < 2 ^ k := by
  apply Nat.lt_pow_two_of_testBit
  intro i hi
  rcases Nat.lt_or_ge i (k + 1) with z | z
  · rw [show i = k by omega]; exact hb
  · exact Nat.testBit_lt_two_pow (lt_mono h z)
theorem red_step_lt {m p r i : Nat} (hp : p < 2 ^ (m + 1)) (hpb : p.testBit m = true) (hr : r < 2 ^ (m + (i + 1))) : (if r.testBit (m + i) = true then r ^^^ (p * 2 ^ i) else r) < 2 ^ (m + i) := by
  have h1 : p * 2 ^ i < 2 ^ (m + i + 1) := by
    have := mul_pow_lt (i := i) hp
    exact lt_mono this (by omega)
  split
  · rename_i c
    refine lt_of_bit (Nat.xor_lt_two_pow hr h1) ?_
    rw [Nat.testBit_xor, c, Nat.testBit_mul_two_pow]
    simp [hpb]
  · rename_i c
    exact lt_of_bit hr (Bool.eq_false_iff.mpr c)
theorem red_lt {m p : Nat} (hp : p < 2 ^ (m + 1)) (hpb : p.testBit m = true) : ∀ i r, r < 2 ^ (m + i) → red m p r i < 2 ^ m
  | 0, r, h => h
  | i + 1, r, h => by rw [red]; exact red_lt hp hpb i _ (red_step_lt hp hpb h)
theorem s_half {r : Nat} (h : r < 9223372036854775808) : wrap64 (Int.tdiv (r : Int) 2) = ((r / 2 : Nat) : Int) := by
  have e : Int.tdiv (r : Int) 2 = ((r / 2 : Nat) : Int) := (Int.ofNat_tdiv r 2).symm
  rw [e, wr (by omega) (by omega)]
theorem half_bit {r k : Nat} : (r / 2).testBit k = r.testBit (k + 1) := Nat.testBit_div_two ..
theorem half_lt {r k : Nat} (h : r < 2 ^ (k + 1)) : r / 2 < 2 ^ k := by rw [Nat.pow_succ] at h; omega
theorem bit_pos {r k : Nat} (h : r.testBit k = true) : 0 < r := by
  rcases Nat.eq_zero_or_pos r with rfl | z
  · rw [Nat.zero_testBit] at h; cases h
  · exact z
theorem spec_l01Degree.some_v : ∀ (k r : Nat) (o : Int), k ≤ 62 → r < 2 ^ (k + 1) → r.testBit k = true → -1 ≤ o → o + k ≤ 1000 → spec_l01Degree.l0d (r : Int) o = some (o + k + 1)
  | 0, r, o, hk, h, hb, h0, h1 => by
    have hr : r = 1 := by have := bit_pos hb; omega
    subst hr
    rw [spec_l01Degree.l0d_eq, if_pos (by omega), wr (x := o + 1) (by omega) (by omega), show wrap64 (Int.tdiv ((1 : Nat) : Int) 2) = ((1 / 2 : Nat) : Int) by (exact s_half (small62 (by omega) h)), spec_l01Degree.l0d_eq, if_neg (by decide)]; simp
  | k + 1, r, o, hk, h, hb, h0, h1 => by
    have := bit_pos hb
    rw [spec_l01Degree.l0d_eq, if_pos (by omega), wr (x := o + 1) (by omega) (by omega), show wrap64 (Int.tdiv (r : Int) 2) = ((r / 2 : Nat) : Int) by (exact s_half (small62 (by omega) h)), spec_l01Degree.some_v k (r / 2) (o + 1) (by omega) (half_lt h) (by rw [half_bit]; exact hb) (by omega) (by omega)]
    congr 1; omega
theorem spec_l01Degree.lt_v : ∀ (k r : Nat) (o : Int), k ≤ 62 → r < 2 ^ k → -1 ≤ o → o + k ≤ 1000 → ∃ d, spec_l01Degree.l0d (r : Int) o = some d ∧ d ≤ o + k
  | 0, r, o, hk, h, h0, h1 => ⟨o, by rw [spec_l01Degree.l0d_eq, if_neg (by have hz : r = 0 := (by simpa using h); omega)], by omega⟩
  | k + 1, r, o, hk, h, h0, h1 => by
    by_cases c : 0 < r
    · obtain ⟨d, e, hd⟩ := spec_l01Degree.lt_v k (r / 2) (o + 1) (by omega) (half_lt h) (by omega) (by omega)
      have hr62 := small62 (n := k + 1) (by omega) h
      exact ⟨d, by rw [spec_l01Degree.l0d_eq, if_pos (by omega), wr (x := o + 1) (by omega) (by omega), show wrap64 (Int.tdiv (r : Int) 2) = ((r / 2 : Nat) : Int) by (exact s_half (small62 (by omega) h)), e], by omega⟩
    · exact ⟨o, by rw [spec_l01Degree.l0d_eq, if_neg (by omega)], by omega⟩
theorem impl_degreeOf.some_v : ∀ (k r : Nat) (o : Int), k ≤ 62 → r < 2 ^ (k + 1) → r.testBit k = true → -1 ≤ o → o + k ≤ 1000 → impl_degreeOf.l0d (r : Int) o = some (o + k + 1)
  | 0, r, o, hk, h, hb, h0, h1 => by
    have hr : r = 1 := by have := bit_pos hb; omega
    subst hr
    rw [impl_degreeOf.l0d_eq, if_pos (by omega), wr (x := o + 1) (by omega) (by omega), show (((1 : Nat) : Int) / 2) = ((1 / 2 : Nat) : Int) by omega, impl_degreeOf.l0d_eq, if_neg (by decide)]; simp
  | k + 1, r, o, hk, h, hb, h0, h1 => by
    have := bit_pos hb
    rw [impl_degreeOf.l0d_eq, if_pos (by omega), wr (x := o + 1) (by omega) (by omega), show ((r : Int) / 2) = ((r / 2 : Nat) : Int) by omega, impl_degreeOf.some_v k (r / 2) (o + 1) (by omega) (half_lt h) (by rw [half_bit]; exact hb) (by omega) (by omega)]
    congr 1; omega
theorem impl_degreeOf.lt_v : ∀ (k r : Nat) (o : Int), k ≤ 62 → r < 2 ^ k → -1 ≤ o → o + k ≤ 1000 → ∃ d, impl_degreeOf.l0d (r : Int) o = some d ∧ d ≤ o + k
  | 0, r, o, hk, h, h0, h1 => ⟨o, by rw [impl_degreeOf.l0d_eq, if_neg (by have hz : r = 0 := (by simpa using h); omega)], by omega⟩
  | k + 1, r, o, hk, h, h0, h1 => by
    by_cases c : 0 < r
    · obtain ⟨d, e, hd⟩ := impl_degreeOf.lt_v k (r / 2) (o + 1) (by omega) (half_lt h) (by omega) (by omega)
      have hr62 := small62 (n := k + 1) (by omega) h
      exact ⟨d, by rw [impl_degreeOf.l0d_eq, if_pos (by omega), wr (x := o + 1) (by omega) (by omega), show ((r : Int) / 2) = ((r / 2 : Nat) : Int) by omega, e], by omega⟩
    · exact ⟨o, by rw [impl_degreeOf.l0d_eq, if_neg (by omega)], by omega⟩
theorem spec_l01Rest.loop_v {m p : Nat} (hm : m ≤ 5) (hp : p < 2 ^ (m + 1)) (hpb : p.testBit m = true) : ∀ i r : Nat, i ≤ 5 → r < 2 ^ (m + i) → spec_l01Rest.l0d (r : Int) (p : Int) (m : Int) = some ((red m p r i : Nat) : Int)
  | 0, r, hi, h => by
    obtain ⟨d, e, hd⟩ := spec_l01Degree.lt_v m r (-1) (by omega) h (by omega) (by omega)
    rw [spec_l01Rest.l0d_eq, spec_l01Degree.d_eq, e, bind_some', if_neg (by omega)]; rfl
  | i + 1, r, hi, h => by
    have st := red_step_lt (i := i) hp hpb h
    rw [red]
    by_cases c : r.testBit (m + i) = true
    · rw [if_pos c] at st ⊢
      have e : spec_l01Degree.d (r : Int) = some ((m + i : Nat) : Int) := by
        rw [spec_l01Degree.d_eq, spec_l01Degree.some_v (m + i) r (-1) (by omega) h c (by omega) (by omega)]; congr 1; omega
      have h1 : p * 2 ^ i < 2 ^ 12 := lt_mono (mul_pow_lt hp) (by omega)
      have h2 : r < 2 ^ 12 := lt_mono h (by omega)
      rw [spec_l01Rest.l0d_eq, e, bind_some', if_pos (by omega), bind_some', show (IntKind.u64.wrap (wrap64 (((m + i : Nat) : Int) - (m : Int)))) = (i : Int) by rw [wr (by omega) (by omega), u64_id (by omega) (by omega)]; omega, if_pos (by omega), shl_nat (by omega) (by omega), bxor (by omega) (by omega)]
      exact spec_l01Rest.loop_v hm hp hpb i _ (by omega) st
    · rw [if_neg c] at st ⊢
      exact spec_l01Rest.loop_v hm hp hpb i r (by omega) st
theorem spec_l01Rest.v {m p : Nat} (hm : m ≤ 5) (hp : p < 2 ^ (m + 1)) (hpb : p.testBit m = true) {r : Nat} (h : r < 2 ^ (m + m)) : spec_l01Rest.d (r : Int) (p : Int) = some ((red m p r m : Nat) : Int) := by
  rw [spec_l01Rest.d_eq, spec_l01Degree.d_eq, spec_l01Degree.some_v m p (-1) (by omega) hp hpb (by omega) (by omega), bind_some', show (-1 + (m : Int) + 1) = m by omega]
  exact spec_l01Rest.loop_v hm hp hpb m r (by omega) h
theorem impl_restOf.loop_v {m p : Nat} (hm : m ≤ 5) (hp : p < 2 ^ (m + 1)) (hpb : p.testBit m = true) : ∀ i r : Nat, i ≤ 5 → r < 2 ^ (m + i) → impl_restOf.l0d (r : Int) (p : Int) (m : Int) = some ((red m p r i : Nat) : Int)
  | 0, r, hi, h => by
    obtain ⟨d, e, hd⟩ := impl_degreeOf.lt_v m r (-1) (by omega) h (by omega) (by omega)
    rw [impl_restOf.l0d_eq, impl_degreeOf.d_eq, e, bind_some', if_neg (by omega)]; rfl
  | i + 1, r, hi, h => by
    have st := red_step_lt (i := i) hp hpb h
    rw [red]
    by_cases c : r.testBit (m + i) = true
    · rw [if_pos c] at st ⊢
      have e : impl_degreeOf.d (r : Int) = some ((m + i : Nat) : Int) := by
        rw [impl_degreeOf.d_eq, impl_degreeOf.some_v (m + i) r (-1) (by omega) h c (by omega) (by omega)]; congr 1; omega
      have h1 : p * 2 ^ i < 2 ^ 12 := lt_mono (mul_pow_lt hp) (by omega)
      have h2 : r < 2 ^ 12 := lt_mono h (by omega)
      rw [impl_restOf.l0d_eq, e, bind_some', if_pos (by omega), bind_some', show wrap64 (((m + i : Nat) : Int) - (m : Int)) = (i : Int) by rw [wr (by omega) (by omega)]; omega, if_pos (by omega), shl_nat (by omega) (by omega), bxor (by omega) (by omega)]
      exact impl_restOf.loop_v hm hp hpb i _ (by omega) st
    · rw [if_neg c] at st ⊢
      exact impl_restOf.loop_v hm hp hpb i r (by omega) st
theorem impl_restOf.v {m p : Nat} (hm : m ≤ 5) (hp : p < 2 ^ (m + 1)) (hpb : p.testBit m = true) {r : Nat} (h : r < 2 ^ (m + m)) : impl_restOf.d (r : Int) (p : Int) = some ((red m p r m : Nat) : Int) := by
  rw [impl_restOf.d_eq, impl_degreeOf.d_eq, impl_degreeOf.some_v m p (-1) (by omega) hp hpb (by omega) (by omega), bind_some', show (-1 + (m : Int) + 1) = m by omega]
  exact impl_restOf.loop_v hm hp hpb m r (by omega) h
theorem fields_bits : ∀ f ∈ fields14, 0 ≤ f.2 ∧ f.2.toNat < 2 ^ (f.1.toNat + 1) ∧ f.2.toNat.testBit f.1.toNat = true := by decide +kernel
theorem valid_nat {m p : Int} (h : validB m p = true) : ∃ M P : Nat, m = (M : Int) ∧ p = (P : Int) ∧ 1 ≤ M ∧ M ≤ 5 := by
  have h' : (m, p) ∈ fields14 := by simpa [validB] using h
  have h2 := fields_bits _ h'
  have h3 := valid_facts h
  exact ⟨m.toNat, p.toNat, by omega, by simp only at h2; omega, by omega, by omega⟩
theorem valid_bits {M P : Nat} (h : validB (M : Int) (P : Int) = true) : 1 ≤ M ∧ M ≤ 5 ∧ P < 2 ^ (M + 1) ∧ P.testBit M = true := by
  have h' : ((M : Int), (P : Int)) ∈ fields14 := by simpa [validB] using h
  have h2 := fields_bits _ h'
  have h3 := valid_facts h
  exact ⟨by omega, by omega, h2.2.1, h2.2.2⟩
theorem fmul_lt {M P : Nat} (h : validB (M : Int) (P : Int) = true) {a : Nat} (ha : a < 2 ^ M) (b : Nat) : fmul M P a b < 2 ^ M := by
  have hv := valid_bits h
  exact red_lt hv.2.2.1 hv.2.2.2 M _ (clm_lt ha b M)
end Go.Proofs.Ytbgbblgdbcjibaa.P
end
section
namespace Go.Proofs.Ytbgbblgdbcjibaa.P
open Go.RowKit Go.Proofs.YtbgbblgdbcjibaaW.PrintWords Go.Proofs.YtbgbblgdbcjibaaW.PrintLast Go.Proofs.YtbgbblgdbcjibaaW.PrintMore
set_option linter.unusedVariables false
set_option linter.unusedSimpArgs false
/-- x squared k times -/
def fsq (m p : Nat) : Nat → Nat → Nat
  | 0, x => x
  | k + 1, x => fsq m p k (fmul m p x x)
theorem tmod_nat (k M : Nat) : Int.tmod (k : Int) (M : Int) = ((k % M : Nat) : Int) := (Int.ofNat_tmod k M).symm
end Go.Proofs.Ytbgbblgdbcjibaa.P
end
section
namespace Go.Proofs.Ytbgbblgdbcjibaa.P
open Go.RowKit Go.Proofs.YtbgbblgdbcjibaaW.PrintWords Go.Proofs.YtbgbblgdbcjibaaW.PrintLast Go.Proofs.YtbgbblgdbcjibaaW.PrintMore
set_option linter.unusedVariables false
set_option linter.unusedSimpArgs false
theorem s_mul_v {M P : Nat} (h : validB (M : Int) (P : Int) = true) {a b : Nat} (ha : a < 2 ^ M) (hb : b < 2 ^ M) : spec_l01Mul.d (M : Int) (P : Int) (a : Int) (b : Int) = some ((fmul M P a b : Nat) : Int) := by
  have hv := valid_bits h
  have hb5 : b < 2 ^ 5 := lt_mono hb hv.2.1
  have key : ∀ i, i ≤ M → spec_l01Mul.l0d (a : Int) (b : Int) ((clm a b i : Nat) : Int) (i : Int) (M : Int) (P : Int) = some ((fmul M P a b : Nat) : Int) := by
    apply down
    · rw [spec_l01Mul.l0d_eq, if_neg (by omega), spec_l01Rest.v hv.2.1 hv.2.2.1 hv.2.2.2 (clm_lt ha b M)]; rfl
    · intro i hi e
      have h1 : a * 2 ^ i < 2 ^ 10 := lt_mono (mul_pow_lt ha) (by omega)
      have h2 : clm a b i < 2 ^ 10 := lt_mono (clm_lt ha b i) (by omega)
      rw [spec_l01Mul.l0d_eq, if_pos (by omega), u64_id (by omega) (by omega), if_pos (by omega), bit_test (by omega) (by omega), wrS hi (by omega), ← e, clm]
      by_cases c : b.testBit i = true
      · rw [if_pos c, if_pos rfl, if_pos c, shl_nat (by omega) (by omega), bxor (by omega) (by omega)]
      · rw [if_neg c, if_neg (by decide), if_neg c, Nat.xor_zero]
  rw [spec_l01Mul.d_eq]
  exact key 0 (by omega)
end Go.Proofs.Ytbgbblgdbcjibaa.P
end
section
namespace Go.Proofs.Ytbgbblgdbcjibaa.P
open Go.RowKit Go.Proofs.YtbgbblgdbcjibaaW.PrintWords Go.Proofs.YtbgbblgdbcjibaaW.PrintLast Go.Proofs.YtbgbblgdbcjibaaW.PrintMore
set_option linter.unusedVariables false
set_option linter.unusedSimpArgs false
theorem s_sq_loop {M P : Nat} (h : validB (M : Int) (P : Int) = true) : ∀ (k : Nat) {x : Nat}, k ≤ 1000 → x < 2 ^ M → spec_l01Square.l0d (x : Int) (k : Int) (M : Int) (P : Int) = some ((fsq M P k x : Nat) : Int)
  | 0, x, _, hx => by rw [spec_l01Square.l0d_eq, if_neg (by omega)]; rfl
  | k + 1, x, hk, hx => by
    rw [spec_l01Square.l0d_eq, if_pos (by omega), s_mul_v h hx hx, bind_some', show wrap64 (((k + 1 : Nat) : Int) - 1) = (k : Int) by rw [wr (by omega) (by omega)]; omega]
    exact s_sq_loop h k (by omega) (fmul_lt h hx x)
theorem s_sq_v {M P : Nat} (h : validB (M : Int) (P : Int) = true) (k : Nat) {x : Nat} (hx : x < 2 ^ M) : spec_l01Square.d (M : Int) (P : Int) (x : Int) (k : Int) = some ((fsq M P (k % M) x : Nat) : Int) := by
  have hv := valid_bits h
  have := Nat.mod_lt k (show M > 0 by omega)
  rw [spec_l01Square.d_eq, if_neg (by omega), tmod_nat]
  exact s_sq_loop h (k % M) (by omega) hx
end Go.Proofs.Ytbgbblgdbcjibaa.P
end
section
namespace Go.Proofs.Ytbgbblgdbcjibaa.P
open Go.RowKit Go.Proofs.YtbgbblgdbcjibaaW.PrintWords Go.Proofs.YtbgbblgdbcjibaaW.PrintLast Go.Proofs.YtbgbblgdbcjibaaW.PrintMore
set_option linter.unusedVariables false
set_option linter.unusedSimpArgs false
theorem i_product_v {M a b : Nat} (hM : M ≤ 5) (ha : a < 2 ^ M) (hb : b < 2 ^ M) : impl_product.d (a : Int) (b : Int) = some ((clm a b M : Nat) : Int) := by
  have hb5 : b < 2 ^ 5 := lt_mono hb hM
  have key : ∀ i, i ≤ M → impl_product.l0d ((a * 2 ^ i : Nat) : Int) ((b / 2 ^ i : Nat) : Int) ((clm a b i : Nat) : Int) = some ((clm a b M : Nat) : Int) := by
    apply down
    · rw [impl_product.l0d_eq, if_neg (by rw [Nat.div_eq_of_lt hb]; decide)]
    · intro i hi e
      have h1 : a * 2 ^ i < 2 ^ 10 := lt_mono (mul_pow_lt ha) (by omega)
      have h2 : clm a b i < 2 ^ 10 := lt_mono (clm_lt ha b i) (by omega)
      have h3 : b / 2 ^ i ≤ b := Nat.div_le_self _ _
      by_cases z : b / 2 ^ i = 0
      · have z' : b < 2 ^ i := by
          apply Classical.byContradiction
          intro w
          have := Nat.div_pos (Nat.le_of_not_lt w) (Nat.two_pow_pos i)
          omega
        rw [impl_product.l0d_eq, if_neg (by omega)]
        have := clm_stop a z' (M - i)
        rw [show i + (M - i) = M by omega] at this
        rw [this]
      · have e1 : wrap64 (((a * 2 ^ i : Nat) : Int) * 2) = ((a * 2 ^ (i + 1) : Nat) : Int) := by
          rw [wr (by omega) (by omega), Nat.pow_succ, ← Nat.mul_assoc]; simp
        have e2 : ((b / 2 ^ i : Nat) : Int) / 2 = ((b / 2 ^ (i + 1) : Nat) : Int) := by
          rw [Nat.pow_succ, ← Nat.div_div_eq_div_mul]; generalize b / 2 ^ i = q; omega
        have e3 : Go.bits .and .i64 ((b / 2 ^ i : Nat) : Int) 1 = if b.testBit i = true then 1 else 0 := by
          have := band (a := b / 2 ^ i) (b := 1) (by omega) (by omega)
          rw [show ((1 : Nat) : Int) = 1 from rfl] at this
          rw [this, Nat.and_one_is_mod, Nat.testBit_eq_decide_div_mod_eq]
          rcases Nat.mod_two_eq_zero_or_one (b / 2 ^ i) with w | w <;> rw [w] <;> simp
        rw [impl_product.l0d_eq, if_pos (Int.natCast_pos.mpr (Nat.pos_of_ne_zero z)), e1, e2, e3, ← e, clm]
        by_cases c : b.testBit i = true
        · rw [if_pos c, if_pos rfl, if_pos c, bxor (by omega) (by omega)]
        · rw [if_neg c, if_neg (by decide), if_neg c, Nat.xor_zero]
  rw [impl_product.d_eq]
  have := key 0 (by omega)
  simpa [clm] using this
theorem i_mul_v {M P : Nat} (h : validB (M : Int) (P : Int) = true) {a b : Nat} (ha : a < 2 ^ M) (hb : b < 2 ^ M) : impl_Field_mul.d (M : Int) (P : Int) (a : Int) (b : Int) = some ((fmul M P a b : Nat) : Int) := by
  have hv := valid_bits h
  rw [impl_Field_mul.d_eq, i_product_v hv.2.1 ha hb, bind_some', impl_restOf.v hv.2.1 hv.2.2.1 hv.2.2.2 (clm_lt ha b M)]; rfl
end Go.Proofs.Ytbgbblgdbcjibaa.P
end
section
namespace Go.Proofs.Ytbgbblgdbcjibaa.P
open Go.RowKit Go.Proofs.YtbgbblgdbcjibaaW.PrintWords Go.Proofs.YtbgbblgdbcjibaaW.PrintLast Go.Proofs.YtbgbblgdbcjibaaW.PrintMore
set_option linter.unusedVariables false
set_option linter.unusedSimpArgs false
theorem i_sq_loop {M P : Nat} (h : validB (M : Int) (P : Int) = true) {K : Nat} (hK : K ≤ 1000) : ∀ (k : Nat) {x : Nat}, k ≤ K → x < 2 ^ M → impl_Field_square.l0d (x : Int) (K : Int) ((K - k : Nat) : Int) (M : Int) (P : Int) = some ((fsq M P k x : Nat) : Int)
  | 0, x, _, hx => by rw [impl_Field_square.l0d_eq, if_neg (by omega)]; rfl
  | k + 1, x, hk, hx => by
    rw [impl_Field_square.l0d_eq, if_pos (by omega), i_mul_v h hx hx, bind_some', show wrap64 (((K - (k + 1) : Nat) : Int) + 1) = ((K - k : Nat) : Int) by rw [wr (by omega) (by omega)]; omega]
    exact i_sq_loop h hK k (by omega) (fmul_lt h hx x)
theorem i_sq_v {M P : Nat} (h : validB (M : Int) (P : Int) = true) (k : Nat) {x : Nat} (hx : x < 2 ^ M) : impl_Field_square.d (M : Int) (P : Int) (x : Int) (k : Int) = some ((fsq M P (k % M) x : Nat) : Int) := by
  have hv := valid_bits h
  have := Nat.mod_lt k (show M > 0 by omega)
  rw [impl_Field_square.d_eq, if_neg (by omega), tmod_nat]
  have e := i_sq_loop h (K := k % M) (by omega) (k % M) (x := x) (by omega) hx
  rwa [Nat.sub_self] at e
end Go.Proofs.Ytbgbblgdbcjibaa.P
end
section
namespace Go.Proofs.Ytbgbblgdbcjibaa.P
open Go.RowKit Go.Proofs.YtbgbblgdbcjibaaW.PrintWords Go.Proofs.YtbgbblgdbcjibaaW.PrintLast Go.Proofs.YtbgbblgdbcjibaaW.PrintMore
set_option linter.unusedVariables false
set_option linter.unusedSimpArgs false
theorem idx_loop {l : List Int} {q : Int → Bool} {cl : Int → Option Bool} {F : Int → Option Int} (hl : l.length ≤ 1000) (hc : ∀ x ∈ l, cl x = some (q x))
    (hF : ∀ j, F j = if j < (l.length : Int) then (if 0 ≤ j then (if j < (l.length : Int) then ((cl (rd l j)).bind fun t => (if t = true then (some j) else (F (wrap64 (j + 1))))) else (none)) else (none)) else (some (-1))) :
    ∀ d j : Nat, j + d = l.length → (F (j : Int) = some (-1) ∧ ∀ x ∈ l.drop j, q x = false) ∨ ∃ (i : Nat) (hi : i < l.length), F (j : Int) = some (i : Int) ∧ j ≤ i ∧ (∀ x ∈ (l.take i).drop j, q x = false) ∧ q l[i] = true := by
  intro d
  induction d with
  | zero =>
    intro j hj
    refine .inl ⟨by rw [hF, if_neg (by omega)], ?_⟩
    rw [List.drop_eq_nil_of_le (by omega)]; simp
  | succ d ih =>
    intro j hj
    have jl : j < l.length := by omega
    have wj : wrap64 ((j : Int) + 1) = ((j + 1 : Nat) : Int) := wrS jl (by omega)
    have e : F (j : Int) = if q l[j] = true then some (j : Int) else F ((j + 1 : Nat) : Int) := by
      rw [hF, if_pos (by omega), if_pos (by omega), if_pos (by omega), rd_at l j jl, hc _ (List.getElem_mem jl), bind_some', wj]
    by_cases c : q l[j] = true
    · refine .inr ⟨j, jl, by rw [e, if_pos c], Nat.le_refl _, ?_, c⟩
      rw [List.drop_eq_nil_of_le (by simp; omega)]; simp
    · rw [if_neg c] at e
      have c' : q l[j] = false := Bool.eq_false_iff.mpr c
      rcases ih (j + 1) (by omega) with ⟨h1, h2⟩ | ⟨i, hi, h1, h2, h3, h4⟩
      · refine .inl ⟨by rw [e, h1], ?_⟩
        rw [List.drop_eq_getElem_cons jl]
        intro x hx
        rcases List.mem_cons.mp hx with rfl | hx
        · exact c'
        · exact h2 x hx
      · refine .inr ⟨i, hi, by rw [e, h1], by omega, ?_, h4⟩
        have jt : j < (l.take i).length := by simp; omega
        rw [List.drop_eq_getElem_cons jt]
        intro x hx
        rcases List.mem_cons.mp hx with rfl | hx
        · rw [List.getElem_take]; exact c'
        · exact h3 x hx
theorem del_loop {l : List Int} {q : Int → Bool} {cl : Int → Option Bool} {G : List Int → Int → Int → Option (List Int)} (hl : l.length ≤ 1000) (hc : ∀ x ∈ l, cl x = some (q x))
    (hG : ∀ xs i j, G xs i j = if j < (xs.length : Int) then (if 0 ≤ j then ((cl (rd xs j)).bind fun t => (if t = true then (G xs i (wrap64 (j + 1))) else (if 0 ≤ i then (if i < (xs.length : Int) then (G (xs.set (i : Int).toNat (rd xs j)) (wrap64 (i + 1)) (wrap64 (j + 1))) else (none)) else (none)))) else (none)) else (if 0 ≤ i then (if i ≤ (xs.length : Int) then (some ((clrEnd xs (i : Int).toNat).take (i : Int).toNat)) else (none)) else (none))) :
    ∀ d j : Nat, j + d = l.length → ∀ (xs : List Int) (i : Nat), xs.length = l.length → i ≤ j → xs.take i = (l.take j).filter (fun x => !q x) → xs.drop j = l.drop j → G xs (i : Int) (j : Int) = some (l.filter (fun x => !q x)) := by
  intro d
  induction d with
  | zero =>
    intro j hj xs i hx hi ht hd
    rw [hG, if_neg (by omega), if_pos (by omega), if_pos (by omega), Int.toNat_natCast]
    congr 1
    unfold clrEnd
    rw [List.take_append_of_le_length (by simp; omega), List.take_take, Nat.min_self, ht, List.take_of_length_le (show l.length ≤ j by omega)]
  | succ d ih =>
    intro j hj xs i hx hi ht hd
    have jl : j < l.length := by omega
    have jx : j < xs.length := by omega
    have e : xs[j] = l[j] := by
      have := congrArg (fun z => z[0]?) hd
      simpa [jl, jx] using this
    have r : rd xs (j : Int) = l[j] := by rw [rd_at xs j jx, e]
    have tk : l.take (j + 1) = l.take j ++ [l[j]] := List.take_succ_eq_append_getElem jl
    have dr : xs.drop (j + 1) = l.drop (j + 1) := by
      have := congrArg (fun z => z.drop 1) hd
      simpa [List.drop_drop] using this
    by_cases c : q l[j] = true
    · have wj : wrap64 ((j : Int) + 1) = ((j + 1 : Nat) : Int) := wrS jl (by omega)
      rw [hG, if_pos (by omega), if_pos (by omega), r, hc _ (List.getElem_mem jl), bind_some', wj, if_pos c]
      clear wj
      exact ih (j + 1) (by omega) xs i hx (by omega) (by rw [ht, tk, List.filter_append]; simp [c]) dr
    · have st : G xs (i : Int) (j : Int) = G (xs.set i l[j]) ((i + 1 : Nat) : Int) ((j + 1 : Nat) : Int) := by
        have il : i < l.length := by omega
        rw [hG, if_pos (by omega), if_pos (by omega), r, hc _ (List.getElem_mem jl), bind_some', if_neg c, if_pos (by omega), if_pos (by omega), Int.toNat_natCast, wrS jl (by omega), wrS il (by omega)]
      rw [st]
      refine ih (j + 1) (by omega) _ (i + 1) (by simp; omega) (by omega) ?_ ?_
      · rw [tk, List.filter_append, ← ht, List.take_succ_eq_append_getElem (by simp; omega), List.getElem_set_self, List.take_set_of_le (Nat.le_refl i)]
        simp [c]
      · rw [List.drop_set_of_lt (by omega)]; exact dr
theorem delete_gen {l : List Int} {q : Int → Bool} {cl : Int → Option Bool} {F : Int → Option Int} {G : List Int → Int → Int → Option (List Int)} (hl : l.length ≤ 1000) (hc : ∀ x ∈ l, cl x = some (q x))
    (hF : ∀ j, F j = if j < (l.length : Int) then (if 0 ≤ j then (if j < (l.length : Int) then ((cl (rd l j)).bind fun t => (if t = true then (some j) else (F (wrap64 (j + 1))))) else (none)) else (none)) else (some (-1)))
    (hG : ∀ xs i j, G xs i j = if j < (xs.length : Int) then (if 0 ≤ j then ((cl (rd xs j)).bind fun t => (if t = true then (G xs i (wrap64 (j + 1))) else (if 0 ≤ i then (if i < (xs.length : Int) then (G (xs.set (i : Int).toNat (rd xs j)) (wrap64 (i + 1)) (wrap64 (j + 1))) else (none)) else (none)))) else (none)) else (if 0 ≤ i then (if i ≤ (xs.length : Int) then (some ((clrEnd xs (i : Int).toNat).take (i : Int).toNat)) else (none)) else (none))) :
    ((F 0).bind fun t => (if t = (-1) then (some l) else (G l t (wrap64 (t + 1))))) = some (l.filter (fun x => !q x)) := by
  rcases idx_loop hl hc hF l.length 0 (by omega) with ⟨h1, h2⟩ | ⟨i, hi, h1, _, h3, h4⟩
  · have h1' : F 0 = some (-1) := h1
    rw [h1', bind_some', if_pos rfl]
    congr 1
    rw [List.filter_eq_self.mpr]
    intro x hx
    rw [h2 x (by simpa using hx)]; rfl
  · have h1' : F 0 = some (i : Int) := h1
    rw [h1', bind_some', if_neg (by omega), wrS hi (by omega)]
    refine del_loop hl hc hG (l.length - (i + 1)) (i + 1) (by omega) l i rfl (by omega) ?_ rfl
    have tk : l.take (i + 1) = l.take i ++ [l[i]] := List.take_succ_eq_append_getElem hi
    rw [tk, List.filter_append, List.filter_eq_self.mpr (by
      intro x hx
      rw [h3 x (by simpa using hx)]; rfl)]
    simp [h4]
theorem filt_up {n : Nat} {q' : Int → Bool} {q : Nat → Bool} (h : ∀ y, y < n → (!q' (y : Int)) = q y) : (up (List.range n)).filter (fun x => !q' x) = up ((List.range n).filter q) := by
  unfold up
  rw [List.filter_map]
  congr 1
  apply List.filter_congr
  intro x hx
  exact h x (List.mem_range.mp hx)
theorem i_all_v {M P : Nat} (h : validB (M : Int) (P : Int) = true) : impl_Field_all.d (M : Int) (P : Int) = some (up (List.range (2 ^ M))) := by
  have hv := valid_bits h
  have h5 : 2 ^ M ≤ 2 ^ 5 := Nat.pow_le_pow_right (by omega) hv.2.1
  have e : ((2 ^ M : Nat) : Int) = (2 : Int) ^ M := by simp
  rw [impl_Field_all.d_eq, i_count_v h, bind_some', Int.toNat_natCast, ← e]
  have key : ∀ i, i ≤ 2 ^ M → impl_Field_all.l0d (up (List.range i)) ((2 ^ M : Nat) : Int) (i : Int) = some (up (List.range (2 ^ M))) := by
    apply down
    · rw [impl_Field_all.l0d_eq, if_neg (by omega)]
    · intro i hi ih
      rw [impl_Field_all.l0d_eq, if_pos (by omega), if_pos (by rw [up_length, List.length_range]; omega), wrS hi (by omega), ← ih, List.range_succ, up_append]
      rfl
  exact key 0 (by omega)
theorem coll_gen {F : List Int → Int → Option (List Int × Int)} {n : Nat} {q : Nat → Bool} (h0 : ∀ out, F out (n : Int) = some (out, 0))
    (hs : ∀ out i, i < n → out.length ≤ n → F out (i : Int) = if q i = true then F (out ++ [(i : Int)]) ((i + 1 : Nat) : Int) else F out ((i + 1 : Nat) : Int)) : F [] 0 = some (up ((List.range n).filter q), 0) := by
  have key : ∀ i, i ≤ n → F (up ((List.range i).filter q)) (i : Int) = some (up ((List.range n).filter q), 0) := by
    apply down
    · exact h0 _
    · intro i hi ih
      have hl : (up ((List.range i).filter q)).length ≤ n := by
        rw [up_length]
        have := List.length_filter_le q (List.range i)
        rw [List.length_range] at this
        omega
      rw [hs _ i hi hl, ← ih, List.range_succ, List.filter_append]
      by_cases c : q i = true
      · rw [if_pos c, show List.filter q [i] = [i] by simp [c], up_append]; rfl
      · rw [if_neg c, show List.filter q [i] = [] by simp [c], List.append_nil]
  exact key 0 (by omega)
end Go.Proofs.Ytbgbblgdbcjibaa.P
end
section
namespace Go.Proofs.Ytbgbblgdbcjibaa.P
open Go.RowKit Go.Proofs.YtbgbblgdbcjibaaW.PrintWords Go.Proofs.YtbgbblgdbcjibaaW.PrintLast Go.Proofs.YtbgbblgdbcjibaaW.PrintMore
set_option linter.unusedVariables false
set_option linter.unusedSimpArgs false
theorem SubfieldIn_both (m p k : Int) : ∃ r : List Int × Int, (r.1.length ≤ 17592186044416) ∧ spec_SubfieldIn.d m p k = some r ∧ impl_SubfieldIn.d m p k = some r := by
  have w1 : impl_within.f k 1 m = some (decide (1 ≤ k) && decide (k ≤ m)) := by
    unfold impl_within.f
    by_cases c : k ≥ 1
    · rw [if_pos c, decide_eq_true (show 1 ≤ k from c), Bool.true_and]
    · rw [if_neg c, decide_eq_false (show ¬ 1 ≤ k from c), Bool.false_and]
  have w2 : spec_l00In.f k 1 m = some (decide (1 ≤ k) && decide (k ≤ m)) := by
    unfold spec_l00In.f
    by_cases c : k ≥ 1
    · rw [if_pos c, decide_eq_true (show 1 ≤ k from c), Bool.true_and]
    · rw [if_neg c, decide_eq_false (show ¬ 1 ≤ k from c), Bool.false_and]
  rw [spec_SubfieldIn.d_eq, s_l01Ok_v, bind_some', impl_SubfieldIn.d_eq, w1, bind_some', impl_Field_code.d_eq, i_ValidField_v, bind_some']
  by_cases h : validB m p = true
  · rw [if_pos h, if_pos h, w2, bind_some', i_has_v h p (by simp), bind_some', if_pos (show ([] : List Int).all (elemB m) = true from rfl)]
    by_cases c : (decide (1 ≤ k) && decide (k ≤ m)) = true
    · rw [if_pos c, if_pos c, bind_some', if_pos rfl]
      obtain ⟨M, P, rfl, rfl, _, _⟩ := valid_nat h
      simp only [Bool.and_eq_true, decide_eq_true_eq] at c
      obtain ⟨K, rfl⟩ : ∃ K : Nat, k = (K : Int) := ⟨k.toNat, by omega⟩
      have hv := valid_bits h
      have h5 : 2 ^ M ≤ 2 ^ 5 := Nat.pow_le_pow_right (by omega) hv.2.1
      have e : ((2 ^ M : Nat) : Int) = (2 : Int) ^ M := by simp
      have cl : ∀ x ∈ up (List.range (2 ^ M)), impl_SubfieldIn_1.d x (M : Int) (P : Int) (K : Int) = some (!(decide (fsq M P (K % M) x.toNat = x.toNat))) := by
        intro x hx
        obtain ⟨y, hy, rfl⟩ := List.mem_map.mp hx
        rw [impl_SubfieldIn_1.d_eq, i_sq_v h K (List.mem_range.mp hy), bind_some', Int.toNat_natCast]
        congr 1
        by_cases z : fsq M P (K % M) y = y
        · simp [z]
        · simp only [decide_eq_false z, Bool.not_false, bne_iff_ne, ne_eq]; omega
      have d := delete_gen (F := fun j => slices_IndexFunc_int64_int64_AT_impl_SubfieldIn_1.l0d (up (List.range (2 ^ M))) ((up (List.range (2 ^ M))).length : Int) j (M : Int) (P : Int) (K : Int)) (G := fun xs i j => slices_DeleteFunc_int64_int64_AT_impl_SubfieldIn_1.l0d xs i j (M : Int) (P : Int) (K : Int))
        (by rw [up_length, List.length_range]; omega) cl (fun j => slices_IndexFunc_int64_int64_AT_impl_SubfieldIn_1.l0d_eq _ _ _ _ _ _) (fun xs i j => slices_DeleteFunc_int64_int64_AT_impl_SubfieldIn_1.l0d_eq _ _ _ _ _ _)
      rw [filt_up (q := fun y => decide (fsq M P (K % M) y = y)) (by intro y hy; simp)] at d
      have s := coll_gen (F := fun out i => spec_SubfieldIn.l0d (K : Int) out i (M : Int) (P : Int)) (n := 2 ^ M) (q := fun y => decide (fsq M P (K % M) y = y))
        (fun out => by show spec_SubfieldIn.l0d _ _ _ _ _ = _; rw [spec_SubfieldIn.l0d_eq, s_l01Size_v h, bind_some', Int.toNat_natCast, ← e, if_neg (by omega)])
        (fun out i hi ho => by
          show spec_SubfieldIn.l0d _ _ _ _ _ = if _ then spec_SubfieldIn.l0d _ _ _ _ _ else spec_SubfieldIn.l0d _ _ _ _ _
          rw [spec_SubfieldIn.l0d_eq, s_l01Size_v h, bind_some', Int.toNat_natCast, ← e, if_pos (by omega), s_sq_v h K hi, bind_some', wrS hi (by omega)]
          by_cases z : fsq M P (K % M) i = i
          · rw [if_pos (by omega), if_pos (by omega), if_pos (decide_eq_true z)]
          · rw [if_neg (by omega), if_neg (by simpa using z)])
      refine ⟨(up ((List.range (2 ^ M)).filter fun y => decide (fsq M P (K % M) y = y)), 0), ?_, s, ?_⟩
      · show (up _).length ≤ _
        rw [up_length]
        have := List.length_filter_le (fun y => decide (fsq M P (K % M) y = y)) (List.range (2 ^ M))
        rw [List.length_range] at this
        omega
      · rw [i_all_v h, bind_some', slices_DeleteFunc_int64_int64_AT_impl_SubfieldIn_1.d_eq, slices_IndexFunc_int64_int64_AT_impl_SubfieldIn_1.d_eq]
        rw [d, bind_some']
    · rw [if_neg c, if_neg c, bind_some', if_neg (by decide)]; exact ⟨_, by simp, rfl, rfl⟩
  · rw [if_neg h, if_neg h, bind_some', if_neg (by decide)]; exact ⟨_, by simp, rfl, rfl⟩
theorem SubfieldIn_law (m p k : Int) : laws_FnExactSubfieldIn.d m p k = some true := by
  have key : ∃ r : List Int × Int, (r.1.length ≤ 17592186044416) ∧ spec_SubfieldIn.d m p k = some r ∧ impl_SubfieldIn.d m p k = some r := by
    exact SubfieldIn_both m p k
  obtain ⟨r, hb, hS, hI⟩ := key
  obtain ⟨r0, r1⟩ := r
  simp only at hb
  repeat' (first
    | with_reducible exact rfl
    | dsimp only
    | refine bind_ok hS ?_
    | refine bind_ok hI ?_
    | with_reducible refine bind_ok (eqInt64S_self (by omega)) ?_
    | with_reducible refine bind_ok (heldInt64S_v (by omega) (by omega) (by omega)) ?_
    | with_reducible refine bind_ok (markInt64S_v (by omega) (by omega) (by omega)) ?_
    | with_reducible refine some_bind_ok ?_
    | with_reducible refine ite_bind_t (by first | with_reducible exact rfl | omega) ?_
    | with_reducible refine ite_bind_f (by first | omega | decide | (simp; done)) ?_
    | with_reducible refine bind_assoc_ok ?_
    | with_reducible refine ite_t (by first | with_reducible exact rfl | omega) ?_
    | with_reducible refine ite_f (by first | omega | decide | (simp; done)) ?_
    | rw [laws_FnExactSubfieldIn.j0d_eq]
    | rw [laws_FnExactSubfieldIn.j1d_eq]
    | rw [laws_FnExactSubfieldIn.d_eq]
    | unfold laws_toField.f
    )
end Go.Proofs.Ytbgbblgdbcjibaa.P
end
section
namespace Go.Proofs.Ytbgbblgdbcjibaa.P
open Go.RowKit Go.Proofs.YtbgbblgdbcjibaaW.PrintWords Go.Proofs.YtbgbblgdbcjibaaW.PrintLast Go.Proofs.YtbgbblgdbcjibaaW.PrintMore
/-- The one pure statement of laws_FnExactSubfieldIn. -/
def laws_FnExactSubfieldIn.Pure : Prop := ∀ (a0_0 : Int) (a0_1 : Int) (a1 : Int), ((Lit.int .i64 a0_0).wf = true) → ((Lit.int .i64 a0_1).wf = true) → ((Lit.int .i64 a1).wf = true) → ∃ k, laws_FnExactSubfieldIn.f k a0_0 a0_1 a1 = some true
end Go.Proofs.Ytbgbblgdbcjibaa.P
end
section
namespace Go.Proofs.Ytbgbblgdbcjibaa.Pure
theorem FnExactSubfieldIn : P.laws_FnExactSubfieldIn.Pure := fun a0_0 a0_1 a1 _ _ _ => P.IsLim.some_ (P.laws_FnExactSubfieldIn.lim a0_0 a0_1 a1) (P.SubfieldIn_law a0_0 a0_1 a1)
end Go.Proofs.Ytbgbblgdbcjibaa.Pure
end
