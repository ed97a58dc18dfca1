/- What the functions of the law FnExactSendThrough tell without rounds, and its pure statement. -/
import Derived.Test.YthjfilmdobkmlaaPx0
import Derived.Test.YthjfilmdobkmlaaPx1
import Derived.Test.YthjfilmdobkmlaaPx2
import Derived.Test.YthjfilmdobkmlaaPx3
import Derived.Test.YthjfilmdobkmlaaPx4
import Derived.Test.YthjfilmdobkmlaaPx5
import Derived.Test.YthjfilmdobkmlaaPx11
import Derived.Test.YthjfilmdobkmlaaPx12
import Derived.Test.YthjfilmdobkmlaaPx35
import Derived.Test.YthjfilmdobkmlaaPx6
import Derived.Test.YthjfilmdobkmlaaPx36
import Derived.Test.YthjfilmdobkmlaaPx37
import Derived.Test.YthjfilmdobkmlaaPx10
import Derived.Test.YthjfilmdobkmlaaPx38
import Derived.Test.YthjfilmdobkmlaaPx39
import Derived.Test.YthjfilmdobkmlaaPx43
import Derived.ProofKit
section
namespace Go.Proofs.Ythjfilmdobkmlaa.P
open Go.RowKit Go.Proofs.YthjfilmdobkmlaaW.PrintWords Go.Proofs.YthjfilmdobkmlaaW.PrintLast Go.Proofs.YthjfilmdobkmlaaW.PrintMore
def IsLim {α : Type} (g : Nat → Option α) (v : Option α) : Prop := (∀ k, LeO (g k) (g (k + 1))) ∧ ∀ r, v = some r ↔ ∃ k, g k = some r
theorem leO_le {α : Type} {g : Nat → Option α} (h : ∀ k, LeO (g k) (g (k + 1))) {j k : Nat} (hjk : j ≤ k) : LeO (g j) (g k) := by
  induction hjk with
  | refl => exact fun _ e => e
  | step _ ih => exact fun r e => h _ r (ih r e)
open Classical in
noncomputable def lim {α : Type} (g : Nat → Option α) : Option α := if h : ∃ r, ∃ k, g k = some r then some h.choose else none
theorem lim_spec {α : Type} {g : Nat → Option α} (h : ∀ k, LeO (g k) (g (k + 1))) : IsLim g (lim g) := by
  refine ⟨h, fun r => ?_⟩
  unfold lim
  by_cases hx : ∃ r, ∃ k, g k = some r
  · rw [dif_pos hx]
    obtain ⟨k, hk⟩ := hx.choose_spec
    constructor
    · intro e; exact ⟨k, by rw [hk]; exact e⟩
    · rintro ⟨j, hj⟩
      have a := leO_le h (Nat.le_max_left j k) _ hj
      have b := leO_le h (Nat.le_max_right j k) _ hk
      rw [a] at b; exact b.symm
  · rw [dif_neg hx]
    constructor
    · intro e; cases e
    · rintro ⟨k, hk⟩; exact absurd ⟨r, k, hk⟩ hx
theorem IsLim.unique {α : Type} {g : Nat → Option α} {v v' : Option α} (h : IsLim g v) (h' : IsLim g v') : v = v' :=
  Option.ext fun r => (h.2 r).trans (h'.2 r).symm
theorem IsLim.const {α : Type} (v : Option α) : IsLim (fun _ => v) v := ⟨fun _ _ e => e, fun _ => ⟨fun e => ⟨0, e⟩, fun ⟨_, e⟩ => e⟩⟩
theorem IsLim.ite {α : Type} {c : Prop} [Decidable c] {g g' : Nat → Option α} {v v' : Option α} (h : IsLim g v) (h' : IsLim g' v') :
    IsLim (fun k => if c then g k else g' k) (if c then v else v') := by
  by_cases hc : c
  · simp only [if_pos hc]; exact h
  · simp only [if_neg hc]; exact h'
theorem IsLim.bind {α β : Type} {g : Nat → Option α} {v : Option α} {q : Nat → α → Option β} {w : α → Option β}
    (h : IsLim g v) (hq : ∀ x, IsLim (fun k => q k x) (w x)) : IsLim (fun k => (g k).bind (q k)) (v.bind w) := by
  refine ⟨fun k r e => ?_, fun r => ?_⟩
  · obtain ⟨x, hx, hr⟩ := Option.bind_eq_some_iff.mp e
    exact Option.bind_eq_some_iff.mpr ⟨x, h.1 k x hx, (hq x).1 k r hr⟩
  · constructor
    · intro e
      obtain ⟨x, hx, hr⟩ := Option.bind_eq_some_iff.mp e
      obtain ⟨j, hj⟩ := (h.2 x).mp hx
      obtain ⟨k, hk⟩ := ((hq x).2 r).mp hr
      exact ⟨max j k, Option.bind_eq_some_iff.mpr ⟨x, leO_le h.1 (Nat.le_max_left j k) _ hj, leO_le (hq x).1 (Nat.le_max_right j k) _ hk⟩⟩
    · rintro ⟨k, e⟩
      obtain ⟨x, hx, hr⟩ := Option.bind_eq_some_iff.mp e
      exact Option.bind_eq_some_iff.mpr ⟨x, (h.2 x).mpr ⟨k, hx⟩, ((hq x).2 r).mpr ⟨k, hr⟩⟩
theorem IsLim.shift {α : Type} {g : Nat → Option α} {v : Option α} (h0 : g 0 = none) (h : IsLim (fun k => g (k + 1)) v) : IsLim g v := by
  refine ⟨fun k => ?_, fun r => ?_⟩
  · cases k with
    | zero => intro r e; rw [h0] at e; cases e
    | succ k => exact h.1 k
  · rw [h.2 r]
    constructor
    · rintro ⟨k, e⟩; exact ⟨k + 1, e⟩
    · rintro ⟨k, e⟩
      cases k with
      | zero => rw [h0] at e; cases e
      | succ k => exact ⟨k, e⟩
theorem IsLim.some_ {α : Type} {g : Nat → Option α} {v : Option α} {r : α} (h : IsLim g v) (e : v = some r) : ∃ k, g k = some r := (h.2 r).mp e
end Go.Proofs.Ythjfilmdobkmlaa.P
end
section
namespace Go.Proofs.Ythjfilmdobkmlaa.P
open Go.RowKit Go.Proofs.YthjfilmdobkmlaaW.PrintWords Go.Proofs.YthjfilmdobkmlaaW.PrintLast Go.Proofs.YthjfilmdobkmlaaW.PrintMore
set_option linter.unusedVariables false
set_option linter.unusedSimpArgs false
end Go.Proofs.Ythjfilmdobkmlaa.P
end
section
namespace Go.Proofs.Ythjfilmdobkmlaa.P
open Go.RowKit Go.Proofs.YthjfilmdobkmlaaW.PrintWords Go.Proofs.YthjfilmdobkmlaaW.PrintLast Go.Proofs.YthjfilmdobkmlaaW.PrintMore
set_option linter.unusedVariables false
set_option linter.unusedSimpArgs false
noncomputable def slices_IndexFunc_int64_int64_AT_impl_ValidMatrix_1.l0d (x0 : List Int) (x7 : Int) (x8 : Int) (x49000 : Int) (x49001 : List Int) : Option (Int) := lim (fun k => slices_IndexFunc_int64_int64_AT_impl_ValidMatrix_1.l0 k x0 x7 x8 x49000 x49001)
theorem slices_IndexFunc_int64_int64_AT_impl_ValidMatrix_1.l0lim (x0 : List Int) (x7 : Int) (x8 : Int) (x49000 : Int) (x49001 : List Int) : IsLim (fun k => slices_IndexFunc_int64_int64_AT_impl_ValidMatrix_1.l0 k x0 x7 x8 x49000 x49001) (slices_IndexFunc_int64_int64_AT_impl_ValidMatrix_1.l0d x0 x7 x8 x49000 x49001) := lim_spec (fun k => (slices_IndexFunc_int64_int64_AT_impl_ValidMatrix_1.mono_l k) x0 x7 x8 x49000 x49001)
theorem slices_IndexFunc_int64_int64_AT_impl_ValidMatrix_1.l0d_eq (x0 : List Int) (x7 : Int) (x8 : Int) (x49000 : Int) (x49001 : List Int) : slices_IndexFunc_int64_int64_AT_impl_ValidMatrix_1.l0d x0 x7 x8 x49000 x49001 = if x8 < x7 then (if 0 ≤ x8 then (if x8 < (x0.length : Int) then ((impl_ValidMatrix_1.f (rd x0 x8) x49000 x49001).bind fun t159 => (if t159 = true then (some x8) else (slices_IndexFunc_int64_int64_AT_impl_ValidMatrix_1.l0d x0 x7 (wrap64 (x8 + 1)) x49000 x49001))) else (none)) else (none)) else (some (-1)) := by
  refine IsLim.unique (slices_IndexFunc_int64_int64_AT_impl_ValidMatrix_1.l0lim _ _ _ _ _) ?_
  refine IsLim.shift (by rfl) ?_
  simp only [slices_IndexFunc_int64_int64_AT_impl_ValidMatrix_1.l0]
  repeat' (first | exact IsLim.const _ | refine IsLim.ite ?_ ?_ | refine IsLim.bind ?_ (fun _ => ?_) | exact slices_IndexFunc_int64_int64_AT_impl_ValidMatrix_1.l0lim ..)
noncomputable def slices_IndexFunc_int64_int64_AT_impl_ValidMatrix_1.d (l0 : List Int) (a1_0 : Int) (l1_1 : List Int) : Option (Int) := lim (fun k => slices_IndexFunc_int64_int64_AT_impl_ValidMatrix_1.f k l0 a1_0 l1_1)
theorem slices_IndexFunc_int64_int64_AT_impl_ValidMatrix_1.lim (l0 : List Int) (a1_0 : Int) (l1_1 : List Int) : IsLim (fun k => slices_IndexFunc_int64_int64_AT_impl_ValidMatrix_1.f k l0 a1_0 l1_1) (slices_IndexFunc_int64_int64_AT_impl_ValidMatrix_1.d l0 a1_0 l1_1) := lim_spec (fun k => slices_IndexFunc_int64_int64_AT_impl_ValidMatrix_1.mono l0 a1_0 l1_1 k)
theorem slices_IndexFunc_int64_int64_AT_impl_ValidMatrix_1.d_eq (l0 : List Int) (a1_0 : Int) (l1_1 : List Int) : slices_IndexFunc_int64_int64_AT_impl_ValidMatrix_1.d l0 a1_0 l1_1 = slices_IndexFunc_int64_int64_AT_impl_ValidMatrix_1.l0d l0 (l0.length : Int) 0 a1_0 l1_1 := by
  refine IsLim.unique (slices_IndexFunc_int64_int64_AT_impl_ValidMatrix_1.lim _ _ _) ?_
  unfold slices_IndexFunc_int64_int64_AT_impl_ValidMatrix_1.f
  repeat' (first | exact IsLim.const _ | refine IsLim.ite ?_ ?_ | refine IsLim.bind ?_ (fun _ => ?_) | exact slices_IndexFunc_int64_int64_AT_impl_ValidMatrix_1.l0lim ..)
noncomputable def slices_ContainsFunc_int64_int64_AT_impl_ValidMatrix_1.d (l0 : List Int) (a1_0 : Int) (l1_1 : List Int) : Option (Bool) := lim (fun k => slices_ContainsFunc_int64_int64_AT_impl_ValidMatrix_1.f k l0 a1_0 l1_1)
theorem slices_ContainsFunc_int64_int64_AT_impl_ValidMatrix_1.lim (l0 : List Int) (a1_0 : Int) (l1_1 : List Int) : IsLim (fun k => slices_ContainsFunc_int64_int64_AT_impl_ValidMatrix_1.f k l0 a1_0 l1_1) (slices_ContainsFunc_int64_int64_AT_impl_ValidMatrix_1.d l0 a1_0 l1_1) := lim_spec (fun k => slices_ContainsFunc_int64_int64_AT_impl_ValidMatrix_1.mono l0 a1_0 l1_1 k)
theorem slices_ContainsFunc_int64_int64_AT_impl_ValidMatrix_1.d_eq (l0 : List Int) (a1_0 : Int) (l1_1 : List Int) : slices_ContainsFunc_int64_int64_AT_impl_ValidMatrix_1.d l0 a1_0 l1_1 = (slices_IndexFunc_int64_int64_AT_impl_ValidMatrix_1.d l0 a1_0 l1_1).bind fun t160 => (some (decide (t160 ≥ 0))) := by
  refine IsLim.unique (slices_ContainsFunc_int64_int64_AT_impl_ValidMatrix_1.lim _ _ _) ?_
  unfold slices_ContainsFunc_int64_int64_AT_impl_ValidMatrix_1.f
  repeat' (first | exact IsLim.const _ | refine IsLim.ite ?_ ?_ | refine IsLim.bind ?_ (fun _ => ?_) | exact slices_IndexFunc_int64_int64_AT_impl_ValidMatrix_1.lim ..)
noncomputable def impl_ValidMatrix.d (a0_0 : Int) (l0_1 : List Int) : Option (Bool) := lim (fun k => impl_ValidMatrix.f k a0_0 l0_1)
theorem impl_ValidMatrix.lim (a0_0 : Int) (l0_1 : List Int) : IsLim (fun k => impl_ValidMatrix.f k a0_0 l0_1) (impl_ValidMatrix.d a0_0 l0_1) := lim_spec (fun k => impl_ValidMatrix.mono a0_0 l0_1 k)
theorem impl_ValidMatrix.d_eq (a0_0 : Int) (l0_1 : List Int) : impl_ValidMatrix.d a0_0 l0_1 = (impl_within.f a0_0 1 10).bind fun t162 => (if t162 = true then (if (l0_1.length : Int) ≤ 10 then ((slices_ContainsFunc_int64_int64_AT_impl_ValidMatrix_1.d l0_1 a0_0 l0_1).bind fun t163 => (some (!t163))) else (some false)) else (some false)) := by
  refine IsLim.unique (impl_ValidMatrix.lim _ _) ?_
  unfold impl_ValidMatrix.f
  repeat' (first | exact IsLim.const _ | refine IsLim.ite ?_ ?_ | refine IsLim.bind ?_ (fun _ => ?_) | exact slices_ContainsFunc_int64_int64_AT_impl_ValidMatrix_1.lim ..)
noncomputable def slices_IndexFunc_int64_int64_AT_impl_echelon_1.l0d (x0 : List Int) (x7 : Int) (x8 : Int) (x49000 : Int) : Option (Int) := lim (fun k => slices_IndexFunc_int64_int64_AT_impl_echelon_1.l0 k x0 x7 x8 x49000)
theorem slices_IndexFunc_int64_int64_AT_impl_echelon_1.l0lim (x0 : List Int) (x7 : Int) (x8 : Int) (x49000 : Int) : IsLim (fun k => slices_IndexFunc_int64_int64_AT_impl_echelon_1.l0 k x0 x7 x8 x49000) (slices_IndexFunc_int64_int64_AT_impl_echelon_1.l0d x0 x7 x8 x49000) := lim_spec (fun k => (slices_IndexFunc_int64_int64_AT_impl_echelon_1.mono_l k) x0 x7 x8 x49000)
theorem slices_IndexFunc_int64_int64_AT_impl_echelon_1.l0d_eq (x0 : List Int) (x7 : Int) (x8 : Int) (x49000 : Int) : slices_IndexFunc_int64_int64_AT_impl_echelon_1.l0d x0 x7 x8 x49000 = if x8 < x7 then (if 0 ≤ x8 then (if x8 < (x0.length : Int) then ((impl_echelon_1.f (rd x0 x8) x49000).bind fun t165 => (if t165 = true then (some x8) else (slices_IndexFunc_int64_int64_AT_impl_echelon_1.l0d x0 x7 (wrap64 (x8 + 1)) x49000))) else (none)) else (none)) else (some (-1)) := by
  refine IsLim.unique (slices_IndexFunc_int64_int64_AT_impl_echelon_1.l0lim _ _ _ _) ?_
  refine IsLim.shift (by rfl) ?_
  simp only [slices_IndexFunc_int64_int64_AT_impl_echelon_1.l0]
  repeat' (first | exact IsLim.const _ | refine IsLim.ite ?_ ?_ | refine IsLim.bind ?_ (fun _ => ?_) | exact slices_IndexFunc_int64_int64_AT_impl_echelon_1.l0lim ..)
noncomputable def slices_IndexFunc_int64_int64_AT_impl_echelon_1.d (l0 : List Int) (a1_0 : Int) : Option (Int) := lim (fun k => slices_IndexFunc_int64_int64_AT_impl_echelon_1.f k l0 a1_0)
theorem slices_IndexFunc_int64_int64_AT_impl_echelon_1.lim (l0 : List Int) (a1_0 : Int) : IsLim (fun k => slices_IndexFunc_int64_int64_AT_impl_echelon_1.f k l0 a1_0) (slices_IndexFunc_int64_int64_AT_impl_echelon_1.d l0 a1_0) := lim_spec (fun k => slices_IndexFunc_int64_int64_AT_impl_echelon_1.mono l0 a1_0 k)
theorem slices_IndexFunc_int64_int64_AT_impl_echelon_1.d_eq (l0 : List Int) (a1_0 : Int) : slices_IndexFunc_int64_int64_AT_impl_echelon_1.d l0 a1_0 = slices_IndexFunc_int64_int64_AT_impl_echelon_1.l0d l0 (l0.length : Int) 0 a1_0 := by
  refine IsLim.unique (slices_IndexFunc_int64_int64_AT_impl_echelon_1.lim _ _) ?_
  unfold slices_IndexFunc_int64_int64_AT_impl_echelon_1.f
  repeat' (first | exact IsLim.const _ | refine IsLim.ite ?_ ?_ | refine IsLim.bind ?_ (fun _ => ?_) | exact slices_IndexFunc_int64_int64_AT_impl_echelon_1.l0lim ..)
end Go.Proofs.Ythjfilmdobkmlaa.P
end
section
namespace Go.Proofs.Ythjfilmdobkmlaa.P
open Go.RowKit Go.Proofs.YthjfilmdobkmlaaW.PrintWords Go.Proofs.YthjfilmdobkmlaaW.PrintLast Go.Proofs.YthjfilmdobkmlaaW.PrintMore
set_option linter.unusedVariables false
set_option linter.unusedSimpArgs false
noncomputable def impl_echelon.l0d (x0 : List Int) (x3 : Int) (x170000 : Int) : Option (List Int) := lim (fun k => impl_echelon.l0 k x0 x3 x170000)
theorem impl_echelon.l0lim (x0 : List Int) (x3 : Int) (x170000 : Int) : IsLim (fun k => impl_echelon.l0 k x0 x3 x170000) (impl_echelon.l0d x0 x3 x170000) := lim_spec (fun k => (impl_echelon.mono_l k).1 x0 x3 x170000)
noncomputable def impl_echelon.j1d (x0 : List Int) (x3 : Int) (x16 : Bool) (x170000 : Int) : Option (List Int) := lim (fun k => impl_echelon.j1 k x0 x3 x16 x170000)
theorem impl_echelon.j1lim (x0 : List Int) (x3 : Int) (x16 : Bool) (x170000 : Int) : IsLim (fun k => impl_echelon.j1 k x0 x3 x16 x170000) (impl_echelon.j1d x0 x3 x16 x170000) := lim_spec (fun k => (impl_echelon.mono_l k).2.1 x0 x3 x16 x170000)
noncomputable def impl_echelon.l1d (x0 : List Int) (x3 : Int) (x45 : Int) (x46 : Int) (x170000 : Int) : Option (List Int) := lim (fun k => impl_echelon.l1 k x0 x3 x45 x46 x170000)
theorem impl_echelon.l1lim (x0 : List Int) (x3 : Int) (x45 : Int) (x46 : Int) (x170000 : Int) : IsLim (fun k => impl_echelon.l1 k x0 x3 x45 x46 x170000) (impl_echelon.l1d x0 x3 x45 x46 x170000) := lim_spec (fun k => (impl_echelon.mono_l k).2.2 x0 x3 x45 x46 x170000)
theorem impl_echelon.l0d_eq (x0 : List Int) (x3 : Int) (x170000 : Int) : impl_echelon.l0d x0 x3 x170000 = if x170000 < 62 then (impl_echelon.j1d x0 x3 (decide (x3 < (x0.length : Int))) x170000) else (impl_echelon.j1d x0 x3 false x170000) := by
  refine IsLim.unique (impl_echelon.l0lim _ _ _) ?_
  refine IsLim.shift (by rfl) ?_
  simp only [impl_echelon.l0]
  repeat' (first | exact IsLim.const _ | refine IsLim.ite ?_ ?_ | refine IsLim.bind ?_ (fun _ => ?_) | exact impl_echelon.j1lim ..)
theorem impl_echelon.j1d_eq (x0 : List Int) (x3 : Int) (x16 : Bool) (x170000 : Int) : impl_echelon.j1d x0 x3 x16 x170000 = if x16 = true then (if 0 ≤ x3 then (if x3 ≤ (x0.length : Int) then ((slices_IndexFunc_int64_int64_AT_impl_echelon_1.d (x0.drop (x3 : Int).toNat) x170000).bind fun t177 => (if t177 < 0 then (impl_echelon.l0d x0 x3 (wrap64 (x170000 + 1))) else (if 0 ≤ (wrap64 (x3 + t177)) then (if (wrap64 (x3 + t177)) < (x0.length : Int) then (if x3 < (x0.length : Int) then (impl_echelon.l1d ((x0.set (x3 : Int).toNat (rd x0 (wrap64 (x3 + t177)))).set ((wrap64 (x3 + t177)) : Int).toNat (rd x0 x3)) x3 (x0.length : Int) 0 x170000) else (none)) else (none)) else (none)))) else (none)) else (none)) else (if 0 ≤ x3 then (if x3 ≤ (x0.length : Int) then (some (x0.take (x3 : Int).toNat)) else (none)) else (none)) := by
  refine IsLim.unique (impl_echelon.j1lim _ _ _ _) ?_
  refine IsLim.shift (by rfl) ?_
  simp only [impl_echelon.j1]
  repeat' (first | exact IsLim.const _ | refine IsLim.ite ?_ ?_ | refine IsLim.bind ?_ (fun _ => ?_) | exact slices_IndexFunc_int64_int64_AT_impl_echelon_1.lim .. | exact impl_echelon.l0lim .. | exact impl_echelon.l1lim ..)
theorem impl_echelon.l1d_eq (x0 : List Int) (x3 : Int) (x45 : Int) (x46 : Int) (x170000 : Int) : impl_echelon.l1d x0 x3 x45 x46 x170000 = if x46 < x45 then (if x46 = x3 then (impl_echelon.l1d x0 x3 x45 (wrap64 (x46 + 1)) x170000) else (if 0 ≤ x46 then (if x46 < (x0.length : Int) then (if 0 ≤ x170000 then (if (Go.bits .and .i64 (shr .i64 (rd x0 x46) x170000) 1) = 1 then (if 0 ≤ x3 then (if x3 < (x0.length : Int) then (impl_echelon.l1d (x0.set (x46 : Int).toNat (Go.bits .xor .i64 (rd x0 x46) (rd x0 x3))) x3 x45 (wrap64 (x46 + 1)) x170000) else (none)) else (none)) else (impl_echelon.l1d x0 x3 x45 (wrap64 (x46 + 1)) x170000)) else (none)) else (none)) else (none))) else (impl_echelon.l0d x0 (wrap64 (x3 + 1)) (wrap64 (x170000 + 1))) := by
  refine IsLim.unique (impl_echelon.l1lim _ _ _ _ _) ?_
  refine IsLim.shift (by rfl) ?_
  simp only [impl_echelon.l1]
  repeat' (first | exact IsLim.const _ | refine IsLim.ite ?_ ?_ | refine IsLim.bind ?_ (fun _ => ?_) | exact impl_echelon.l1lim .. | exact impl_echelon.l0lim ..)
noncomputable def impl_echelon.d (l0 : List Int) : Option (List Int) := lim (fun k => impl_echelon.f k l0)
theorem impl_echelon.lim (l0 : List Int) : IsLim (fun k => impl_echelon.f k l0) (impl_echelon.d l0) := lim_spec (fun k => impl_echelon.mono l0 k)
theorem impl_echelon.d_eq (l0 : List Int) : impl_echelon.d l0 = (slices_Clone_int64_int64.f l0).bind fun t166 => (impl_echelon.l0d t166 0 0) := by
  refine IsLim.unique (impl_echelon.lim _) ?_
  unfold impl_echelon.f
  repeat' (first | exact IsLim.const _ | refine IsLim.ite ?_ ?_ | refine IsLim.bind ?_ (fun _ => ?_) | exact impl_echelon.l0lim ..)
end Go.Proofs.Ythjfilmdobkmlaa.P
end
section
namespace Go.Proofs.Ythjfilmdobkmlaa.P
open Go.RowKit Go.Proofs.YthjfilmdobkmlaaW.PrintWords Go.Proofs.YthjfilmdobkmlaaW.PrintLast Go.Proofs.YthjfilmdobkmlaaW.PrintMore
set_option linter.unusedVariables false
set_option linter.unusedSimpArgs false
noncomputable def impl_Matrix_form.d (a0_0 : Int) (l0_1 : List Int) : Option (Int × List Int) := lim (fun k => impl_Matrix_form.f k a0_0 l0_1)
theorem impl_Matrix_form.lim (a0_0 : Int) (l0_1 : List Int) : IsLim (fun k => impl_Matrix_form.f k a0_0 l0_1) (impl_Matrix_form.d a0_0 l0_1) := lim_spec (fun k => impl_Matrix_form.mono a0_0 l0_1 k)
theorem impl_Matrix_form.d_eq (a0_0 : Int) (l0_1 : List Int) : impl_Matrix_form.d a0_0 l0_1 = (impl_echelon.d l0_1).bind fun t196 => (some (a0_0, t196)) := by
  refine IsLim.unique (impl_Matrix_form.lim _ _) ?_
  unfold impl_Matrix_form.f
  repeat' (first | exact IsLim.const _ | refine IsLim.ite ?_ ?_ | refine IsLim.bind ?_ (fun _ => ?_) | exact impl_echelon.lim ..)
noncomputable def slices_Equal_int64_int64.l0d (x0 : List Int) (x1 : List Int) (x12 : Int) (x13 : Int) : Option (Bool) := lim (fun k => slices_Equal_int64_int64.l0 k x0 x1 x12 x13)
theorem slices_Equal_int64_int64.l0lim (x0 : List Int) (x1 : List Int) (x12 : Int) (x13 : Int) : IsLim (fun k => slices_Equal_int64_int64.l0 k x0 x1 x12 x13) (slices_Equal_int64_int64.l0d x0 x1 x12 x13) := lim_spec (fun k => (slices_Equal_int64_int64.mono_l k) x0 x1 x12 x13)
theorem slices_Equal_int64_int64.l0d_eq (x0 : List Int) (x1 : List Int) (x12 : Int) (x13 : Int) : slices_Equal_int64_int64.l0d x0 x1 x12 x13 = if x13 < x12 then (if 0 ≤ x13 then (if x13 < (x0.length : Int) then (if x13 < (x1.length : Int) then (if (rd x0 x13) = (rd x1 x13) then (slices_Equal_int64_int64.l0d x0 x1 x12 (wrap64 (x13 + 1))) else (some false)) else (none)) else (none)) else (none)) else (some true) := by
  refine IsLim.unique (slices_Equal_int64_int64.l0lim _ _ _ _) ?_
  refine IsLim.shift (by rfl) ?_
  simp only [slices_Equal_int64_int64.l0]
  repeat' (first | exact IsLim.const _ | refine IsLim.ite ?_ ?_ | refine IsLim.bind ?_ (fun _ => ?_) | exact slices_Equal_int64_int64.l0lim ..)
noncomputable def slices_Equal_int64_int64.d (l0 : List Int) (l1 : List Int) : Option (Bool) := lim (fun k => slices_Equal_int64_int64.f k l0 l1)
theorem slices_Equal_int64_int64.lim (l0 : List Int) (l1 : List Int) : IsLim (fun k => slices_Equal_int64_int64.f k l0 l1) (slices_Equal_int64_int64.d l0 l1) := lim_spec (fun k => slices_Equal_int64_int64.mono l0 l1 k)
theorem slices_Equal_int64_int64.d_eq (l0 : List Int) (l1 : List Int) : slices_Equal_int64_int64.d l0 l1 = if (l0.length : Int) = (l1.length : Int) then (slices_Equal_int64_int64.l0d l0 l1 (l0.length : Int) 0) else (some false) := by
  refine IsLim.unique (slices_Equal_int64_int64.lim _ _) ?_
  unfold slices_Equal_int64_int64.f
  repeat' (first | exact IsLim.const _ | refine IsLim.ite ?_ ?_ | refine IsLim.bind ?_ (fun _ => ?_) | exact slices_Equal_int64_int64.l0lim ..)
noncomputable def impl_IsSpace.d (a0_0 : Int) (l0_1 : List Int) : Option (Bool) := lim (fun k => impl_IsSpace.f k a0_0 l0_1)
theorem impl_IsSpace.lim (a0_0 : Int) (l0_1 : List Int) : IsLim (fun k => impl_IsSpace.f k a0_0 l0_1) (impl_IsSpace.d a0_0 l0_1) := lim_spec (fun k => impl_IsSpace.mono a0_0 l0_1 k)
theorem impl_IsSpace.d_eq (a0_0 : Int) (l0_1 : List Int) : impl_IsSpace.d a0_0 l0_1 = (impl_ValidMatrix.d a0_0 l0_1).bind fun t216 => (if t216 = true then ((impl_echelon.d l0_1).bind fun t217 => ((slices_Equal_int64_int64.d t217 l0_1).bind fun t220 => (some t220))) else (some false)) := by
  refine IsLim.unique (impl_IsSpace.lim _ _) ?_
  unfold impl_IsSpace.f
  repeat' (first | exact IsLim.const _ | refine IsLim.ite ?_ ?_ | refine IsLim.bind ?_ (fun _ => ?_) | exact impl_ValidMatrix.lim .. | exact impl_echelon.lim .. | exact slices_Equal_int64_int64.lim ..)
noncomputable def spec_l00Same.l0d (x0 : List Int) (x1 : List Int) (x5 : Int) : Option (Bool) := lim (fun k => spec_l00Same.l0 k x0 x1 x5)
theorem spec_l00Same.l0lim (x0 : List Int) (x1 : List Int) (x5 : Int) : IsLim (fun k => spec_l00Same.l0 k x0 x1 x5) (spec_l00Same.l0d x0 x1 x5) := lim_spec (fun k => (spec_l00Same.mono_l k) x0 x1 x5)
theorem spec_l00Same.l0d_eq (x0 : List Int) (x1 : List Int) (x5 : Int) : spec_l00Same.l0d x0 x1 x5 = if x5 < (x0.length : Int) then (if 0 ≤ x5 then (if x5 < (x1.length : Int) then (if (rd x0 x5) = (rd x1 x5) then (spec_l00Same.l0d x0 x1 (wrap64 (x5 + 1))) else (some false)) else (none)) else (none)) else (some true) := by
  refine IsLim.unique (spec_l00Same.l0lim _ _ _) ?_
  refine IsLim.shift (by rfl) ?_
  simp only [spec_l00Same.l0]
  repeat' (first | exact IsLim.const _ | refine IsLim.ite ?_ ?_ | refine IsLim.bind ?_ (fun _ => ?_) | exact spec_l00Same.l0lim ..)
noncomputable def spec_l00Same.d (l0 : List Int) (l1 : List Int) : Option (Bool) := lim (fun k => spec_l00Same.f k l0 l1)
theorem spec_l00Same.lim (l0 : List Int) (l1 : List Int) : IsLim (fun k => spec_l00Same.f k l0 l1) (spec_l00Same.d l0 l1) := lim_spec (fun k => spec_l00Same.mono l0 l1 k)
theorem spec_l00Same.d_eq (l0 : List Int) (l1 : List Int) : spec_l00Same.d l0 l1 = if (l0.length : Int) = (l1.length : Int) then (spec_l00Same.l0d l0 l1 0) else (some false) := by
  refine IsLim.unique (spec_l00Same.lim _ _) ?_
  unfold spec_l00Same.f
  repeat' (first | exact IsLim.const _ | refine IsLim.ite ?_ ?_ | refine IsLim.bind ?_ (fun _ => ?_) | exact spec_l00Same.l0lim ..)
end Go.Proofs.Ythjfilmdobkmlaa.P
end
section
namespace Go.Proofs.Ythjfilmdobkmlaa.P
open Go.RowKit Go.Proofs.YthjfilmdobkmlaaW.PrintWords Go.Proofs.YthjfilmdobkmlaaW.PrintLast Go.Proofs.YthjfilmdobkmlaaW.PrintMore
set_option linter.unusedVariables false
set_option linter.unusedSimpArgs false
noncomputable def spec_l02Echelon.l0d (x0 : Int) (x5 : List Int) (x6 : List Int) (x7 : Int) : Option (List Int) := lim (fun k => spec_l02Echelon.l0 k x0 x5 x6 x7)
theorem spec_l02Echelon.l0lim (x0 : Int) (x5 : List Int) (x6 : List Int) (x7 : Int) : IsLim (fun k => spec_l02Echelon.l0 k x0 x5 x6 x7) (spec_l02Echelon.l0d x0 x5 x6 x7) := lim_spec (fun k => (spec_l02Echelon.mono_l k).1 x0 x5 x6 x7)
noncomputable def spec_l02Echelon.l1d (x0 : Int) (x5 : List Int) (x6 : List Int) (x7 : Int) (x8 : Int) (x9 : Int) : Option (List Int) := lim (fun k => spec_l02Echelon.l1 k x0 x5 x6 x7 x8 x9)
theorem spec_l02Echelon.l1lim (x0 : Int) (x5 : List Int) (x6 : List Int) (x7 : Int) (x8 : Int) (x9 : Int) : IsLim (fun k => spec_l02Echelon.l1 k x0 x5 x6 x7 x8 x9) (spec_l02Echelon.l1d x0 x5 x6 x7 x8 x9) := lim_spec (fun k => (spec_l02Echelon.mono_l k).2.1 x0 x5 x6 x7 x8 x9)
noncomputable def spec_l02Echelon.j2d (x0 : Int) (x5 : List Int) (x6 : List Int) (x7 : Int) (x8 : Int) (x9 : Int) (x28 : Bool) : Option (List Int) := lim (fun k => spec_l02Echelon.j2 k x0 x5 x6 x7 x8 x9 x28)
theorem spec_l02Echelon.j2lim (x0 : Int) (x5 : List Int) (x6 : List Int) (x7 : Int) (x8 : Int) (x9 : Int) (x28 : Bool) : IsLim (fun k => spec_l02Echelon.j2 k x0 x5 x6 x7 x8 x9 x28) (spec_l02Echelon.j2d x0 x5 x6 x7 x8 x9 x28) := lim_spec (fun k => (spec_l02Echelon.mono_l k).2.2.1 x0 x5 x6 x7 x8 x9 x28)
noncomputable def spec_l02Echelon.l2d (x0 : Int) (x5 : List Int) (x6 : List Int) (x7 : Int) (x10 : Int) (x11 : Int) : Option (List Int) := lim (fun k => spec_l02Echelon.l2 k x0 x5 x6 x7 x10 x11)
theorem spec_l02Echelon.l2lim (x0 : Int) (x5 : List Int) (x6 : List Int) (x7 : Int) (x10 : Int) (x11 : Int) : IsLim (fun k => spec_l02Echelon.l2 k x0 x5 x6 x7 x10 x11) (spec_l02Echelon.l2d x0 x5 x6 x7 x10 x11) := lim_spec (fun k => (spec_l02Echelon.mono_l k).2.2.2.1 x0 x5 x6 x7 x10 x11)
noncomputable def spec_l02Echelon.l3d (x0 : Int) (x5 : List Int) (x6 : List Int) (x7 : Int) (x10 : Int) (x12 : Int) : Option (List Int) := lim (fun k => spec_l02Echelon.l3 k x0 x5 x6 x7 x10 x12)
theorem spec_l02Echelon.l3lim (x0 : Int) (x5 : List Int) (x6 : List Int) (x7 : Int) (x10 : Int) (x12 : Int) : IsLim (fun k => spec_l02Echelon.l3 k x0 x5 x6 x7 x10 x12) (spec_l02Echelon.l3d x0 x5 x6 x7 x10 x12) := lim_spec (fun k => (spec_l02Echelon.mono_l k).2.2.2.2 x0 x5 x6 x7 x10 x12)
theorem spec_l02Echelon.l0d_eq (x0 : Int) (x5 : List Int) (x6 : List Int) (x7 : Int) : spec_l02Echelon.l0d x0 x5 x6 x7 = if x7 < x0 then (spec_l02Echelon.l1d x0 x5 x6 x7 (-1) 0) else (some x6) := by
  refine IsLim.unique (spec_l02Echelon.l0lim _ _ _ _) ?_
  refine IsLim.shift (by rfl) ?_
  simp only [spec_l02Echelon.l0]
  repeat' (first | exact IsLim.const _ | refine IsLim.ite ?_ ?_ | refine IsLim.bind ?_ (fun _ => ?_) | exact spec_l02Echelon.l1lim ..)
theorem spec_l02Echelon.l1d_eq (x0 : Int) (x5 : List Int) (x6 : List Int) (x7 : Int) (x8 : Int) (x9 : Int) : spec_l02Echelon.l1d x0 x5 x6 x7 x8 x9 = if x9 < (x5.length : Int) then (spec_l02Echelon.j2d x0 x5 x6 x7 x8 x9 (decide (x8 < 0))) else (spec_l02Echelon.j2d x0 x5 x6 x7 x8 x9 false) := by
  refine IsLim.unique (spec_l02Echelon.l1lim _ _ _ _ _ _) ?_
  refine IsLim.shift (by rfl) ?_
  simp only [spec_l02Echelon.l1]
  repeat' (first | exact IsLim.const _ | refine IsLim.ite ?_ ?_ | refine IsLim.bind ?_ (fun _ => ?_) | exact spec_l02Echelon.j2lim ..)
theorem spec_l02Echelon.j2d_eq (x0 : Int) (x5 : List Int) (x6 : List Int) (x7 : Int) (x8 : Int) (x9 : Int) (x28 : Bool) : spec_l02Echelon.j2d x0 x5 x6 x7 x8 x9 x28 = if x28 = true then (if 0 ≤ x9 then (if x9 < (x5.length : Int) then ((spec_l02Bit.f (rd x5 x9) x7).bind fun t236 => (if t236 = 1 then (spec_l02Echelon.l1d x0 x5 x6 x7 x9 (wrap64 (x9 + 1))) else (spec_l02Echelon.l1d x0 x5 x6 x7 x8 (wrap64 (x9 + 1))))) else (none)) else (none)) else (if x8 < 0 then (spec_l02Echelon.l0d x0 x5 x6 (wrap64 (x7 + 1))) else (if 0 ≤ x8 then (if x8 < (x5.length : Int) then (spec_l02Echelon.l2d x0 (x5.set (x8 : Int).toNat 0) x6 x7 (rd x5 x8) 0) else (none)) else (none))) := by
  refine IsLim.unique (spec_l02Echelon.j2lim _ _ _ _ _ _ _) ?_
  refine IsLim.shift (by rfl) ?_
  simp only [spec_l02Echelon.j2]
  repeat' (first | exact IsLim.const _ | refine IsLim.ite ?_ ?_ | refine IsLim.bind ?_ (fun _ => ?_) | exact spec_l02Echelon.l1lim .. | exact spec_l02Echelon.l0lim .. | exact spec_l02Echelon.l2lim ..)
theorem spec_l02Echelon.l2d_eq (x0 : Int) (x5 : List Int) (x6 : List Int) (x7 : Int) (x10 : Int) (x11 : Int) : spec_l02Echelon.l2d x0 x5 x6 x7 x10 x11 = if x11 < (x5.length : Int) then (if 0 ≤ x11 then ((spec_l02Bit.f (rd x5 x11) x7).bind fun t240 => (if t240 = 1 then (spec_l02Echelon.l2d x0 (x5.set (x11 : Int).toNat (Go.bits .xor .i64 (rd x5 x11) x10)) x6 x7 x10 (wrap64 (x11 + 1))) else (spec_l02Echelon.l2d x0 x5 x6 x7 x10 (wrap64 (x11 + 1))))) else (none)) else (spec_l02Echelon.l3d x0 x5 x6 x7 x10 0) := by
  refine IsLim.unique (spec_l02Echelon.l2lim _ _ _ _ _ _) ?_
  refine IsLim.shift (by rfl) ?_
  simp only [spec_l02Echelon.l2]
  repeat' (first | exact IsLim.const _ | refine IsLim.ite ?_ ?_ | refine IsLim.bind ?_ (fun _ => ?_) | exact spec_l02Echelon.l2lim .. | exact spec_l02Echelon.l3lim ..)
theorem spec_l02Echelon.l3d_eq (x0 : Int) (x5 : List Int) (x6 : List Int) (x7 : Int) (x10 : Int) (x12 : Int) : spec_l02Echelon.l3d x0 x5 x6 x7 x10 x12 = if x12 < (x6.length : Int) then (if 0 ≤ x12 then ((spec_l02Bit.f (rd x6 x12) x7).bind fun t244 => (if t244 = 1 then (spec_l02Echelon.l3d x0 x5 (x6.set (x12 : Int).toNat (Go.bits .xor .i64 (rd x6 x12) x10)) x7 x10 (wrap64 (x12 + 1))) else (spec_l02Echelon.l3d x0 x5 x6 x7 x10 (wrap64 (x12 + 1))))) else (none)) else (if x6.length < 17592186044416 then (spec_l02Echelon.l0d x0 x5 (x6 ++ [x10]) (wrap64 (x7 + 1))) else (none)) := by
  refine IsLim.unique (spec_l02Echelon.l3lim _ _ _ _ _ _) ?_
  refine IsLim.shift (by rfl) ?_
  simp only [spec_l02Echelon.l3]
  repeat' (first | exact IsLim.const _ | refine IsLim.ite ?_ ?_ | refine IsLim.bind ?_ (fun _ => ?_) | exact spec_l02Echelon.l3lim .. | exact spec_l02Echelon.l0lim ..)
noncomputable def spec_l02Echelon.d (a0 : Int) (l1 : List Int) : Option (List Int) := lim (fun k => spec_l02Echelon.f k a0 l1)
theorem spec_l02Echelon.lim (a0 : Int) (l1 : List Int) : IsLim (fun k => spec_l02Echelon.f k a0 l1) (spec_l02Echelon.d a0 l1) := lim_spec (fun k => spec_l02Echelon.mono a0 l1 k)
theorem spec_l02Echelon.d_eq (a0 : Int) (l1 : List Int) : spec_l02Echelon.d a0 l1 = (spec_l00Own.f l1).bind fun t229 => (spec_l02Echelon.l0d a0 t229 (([] : List Int)) 0) := by
  refine IsLim.unique (spec_l02Echelon.lim _ _) ?_
  unfold spec_l02Echelon.f
  repeat' (first | exact IsLim.const _ | refine IsLim.ite ?_ ?_ | refine IsLim.bind ?_ (fun _ => ?_) | exact spec_l02Echelon.l0lim ..)
end Go.Proofs.Ythjfilmdobkmlaa.P
end
section
namespace Go.Proofs.Ythjfilmdobkmlaa.P
open Go.RowKit Go.Proofs.YthjfilmdobkmlaaW.PrintWords Go.Proofs.YthjfilmdobkmlaaW.PrintLast Go.Proofs.YthjfilmdobkmlaaW.PrintMore
set_option linter.unusedVariables false
set_option linter.unusedSimpArgs false
noncomputable def impl_Matrix_sum.d (a0_0 : Int) (l0_1 : List Int) (a1_0 : Int) (l1_1 : List Int) : Option (Int × List Int) := lim (fun k => impl_Matrix_sum.f k a0_0 l0_1 a1_0 l1_1)
theorem impl_Matrix_sum.lim (a0_0 : Int) (l0_1 : List Int) (a1_0 : Int) (l1_1 : List Int) : IsLim (fun k => impl_Matrix_sum.f k a0_0 l0_1 a1_0 l1_1) (impl_Matrix_sum.d a0_0 l0_1 a1_0 l1_1) := lim_spec (fun k => impl_Matrix_sum.mono a0_0 l0_1 a1_0 l1_1 k)
theorem impl_Matrix_sum.d_eq (a0_0 : Int) (l0_1 : List Int) (a1_0 : Int) (l1_1 : List Int) : impl_Matrix_sum.d a0_0 l0_1 a1_0 l1_1 = (slices_Concat_int64_int64.f (([l0_1, l1_1] : List (List Int)))).bind fun t432 => ((impl_echelon.d t432).bind fun t435 => (some (a0_0, t435))) := by
  refine IsLim.unique (impl_Matrix_sum.lim _ _ _ _) ?_
  unfold impl_Matrix_sum.f
  repeat' (first | exact IsLim.const _ | refine IsLim.ite ?_ ?_ | refine IsLim.bind ?_ (fun _ => ?_) | exact impl_echelon.lim ..)
end Go.Proofs.Ythjfilmdobkmlaa.P
end
section
namespace Go.Proofs.Ythjfilmdobkmlaa.P
open Go.RowKit Go.Proofs.YthjfilmdobkmlaaW.PrintWords Go.Proofs.YthjfilmdobkmlaaW.PrintLast Go.Proofs.YthjfilmdobkmlaaW.PrintMore
set_option linter.unusedVariables false
set_option linter.unusedSimpArgs false
noncomputable def laws_toInt64S.l0d (x0 : List Int) (x3 : List Int) (x4 : Int) : Option (List Int) := lim (fun k => laws_toInt64S.l0 k x0 x3 x4)
theorem laws_toInt64S.l0lim (x0 : List Int) (x3 : List Int) (x4 : Int) : IsLim (fun k => laws_toInt64S.l0 k x0 x3 x4) (laws_toInt64S.l0d x0 x3 x4) := lim_spec (fun k => (laws_toInt64S.mono_l k) x0 x3 x4)
theorem laws_toInt64S.l0d_eq (x0 : List Int) (x3 : List Int) (x4 : Int) : laws_toInt64S.l0d x0 x3 x4 = if x4 < (x0.length : Int) then (if 0 ≤ x4 then (if x4 < (x3.length : Int) then (laws_toInt64S.l0d x0 (x3.set (x4 : Int).toNat (rd x0 x4)) (wrap64 (x4 + 1))) else (none)) else (none)) else (some x3) := by
  refine IsLim.unique (laws_toInt64S.l0lim _ _ _) ?_
  refine IsLim.shift (by rfl) ?_
  simp only [laws_toInt64S.l0]
  repeat' (first | exact IsLim.const _ | refine IsLim.ite ?_ ?_ | refine IsLim.bind ?_ (fun _ => ?_) | exact laws_toInt64S.l0lim ..)
noncomputable def laws_toInt64S.d (l0 : List Int) : Option (List Int) := lim (fun k => laws_toInt64S.f k l0)
theorem laws_toInt64S.lim (l0 : List Int) : IsLim (fun k => laws_toInt64S.f k l0) (laws_toInt64S.d l0) := lim_spec (fun k => laws_toInt64S.mono l0 k)
theorem laws_toInt64S.d_eq (l0 : List Int) : laws_toInt64S.d l0 = if 0 ≤ (l0.length : Int) then (if ((l0.length : Int) : Int).toNat ≤ 35184372088832 then (laws_toInt64S.l0d l0 (List.replicate ((l0.length : Int) : Int).toNat 0) 0) else (none)) else (none) := by
  refine IsLim.unique (laws_toInt64S.lim _) ?_
  unfold laws_toInt64S.f
  repeat' (first | exact IsLim.const _ | refine IsLim.ite ?_ ?_ | refine IsLim.bind ?_ (fun _ => ?_) | exact laws_toInt64S.l0lim ..)
noncomputable def laws_eqInt64S.l0d (x0 : List Int) (x1 : List Int) (x5 : Int) : Option (Bool) := lim (fun k => laws_eqInt64S.l0 k x0 x1 x5)
theorem laws_eqInt64S.l0lim (x0 : List Int) (x1 : List Int) (x5 : Int) : IsLim (fun k => laws_eqInt64S.l0 k x0 x1 x5) (laws_eqInt64S.l0d x0 x1 x5) := lim_spec (fun k => (laws_eqInt64S.mono_l k) x0 x1 x5)
theorem laws_eqInt64S.l0d_eq (x0 : List Int) (x1 : List Int) (x5 : Int) : laws_eqInt64S.l0d x0 x1 x5 = if x5 < (x0.length : Int) then (if 0 ≤ x5 then (if x5 < (x1.length : Int) then (if (rd x0 x5) = (rd x1 x5) then (laws_eqInt64S.l0d x0 x1 (wrap64 (x5 + 1))) else (some false)) else (none)) else (none)) else (some true) := by
  refine IsLim.unique (laws_eqInt64S.l0lim _ _ _) ?_
  refine IsLim.shift (by rfl) ?_
  simp only [laws_eqInt64S.l0]
  repeat' (first | exact IsLim.const _ | refine IsLim.ite ?_ ?_ | refine IsLim.bind ?_ (fun _ => ?_) | exact laws_eqInt64S.l0lim ..)
noncomputable def laws_eqInt64S.d (l0 : List Int) (l1 : List Int) : Option (Bool) := lim (fun k => laws_eqInt64S.f k l0 l1)
theorem laws_eqInt64S.lim (l0 : List Int) (l1 : List Int) : IsLim (fun k => laws_eqInt64S.f k l0 l1) (laws_eqInt64S.d l0 l1) := lim_spec (fun k => laws_eqInt64S.mono l0 l1 k)
theorem laws_eqInt64S.d_eq (l0 : List Int) (l1 : List Int) : laws_eqInt64S.d l0 l1 = if (l0.length : Int) = (l1.length : Int) then (laws_eqInt64S.l0d l0 l1 0) else (some false) := by
  refine IsLim.unique (laws_eqInt64S.lim _ _) ?_
  unfold laws_eqInt64S.f
  repeat' (first | exact IsLim.const _ | refine IsLim.ite ?_ ?_ | refine IsLim.bind ?_ (fun _ => ?_) | exact laws_eqInt64S.l0lim ..)
end Go.Proofs.Ythjfilmdobkmlaa.P
end
section
namespace Go.Proofs.Ythjfilmdobkmlaa.P
open Go.RowKit Go.Proofs.YthjfilmdobkmlaaW.PrintWords Go.Proofs.YthjfilmdobkmlaaW.PrintLast Go.Proofs.YthjfilmdobkmlaaW.PrintMore
set_option linter.unusedVariables false
set_option linter.unusedSimpArgs false
noncomputable def spec_l02Times.l0d (x0 : Int) (x1 : List Int) (x5 : Int) (x6 : Int) : Option (Int) := lim (fun k => spec_l02Times.l0 k x0 x1 x5 x6)
theorem spec_l02Times.l0lim (x0 : Int) (x1 : List Int) (x5 : Int) (x6 : Int) : IsLim (fun k => spec_l02Times.l0 k x0 x1 x5 x6) (spec_l02Times.l0d x0 x1 x5 x6) := lim_spec (fun k => (spec_l02Times.mono_l k) x0 x1 x5 x6)
theorem spec_l02Times.l0d_eq (x0 : Int) (x1 : List Int) (x5 : Int) (x6 : Int) : spec_l02Times.l0d x0 x1 x5 x6 = if x6 < (x1.length : Int) then ((spec_l02Bit.f x0 x6).bind fun t784 => (if t784 = 1 then (if 0 ≤ x6 then (spec_l02Times.l0d x0 x1 (Go.bits .xor .i64 x5 (rd x1 x6)) (wrap64 (x6 + 1))) else (none)) else (spec_l02Times.l0d x0 x1 x5 (wrap64 (x6 + 1))))) else (some x5) := by
  refine IsLim.unique (spec_l02Times.l0lim _ _ _ _) ?_
  refine IsLim.shift (by rfl) ?_
  simp only [spec_l02Times.l0]
  repeat' (first | exact IsLim.const _ | refine IsLim.ite ?_ ?_ | refine IsLim.bind ?_ (fun _ => ?_) | exact spec_l02Times.l0lim ..)
noncomputable def spec_l02Times.d (a0 : Int) (l1 : List Int) : Option (Int) := lim (fun k => spec_l02Times.f k a0 l1)
theorem spec_l02Times.lim (a0 : Int) (l1 : List Int) : IsLim (fun k => spec_l02Times.f k a0 l1) (spec_l02Times.d a0 l1) := lim_spec (fun k => spec_l02Times.mono a0 l1 k)
theorem spec_l02Times.d_eq (a0 : Int) (l1 : List Int) : spec_l02Times.d a0 l1 = spec_l02Times.l0d a0 l1 0 0 := by
  refine IsLim.unique (spec_l02Times.lim _ _) ?_
  unfold spec_l02Times.f
  repeat' (first | exact IsLim.const _ | refine IsLim.ite ?_ ?_ | refine IsLim.bind ?_ (fun _ => ?_) | exact spec_l02Times.l0lim ..)
end Go.Proofs.Ythjfilmdobkmlaa.P
end
section
namespace Go.Proofs.Ythjfilmdobkmlaa.P
open Go.RowKit Go.Proofs.YthjfilmdobkmlaaW.PrintWords Go.Proofs.YthjfilmdobkmlaaW.PrintLast Go.Proofs.YthjfilmdobkmlaaW.PrintMore
set_option linter.unusedVariables false
set_option linter.unusedSimpArgs false
noncomputable def spec_l02Ok.j0d (x17 : Bool) (x41000 : Int) (x41001 : List Int) : Option (Bool) := lim (fun k => spec_l02Ok.j0 k x17 x41000 x41001)
theorem spec_l02Ok.j0lim (x17 : Bool) (x41000 : Int) (x41001 : List Int) : IsLim (fun k => spec_l02Ok.j0 k x17 x41000 x41001) (spec_l02Ok.j0d x17 x41000 x41001) := lim_spec (fun k => (spec_l02Ok.mono_l k).1 x17 x41000 x41001)
noncomputable def spec_l02Ok.l0d (x3 : Int) (x41000 : Int) (x41001 : List Int) : Option (Bool) := lim (fun k => spec_l02Ok.l0 k x3 x41000 x41001)
theorem spec_l02Ok.l0lim (x3 : Int) (x41000 : Int) (x41001 : List Int) : IsLim (fun k => spec_l02Ok.l0 k x3 x41000 x41001) (spec_l02Ok.l0d x3 x41000 x41001) := lim_spec (fun k => (spec_l02Ok.mono_l k).2 x3 x41000 x41001)
theorem spec_l02Ok.j0d_eq (x17 : Bool) (x41000 : Int) (x41001 : List Int) : spec_l02Ok.j0d x17 x41000 x41001 = if x17 = true then (some false) else (spec_l02Ok.l0d 0 x41000 x41001) := by
  refine IsLim.unique (spec_l02Ok.j0lim _ _ _) ?_
  refine IsLim.shift (by rfl) ?_
  simp only [spec_l02Ok.j0]
  repeat' (first | exact IsLim.const _ | refine IsLim.ite ?_ ?_ | refine IsLim.bind ?_ (fun _ => ?_) | exact spec_l02Ok.l0lim ..)
theorem spec_l02Ok.l0d_eq (x3 : Int) (x41000 : Int) (x41001 : List Int) : spec_l02Ok.l0d x3 x41000 x41001 = if x3 < (x41001.length : Int) then (if 0 ≤ x3 then (if 0 ≤ (IntKind.u64.wrap (x41000)) then ((spec_l00In.f (rd x41001 x3) 0 (wrap64 ((shl .i64 1 (IntKind.u64.wrap (x41000))) - 1))).bind fun t252 => (if t252 = true then (spec_l02Ok.l0d (wrap64 (x3 + 1)) x41000 x41001) else (some false))) else (none)) else (none)) else (some true) := by
  refine IsLim.unique (spec_l02Ok.l0lim _ _ _) ?_
  refine IsLim.shift (by rfl) ?_
  simp only [spec_l02Ok.l0]
  repeat' (first | exact IsLim.const _ | refine IsLim.ite ?_ ?_ | refine IsLim.bind ?_ (fun _ => ?_) | exact spec_l02Ok.l0lim ..)
noncomputable def spec_l02Ok.d (a0_0 : Int) (l0_1 : List Int) : Option (Bool) := lim (fun k => spec_l02Ok.f k a0_0 l0_1)
theorem spec_l02Ok.lim (a0_0 : Int) (l0_1 : List Int) : IsLim (fun k => spec_l02Ok.f k a0_0 l0_1) (spec_l02Ok.d a0_0 l0_1) := lim_spec (fun k => spec_l02Ok.mono a0_0 l0_1 k)
theorem spec_l02Ok.d_eq (a0_0 : Int) (l0_1 : List Int) : spec_l02Ok.d a0_0 l0_1 = (spec_l00In.f a0_0 1 10).bind fun t250 => (if t250 = true then (spec_l02Ok.j0d (decide ((l0_1.length : Int) > 10)) a0_0 l0_1) else (spec_l02Ok.j0d true a0_0 l0_1)) := by
  refine IsLim.unique (spec_l02Ok.lim _ _) ?_
  unfold spec_l02Ok.f
  repeat' (first | exact IsLim.const _ | refine IsLim.ite ?_ ?_ | refine IsLim.bind ?_ (fun _ => ?_) | exact spec_l02Ok.j0lim ..)
noncomputable def spec_l02Space.d (a0_0 : Int) (l0_1 : List Int) : Option (Bool) := lim (fun k => spec_l02Space.f k a0_0 l0_1)
theorem spec_l02Space.lim (a0_0 : Int) (l0_1 : List Int) : IsLim (fun k => spec_l02Space.f k a0_0 l0_1) (spec_l02Space.d a0_0 l0_1) := lim_spec (fun k => spec_l02Space.mono a0_0 l0_1 k)
theorem spec_l02Space.d_eq (a0_0 : Int) (l0_1 : List Int) : spec_l02Space.d a0_0 l0_1 = (spec_l02Ok.d a0_0 l0_1).bind fun t253 => (if t253 = true then ((spec_l02Echelon.d a0_0 l0_1).bind fun t254 => ((spec_l00Same.d t254 l0_1).bind fun t257 => (some t257))) else (some false)) := by
  refine IsLim.unique (spec_l02Space.lim _ _) ?_
  unfold spec_l02Space.f
  repeat' (first | exact IsLim.const _ | refine IsLim.ite ?_ ?_ | refine IsLim.bind ?_ (fun _ => ?_) | exact spec_l02Ok.lim .. | exact spec_l02Echelon.lim .. | exact spec_l00Same.lim ..)
end Go.Proofs.Ythjfilmdobkmlaa.P
end
section
namespace Go.Proofs.Ythjfilmdobkmlaa.P
open Go.RowKit Go.Proofs.YthjfilmdobkmlaaW.PrintWords Go.Proofs.YthjfilmdobkmlaaW.PrintLast Go.Proofs.YthjfilmdobkmlaaW.PrintMore
set_option linter.unusedVariables false
set_option linter.unusedSimpArgs false
noncomputable def spec_SendThrough.j0d (x19 : Bool) (x787000 : Int) (x787001 : List Int) (x788000 : Int) (x788001 : List Int) (x789000 : Int) (x789001 : List Int) : Option (Int × List Int × Int) := lim (fun k => spec_SendThrough.j0 k x19 x787000 x787001 x788000 x788001 x789000 x789001)
theorem spec_SendThrough.j0lim (x19 : Bool) (x787000 : Int) (x787001 : List Int) (x788000 : Int) (x788001 : List Int) (x789000 : Int) (x789001 : List Int) : IsLim (fun k => spec_SendThrough.j0 k x19 x787000 x787001 x788000 x788001 x789000 x789001) (spec_SendThrough.j0d x19 x787000 x787001 x788000 x788001 x789000 x789001) := lim_spec (fun k => (spec_SendThrough.mono_l k).1 x19 x787000 x787001 x788000 x788001 x789000 x789001)
noncomputable def spec_SendThrough.j1d (x39 : Bool) (x787000 : Int) (x787001 : List Int) (x788000 : Int) (x788001 : List Int) (x789000 : Int) (x789001 : List Int) : Option (Int × List Int × Int) := lim (fun k => spec_SendThrough.j1 k x39 x787000 x787001 x788000 x788001 x789000 x789001)
theorem spec_SendThrough.j1lim (x39 : Bool) (x787000 : Int) (x787001 : List Int) (x788000 : Int) (x788001 : List Int) (x789000 : Int) (x789001 : List Int) : IsLim (fun k => spec_SendThrough.j1 k x39 x787000 x787001 x788000 x788001 x789000 x789001) (spec_SendThrough.j1d x39 x787000 x787001 x788000 x788001 x789000 x789001) := lim_spec (fun k => (spec_SendThrough.mono_l k).2.1 x39 x787000 x787001 x788000 x788001 x789000 x789001)
noncomputable def spec_SendThrough.l0d (x8 : List Int) (x9 : Int) (x787000 : Int) (x787001 : List Int) (x788000 : Int) (x788001 : List Int) : Option (Int × List Int × Int) := lim (fun k => spec_SendThrough.l0 k x8 x9 x787000 x787001 x788000 x788001)
theorem spec_SendThrough.l0lim (x8 : List Int) (x9 : Int) (x787000 : Int) (x787001 : List Int) (x788000 : Int) (x788001 : List Int) : IsLim (fun k => spec_SendThrough.l0 k x8 x9 x787000 x787001 x788000 x788001) (spec_SendThrough.l0d x8 x9 x787000 x787001 x788000 x788001) := lim_spec (fun k => (spec_SendThrough.mono_l k).2.2 x8 x9 x787000 x787001 x788000 x788001)
theorem spec_SendThrough.j0d_eq (x19 : Bool) (x787000 : Int) (x787001 : List Int) (x788000 : Int) (x788001 : List Int) (x789000 : Int) (x789001 : List Int) : spec_SendThrough.j0d x19 x787000 x787001 x788000 x788001 x789000 x789001 = if x19 = true then (some (0, ([] : List Int), 1)) else (if x789000 = x787000 then (if (x787001.length : Int) > 0 then (spec_SendThrough.j1d (x788000 != (x787001.length : Int)) x787000 x787001 x788000 x788001 x789000 x789001) else (spec_SendThrough.j1d false x787000 x787001 x788000 x788001 x789000 x789001)) else (spec_SendThrough.j1d true x787000 x787001 x788000 x788001 x789000 x789001)) := by
  refine IsLim.unique (spec_SendThrough.j0lim _ _ _ _ _ _ _) ?_
  refine IsLim.shift (by rfl) ?_
  simp only [spec_SendThrough.j0]
  repeat' (first | exact IsLim.const _ | refine IsLim.ite ?_ ?_ | refine IsLim.bind ?_ (fun _ => ?_) | exact spec_SendThrough.j1lim ..)
theorem spec_SendThrough.j1d_eq (x39 : Bool) (x787000 : Int) (x787001 : List Int) (x788000 : Int) (x788001 : List Int) (x789000 : Int) (x789001 : List Int) : spec_SendThrough.j1d x39 x787000 x787001 x788000 x788001 x789000 x789001 = if x39 = true then (some (0, ([] : List Int), 2)) else ((spec_l00Own.f x789001).bind fun t793 => (spec_SendThrough.l0d t793 0 x787000 x787001 x788000 x788001)) := by
  refine IsLim.unique (spec_SendThrough.j1lim _ _ _ _ _ _ _) ?_
  refine IsLim.shift (by rfl) ?_
  simp only [spec_SendThrough.j1]
  repeat' (first | exact IsLim.const _ | refine IsLim.ite ?_ ?_ | refine IsLim.bind ?_ (fun _ => ?_) | exact spec_SendThrough.l0lim ..)
theorem spec_SendThrough.l0d_eq (x8 : List Int) (x9 : Int) (x787000 : Int) (x787001 : List Int) (x788000 : Int) (x788001 : List Int) : spec_SendThrough.l0d x8 x9 x787000 x787001 x788000 x788001 = if x9 < (x788001.length : Int) then (if (x787001.length : Int) > 0 then (if 0 ≤ x9 then ((spec_l02Times.d (rd x788001 x9) x787001).bind fun t797 => (if x8.length < 17592186044416 then (spec_SendThrough.l0d (x8 ++ [t797]) (wrap64 (x9 + 1)) x787000 x787001 x788000 x788001) else (none))) else (none)) else ((spec_l02Echelon.d x787000 x8).bind fun t801 => (some (x787000, t801, 0)))) else ((spec_l02Echelon.d x787000 x8).bind fun t804 => (some (x787000, t804, 0))) := by
  refine IsLim.unique (spec_SendThrough.l0lim _ _ _ _ _ _) ?_
  refine IsLim.shift (by rfl) ?_
  simp only [spec_SendThrough.l0]
  repeat' (first | exact IsLim.const _ | refine IsLim.ite ?_ ?_ | refine IsLim.bind ?_ (fun _ => ?_) | exact spec_l02Times.lim .. | exact spec_l02Echelon.lim .. | exact spec_SendThrough.l0lim ..)
noncomputable def spec_SendThrough.d (a0_0 : Int) (l0_1 : List Int) (a1_0 : Int) (l1_1 : List Int) (a2_0 : Int) (l2_1 : List Int) : Option (Int × List Int × Int) := lim (fun k => spec_SendThrough.f k a0_0 l0_1 a1_0 l1_1 a2_0 l2_1)
theorem spec_SendThrough.lim (a0_0 : Int) (l0_1 : List Int) (a1_0 : Int) (l1_1 : List Int) (a2_0 : Int) (l2_1 : List Int) : IsLim (fun k => spec_SendThrough.f k a0_0 l0_1 a1_0 l1_1 a2_0 l2_1) (spec_SendThrough.d a0_0 l0_1 a1_0 l1_1 a2_0 l2_1) := lim_spec (fun k => spec_SendThrough.mono a0_0 l0_1 a1_0 l1_1 a2_0 l2_1 k)
theorem spec_SendThrough.d_eq (a0_0 : Int) (l0_1 : List Int) (a1_0 : Int) (l1_1 : List Int) (a2_0 : Int) (l2_1 : List Int) : spec_SendThrough.d a0_0 l0_1 a1_0 l1_1 a2_0 l2_1 = (spec_l02Space.d a0_0 l0_1).bind fun t790 => (if t790 = true then ((spec_l02Ok.d a1_0 l1_1).bind fun t791 => (if t791 = true then ((spec_l02Ok.d a2_0 l2_1).bind fun t792 => (spec_SendThrough.j0d (!t792) a0_0 l0_1 a1_0 l1_1 a2_0 l2_1)) else (spec_SendThrough.j0d true a0_0 l0_1 a1_0 l1_1 a2_0 l2_1))) else (spec_SendThrough.j0d true a0_0 l0_1 a1_0 l1_1 a2_0 l2_1)) := by
  refine IsLim.unique (spec_SendThrough.lim _ _ _ _ _ _) ?_
  unfold spec_SendThrough.f
  repeat' (first | exact IsLim.const _ | refine IsLim.ite ?_ ?_ | refine IsLim.bind ?_ (fun _ => ?_) | exact spec_l02Space.lim .. | exact spec_l02Ok.lim .. | exact spec_SendThrough.j0lim ..)
end Go.Proofs.Ythjfilmdobkmlaa.P
end
section
namespace Go.Proofs.Ythjfilmdobkmlaa.P
open Go.RowKit Go.Proofs.YthjfilmdobkmlaaW.PrintWords Go.Proofs.YthjfilmdobkmlaaW.PrintLast Go.Proofs.YthjfilmdobkmlaaW.PrintMore
set_option linter.unusedVariables false
set_option linter.unusedSimpArgs false
noncomputable def laws_toMatrix.d (a0_0 : Int) (l0_1 : List Int) : Option (Int × List Int) := lim (fun k => laws_toMatrix.f k a0_0 l0_1)
theorem laws_toMatrix.lim (a0_0 : Int) (l0_1 : List Int) : IsLim (fun k => laws_toMatrix.f k a0_0 l0_1) (laws_toMatrix.d a0_0 l0_1) := lim_spec (fun k => laws_toMatrix.mono a0_0 l0_1 k)
theorem laws_toMatrix.d_eq (a0_0 : Int) (l0_1 : List Int) : laws_toMatrix.d a0_0 l0_1 = (laws_toInt64S.d l0_1).bind fun t810 => (some (a0_0, t810)) := by
  refine IsLim.unique (laws_toMatrix.lim _ _) ?_
  unfold laws_toMatrix.f
  repeat' (first | exact IsLim.const _ | refine IsLim.ite ?_ ?_ | refine IsLim.bind ?_ (fun _ => ?_) | exact laws_toInt64S.lim ..)
end Go.Proofs.Ythjfilmdobkmlaa.P
end
section
namespace Go.Proofs.Ythjfilmdobkmlaa.P
open Go.RowKit Go.Proofs.YthjfilmdobkmlaaW.PrintWords Go.Proofs.YthjfilmdobkmlaaW.PrintLast Go.Proofs.YthjfilmdobkmlaaW.PrintMore
set_option linter.unusedVariables false
set_option linter.unusedSimpArgs false
noncomputable def impl_sumOf.l0d (x1 : Int) (x5 : Int) (x8 : List Int) (x9 : Int) (x10 : Int) : Option (Int) := lim (fun k => impl_sumOf.l0 k x1 x5 x8 x9 x10)
theorem impl_sumOf.l0lim (x1 : Int) (x5 : Int) (x8 : List Int) (x9 : Int) (x10 : Int) : IsLim (fun k => impl_sumOf.l0 k x1 x5 x8 x9 x10) (impl_sumOf.l0d x1 x5 x8 x9 x10) := lim_spec (fun k => (impl_sumOf.mono_l k) x1 x5 x8 x9 x10)
theorem impl_sumOf.l0d_eq (x1 : Int) (x5 : Int) (x8 : List Int) (x9 : Int) (x10 : Int) : impl_sumOf.l0d x1 x5 x8 x9 x10 = if x10 < x9 then (if 0 ≤ x10 then (if x10 < (x8.length : Int) then (if (Go.bits .and .i64 (shr .i64 x1 x10) 1) = 1 then (impl_sumOf.l0d x1 (Go.bits .xor .i64 x5 (rd x8 x10)) x8 x9 (wrap64 (x10 + 1))) else (impl_sumOf.l0d x1 x5 x8 x9 (wrap64 (x10 + 1)))) else (none)) else (none)) else (some x5) := by
  refine IsLim.unique (impl_sumOf.l0lim _ _ _ _ _) ?_
  refine IsLim.shift (by rfl) ?_
  simp only [impl_sumOf.l0]
  repeat' (first | exact IsLim.const _ | refine IsLim.ite ?_ ?_ | refine IsLim.bind ?_ (fun _ => ?_) | exact impl_sumOf.l0lim ..)
noncomputable def impl_sumOf.d (l0 : List Int) (a1 : Int) : Option (Int) := lim (fun k => impl_sumOf.f k l0 a1)
theorem impl_sumOf.lim (l0 : List Int) (a1 : Int) : IsLim (fun k => impl_sumOf.f k l0 a1) (impl_sumOf.d l0 a1) := lim_spec (fun k => impl_sumOf.mono l0 a1 k)
theorem impl_sumOf.d_eq (l0 : List Int) (a1 : Int) : impl_sumOf.d l0 a1 = impl_sumOf.l0d a1 0 l0 (l0.length : Int) 0 := by
  refine IsLim.unique (impl_sumOf.lim _ _) ?_
  unfold impl_sumOf.f
  repeat' (first | exact IsLim.const _ | refine IsLim.ite ?_ ?_ | refine IsLim.bind ?_ (fun _ => ?_) | exact impl_sumOf.l0lim ..)
noncomputable def impl_Matrix_mul.l0d (x12 : List Int) (x13 : Int) (x14 : Int) (x301000 : Int) (x301001 : List Int) (x303000 : Int) (x303001 : List Int) : Option (Int × List Int) := lim (fun k => impl_Matrix_mul.l0 k x12 x13 x14 x301000 x301001 x303000 x303001)
theorem impl_Matrix_mul.l0lim (x12 : List Int) (x13 : Int) (x14 : Int) (x301000 : Int) (x301001 : List Int) (x303000 : Int) (x303001 : List Int) : IsLim (fun k => impl_Matrix_mul.l0 k x12 x13 x14 x301000 x301001 x303000 x303001) (impl_Matrix_mul.l0d x12 x13 x14 x301000 x301001 x303000 x303001) := lim_spec (fun k => (impl_Matrix_mul.mono_l k) x12 x13 x14 x301000 x301001 x303000 x303001)
theorem impl_Matrix_mul.l0d_eq (x12 : List Int) (x13 : Int) (x14 : Int) (x301000 : Int) (x301001 : List Int) (x303000 : Int) (x303001 : List Int) : impl_Matrix_mul.l0d x12 x13 x14 x301000 x301001 x303000 x303001 = if x14 < x13 then (if 0 ≤ x14 then (if x14 < (x12.length : Int) then ((impl_sumOf.d x301001 (rd x12 x14)).bind fun t304 => (if x303001.length < 17592186044416 then (impl_Matrix_mul.l0d x12 x13 (wrap64 (x14 + 1)) x301000 x301001 x303000 (x303001 ++ [t304])) else (none))) else (none)) else (none)) else (some (x303000, x303001)) := by
  refine IsLim.unique (impl_Matrix_mul.l0lim _ _ _ _ _ _ _) ?_
  refine IsLim.shift (by rfl) ?_
  simp only [impl_Matrix_mul.l0]
  repeat' (first | exact IsLim.const _ | refine IsLim.ite ?_ ?_ | refine IsLim.bind ?_ (fun _ => ?_) | exact impl_sumOf.lim .. | exact impl_Matrix_mul.l0lim ..)
noncomputable def impl_Matrix_mul.d (a0_0 : Int) (l0_1 : List Int) (a1_0 : Int) (l1_1 : List Int) : Option (Int × List Int) := lim (fun k => impl_Matrix_mul.f k a0_0 l0_1 a1_0 l1_1)
theorem impl_Matrix_mul.lim (a0_0 : Int) (l0_1 : List Int) (a1_0 : Int) (l1_1 : List Int) : IsLim (fun k => impl_Matrix_mul.f k a0_0 l0_1 a1_0 l1_1) (impl_Matrix_mul.d a0_0 l0_1 a1_0 l1_1) := lim_spec (fun k => impl_Matrix_mul.mono a0_0 l0_1 a1_0 l1_1 k)
theorem impl_Matrix_mul.d_eq (a0_0 : Int) (l0_1 : List Int) (a1_0 : Int) (l1_1 : List Int) : impl_Matrix_mul.d a0_0 l0_1 a1_0 l1_1 = impl_Matrix_mul.l0d l0_1 (l0_1.length : Int) 0 a1_0 l1_1 a1_0 ([] : List Int) := by
  refine IsLim.unique (impl_Matrix_mul.lim _ _ _ _) ?_
  unfold impl_Matrix_mul.f
  repeat' (first | exact IsLim.const _ | refine IsLim.ite ?_ ?_ | refine IsLim.bind ?_ (fun _ => ?_) | exact impl_Matrix_mul.l0lim ..)
end Go.Proofs.Ythjfilmdobkmlaa.P
end
section
namespace Go.Proofs.Ythjfilmdobkmlaa.P
open Go.RowKit Go.Proofs.YthjfilmdobkmlaaW.PrintWords Go.Proofs.YthjfilmdobkmlaaW.PrintLast Go.Proofs.YthjfilmdobkmlaaW.PrintMore
set_option linter.unusedVariables false
set_option linter.unusedSimpArgs false
noncomputable def impl_SendThrough.j0d (x8 : Bool) (x814000 : Int) (x814001 : List Int) (x815000 : Int) (x815001 : List Int) (x816000 : Int) (x816001 : List Int) : Option (Int × List Int × Int) := lim (fun k => impl_SendThrough.j0 k x8 x814000 x814001 x815000 x815001 x816000 x816001)
theorem impl_SendThrough.j0lim (x8 : Bool) (x814000 : Int) (x814001 : List Int) (x815000 : Int) (x815001 : List Int) (x816000 : Int) (x816001 : List Int) : IsLim (fun k => impl_SendThrough.j0 k x8 x814000 x814001 x815000 x815001 x816000 x816001) (impl_SendThrough.j0d x8 x814000 x814001 x815000 x815001 x816000 x816001) := lim_spec (fun k => (impl_SendThrough.mono_l k).1 x8 x814000 x814001 x815000 x815001 x816000 x816001)
noncomputable def impl_SendThrough.j1d (x23 : Bool) (x814000 : Int) (x814001 : List Int) (x815000 : Int) (x815001 : List Int) (x816000 : Int) (x816001 : List Int) : Option (Int × List Int × Int) := lim (fun k => impl_SendThrough.j1 k x23 x814000 x814001 x815000 x815001 x816000 x816001)
theorem impl_SendThrough.j1lim (x23 : Bool) (x814000 : Int) (x814001 : List Int) (x815000 : Int) (x815001 : List Int) (x816000 : Int) (x816001 : List Int) : IsLim (fun k => impl_SendThrough.j1 k x23 x814000 x814001 x815000 x815001 x816000 x816001) (impl_SendThrough.j1d x23 x814000 x814001 x815000 x815001 x816000 x816001) := lim_spec (fun k => (impl_SendThrough.mono_l k).2 x23 x814000 x814001 x815000 x815001 x816000 x816001)
theorem impl_SendThrough.j0d_eq (x8 : Bool) (x814000 : Int) (x814001 : List Int) (x815000 : Int) (x815001 : List Int) (x816000 : Int) (x816001 : List Int) : impl_SendThrough.j0d x8 x814000 x814001 x815000 x815001 x816000 x816001 = if x8 = true then (some (0, ([] : List Int), 1)) else (if (x814001.length : Int) > 0 then ((impl_size_int64.f x814001).bind fun t820 => (if x815000 = t820 then (impl_SendThrough.j1d (x816000 != x814000) x814000 x814001 x815000 x815001 x816000 x816001) else (impl_SendThrough.j1d true x814000 x814001 x815000 x815001 x816000 x816001))) else (impl_SendThrough.j1d (x816000 != x814000) x814000 x814001 x815000 x815001 x816000 x816001)) := by
  refine IsLim.unique (impl_SendThrough.j0lim _ _ _ _ _ _ _) ?_
  refine IsLim.shift (by rfl) ?_
  simp only [impl_SendThrough.j0]
  repeat' (first | exact IsLim.const _ | refine IsLim.ite ?_ ?_ | refine IsLim.bind ?_ (fun _ => ?_) | exact impl_SendThrough.j1lim ..)
theorem impl_SendThrough.j1d_eq (x23 : Bool) (x814000 : Int) (x814001 : List Int) (x815000 : Int) (x815001 : List Int) (x816000 : Int) (x816001 : List Int) : impl_SendThrough.j1d x23 x814000 x814001 x815000 x815001 x816000 x816001 = if x23 = true then (some (0, ([] : List Int), 2)) else (if (x814001.length : Int) = 0 then ((impl_Matrix_form.d x816000 x816001).bind fun bt821 => (some (bt821.1, bt821.2, 0))) else ((impl_Matrix_mul.d x815000 x815001 x814000 x814001).bind fun bt825 => ((impl_Matrix_sum.d bt825.1 bt825.2 x816000 x816001).bind fun bt829 => (some (bt829.1, bt829.2, 0))))) := by
  refine IsLim.unique (impl_SendThrough.j1lim _ _ _ _ _ _ _) ?_
  refine IsLim.shift (by rfl) ?_
  simp only [impl_SendThrough.j1]
  repeat' (first | exact IsLim.const _ | refine IsLim.ite ?_ ?_ | refine IsLim.bind ?_ (fun _ => ?_) | exact impl_Matrix_form.lim .. | exact impl_Matrix_mul.lim .. | exact impl_Matrix_sum.lim ..)
noncomputable def impl_SendThrough.d (a0_0 : Int) (l0_1 : List Int) (a1_0 : Int) (l1_1 : List Int) (a2_0 : Int) (l2_1 : List Int) : Option (Int × List Int × Int) := lim (fun k => impl_SendThrough.f k a0_0 l0_1 a1_0 l1_1 a2_0 l2_1)
theorem impl_SendThrough.lim (a0_0 : Int) (l0_1 : List Int) (a1_0 : Int) (l1_1 : List Int) (a2_0 : Int) (l2_1 : List Int) : IsLim (fun k => impl_SendThrough.f k a0_0 l0_1 a1_0 l1_1 a2_0 l2_1) (impl_SendThrough.d a0_0 l0_1 a1_0 l1_1 a2_0 l2_1) := lim_spec (fun k => impl_SendThrough.mono a0_0 l0_1 a1_0 l1_1 a2_0 l2_1 k)
theorem impl_SendThrough.d_eq (a0_0 : Int) (l0_1 : List Int) (a1_0 : Int) (l1_1 : List Int) (a2_0 : Int) (l2_1 : List Int) : impl_SendThrough.d a0_0 l0_1 a1_0 l1_1 a2_0 l2_1 = (impl_IsSpace.d a0_0 l0_1).bind fun t817 => (if t817 = true then ((impl_ValidMatrix.d a1_0 l1_1).bind fun t818 => (if t818 = true then ((impl_ValidMatrix.d a2_0 l2_1).bind fun t819 => (impl_SendThrough.j0d (!t819) a0_0 l0_1 a1_0 l1_1 a2_0 l2_1)) else (impl_SendThrough.j0d true a0_0 l0_1 a1_0 l1_1 a2_0 l2_1))) else (impl_SendThrough.j0d true a0_0 l0_1 a1_0 l1_1 a2_0 l2_1)) := by
  refine IsLim.unique (impl_SendThrough.lim _ _ _ _ _ _) ?_
  unfold impl_SendThrough.f
  repeat' (first | exact IsLim.const _ | refine IsLim.ite ?_ ?_ | refine IsLim.bind ?_ (fun _ => ?_) | exact impl_IsSpace.lim .. | exact impl_ValidMatrix.lim .. | exact impl_SendThrough.j0lim ..)
end Go.Proofs.Ythjfilmdobkmlaa.P
end
section
namespace Go.Proofs.Ythjfilmdobkmlaa.P
open Go.RowKit Go.Proofs.YthjfilmdobkmlaaW.PrintWords Go.Proofs.YthjfilmdobkmlaaW.PrintLast Go.Proofs.YthjfilmdobkmlaaW.PrintMore
set_option linter.unusedVariables false
set_option linter.unusedSimpArgs false
noncomputable def laws_eqMatrix.d (a0_0 : Int) (l0_1 : List Int) (a1_0 : Int) (l1_1 : List Int) : Option (Bool) := lim (fun k => laws_eqMatrix.f k a0_0 l0_1 a1_0 l1_1)
theorem laws_eqMatrix.lim (a0_0 : Int) (l0_1 : List Int) (a1_0 : Int) (l1_1 : List Int) : IsLim (fun k => laws_eqMatrix.f k a0_0 l0_1 a1_0 l1_1) (laws_eqMatrix.d a0_0 l0_1 a1_0 l1_1) := lim_spec (fun k => laws_eqMatrix.mono a0_0 l0_1 a1_0 l1_1 k)
theorem laws_eqMatrix.d_eq (a0_0 : Int) (l0_1 : List Int) (a1_0 : Int) (l1_1 : List Int) : laws_eqMatrix.d a0_0 l0_1 a1_0 l1_1 = if a0_0 = a1_0 then ((laws_eqInt64S.d l0_1 l1_1).bind fun t835 => (if t835 = true then (some true) else (some false))) else (some false) := by
  refine IsLim.unique (laws_eqMatrix.lim _ _ _ _) ?_
  unfold laws_eqMatrix.f
  repeat' (first | exact IsLim.const _ | refine IsLim.ite ?_ ?_ | refine IsLim.bind ?_ (fun _ => ?_) | exact laws_eqInt64S.lim ..)
noncomputable def laws_markInt64S.l0d (x0 : List Int) (x1 : Int) (x5 : Int) : Option (Int × List Int) := lim (fun k => laws_markInt64S.l0 k x0 x1 x5)
theorem laws_markInt64S.l0lim (x0 : List Int) (x1 : Int) (x5 : Int) : IsLim (fun k => laws_markInt64S.l0 k x0 x1 x5) (laws_markInt64S.l0d x0 x1 x5) := lim_spec (fun k => (laws_markInt64S.mono_l k) x0 x1 x5)
theorem laws_markInt64S.l0d_eq (x0 : List Int) (x1 : Int) (x5 : Int) : laws_markInt64S.l0d x0 x1 x5 = if x5 < (x0.length : Int) then (if 0 ≤ x5 then (laws_markInt64S.l0d (x0.set (x5 : Int).toNat x1) (wrap64 (x1 + 1)) (wrap64 (x5 + 1))) else (none)) else (some (x1, x0)) := by
  refine IsLim.unique (laws_markInt64S.l0lim _ _ _) ?_
  refine IsLim.shift (by rfl) ?_
  simp only [laws_markInt64S.l0]
  repeat' (first | exact IsLim.const _ | refine IsLim.ite ?_ ?_ | refine IsLim.bind ?_ (fun _ => ?_) | exact laws_markInt64S.l0lim ..)
noncomputable def laws_markInt64S.d (l0 : List Int) (a1 : Int) : Option (Int × List Int) := lim (fun k => laws_markInt64S.f k l0 a1)
theorem laws_markInt64S.lim (l0 : List Int) (a1 : Int) : IsLim (fun k => laws_markInt64S.f k l0 a1) (laws_markInt64S.d l0 a1) := lim_spec (fun k => laws_markInt64S.mono l0 a1 k)
theorem laws_markInt64S.d_eq (l0 : List Int) (a1 : Int) : laws_markInt64S.d l0 a1 = laws_markInt64S.l0d l0 a1 0 := by
  refine IsLim.unique (laws_markInt64S.lim _ _) ?_
  unfold laws_markInt64S.f
  repeat' (first | exact IsLim.const _ | refine IsLim.ite ?_ ?_ | refine IsLim.bind ?_ (fun _ => ?_) | exact laws_markInt64S.l0lim ..)
noncomputable def laws_markMatrix.d (a0_0 : Int) (l0_1 : List Int) (a1 : Int) : Option (Int × List Int) := lim (fun k => laws_markMatrix.f k a0_0 l0_1 a1)
theorem laws_markMatrix.lim (a0_0 : Int) (l0_1 : List Int) (a1 : Int) : IsLim (fun k => laws_markMatrix.f k a0_0 l0_1 a1) (laws_markMatrix.d a0_0 l0_1 a1) := lim_spec (fun k => laws_markMatrix.mono a0_0 l0_1 a1 k)
theorem laws_markMatrix.d_eq (a0_0 : Int) (l0_1 : List Int) (a1 : Int) : laws_markMatrix.d a0_0 l0_1 a1 = (laws_markInt64S.d l0_1 a1).bind fun bt838 => (some (bt838.1, bt838.2)) := by
  refine IsLim.unique (laws_markMatrix.lim _ _ _) ?_
  unfold laws_markMatrix.f
  repeat' (first | exact IsLim.const _ | refine IsLim.ite ?_ ?_ | refine IsLim.bind ?_ (fun _ => ?_) | exact laws_markInt64S.lim ..)
noncomputable def laws_heldInt64S.l0d (x0 : List Int) (x1 : Int) (x5 : Int) : Option (Int) := lim (fun k => laws_heldInt64S.l0 k x0 x1 x5)
theorem laws_heldInt64S.l0lim (x0 : List Int) (x1 : Int) (x5 : Int) : IsLim (fun k => laws_heldInt64S.l0 k x0 x1 x5) (laws_heldInt64S.l0d x0 x1 x5) := lim_spec (fun k => (laws_heldInt64S.mono_l k) x0 x1 x5)
theorem laws_heldInt64S.l0d_eq (x0 : List Int) (x1 : Int) (x5 : Int) : laws_heldInt64S.l0d x0 x1 x5 = if x5 < (x0.length : Int) then (if 0 ≤ x5 then (if (rd x0 x5) = x1 then (laws_heldInt64S.l0d x0 (wrap64 (x1 + 1)) (wrap64 (x5 + 1))) else (some (-1))) else (none)) else (some x1) := by
  refine IsLim.unique (laws_heldInt64S.l0lim _ _ _) ?_
  refine IsLim.shift (by rfl) ?_
  simp only [laws_heldInt64S.l0]
  repeat' (first | exact IsLim.const _ | refine IsLim.ite ?_ ?_ | refine IsLim.bind ?_ (fun _ => ?_) | exact laws_heldInt64S.l0lim ..)
noncomputable def laws_heldInt64S.d (l0 : List Int) (a1 : Int) : Option (Int) := lim (fun k => laws_heldInt64S.f k l0 a1)
theorem laws_heldInt64S.lim (l0 : List Int) (a1 : Int) : IsLim (fun k => laws_heldInt64S.f k l0 a1) (laws_heldInt64S.d l0 a1) := lim_spec (fun k => laws_heldInt64S.mono l0 a1 k)
theorem laws_heldInt64S.d_eq (l0 : List Int) (a1 : Int) : laws_heldInt64S.d l0 a1 = laws_heldInt64S.l0d l0 a1 0 := by
  refine IsLim.unique (laws_heldInt64S.lim _ _) ?_
  unfold laws_heldInt64S.f
  repeat' (first | exact IsLim.const _ | refine IsLim.ite ?_ ?_ | refine IsLim.bind ?_ (fun _ => ?_) | exact laws_heldInt64S.l0lim ..)
noncomputable def laws_heldMatrix.d (a0_0 : Int) (l0_1 : List Int) (a1 : Int) : Option (Int) := lim (fun k => laws_heldMatrix.f k a0_0 l0_1 a1)
theorem laws_heldMatrix.lim (a0_0 : Int) (l0_1 : List Int) (a1 : Int) : IsLim (fun k => laws_heldMatrix.f k a0_0 l0_1 a1) (laws_heldMatrix.d a0_0 l0_1 a1) := lim_spec (fun k => laws_heldMatrix.mono a0_0 l0_1 a1 k)
theorem laws_heldMatrix.d_eq (a0_0 : Int) (l0_1 : List Int) (a1 : Int) : laws_heldMatrix.d a0_0 l0_1 a1 = (laws_heldInt64S.d l0_1 a1).bind fun t842 => (if t842 < 0 then (some (-1)) else (some t842)) := by
  refine IsLim.unique (laws_heldMatrix.lim _ _ _) ?_
  unfold laws_heldMatrix.f
  repeat' (first | exact IsLim.const _ | refine IsLim.ite ?_ ?_ | refine IsLim.bind ?_ (fun _ => ?_) | exact laws_heldInt64S.lim ..)
end Go.Proofs.Ythjfilmdobkmlaa.P
end
section
namespace Go.Proofs.Ythjfilmdobkmlaa.P
open Go.RowKit Go.Proofs.YthjfilmdobkmlaaW.PrintWords Go.Proofs.YthjfilmdobkmlaaW.PrintLast Go.Proofs.YthjfilmdobkmlaaW.PrintMore
set_option linter.unusedVariables false
set_option linter.unusedSimpArgs false
noncomputable def laws_FnExactSendThrough.j0d (x9 : Int) (x14 : Int) (x66 : Bool) (x844000 : Int) (x844001 : List Int) (x845000 : Int) (x845001 : List Int) (x846000 : Int) (x846001 : List Int) (x867000 : Int) (x867001 : List Int) (x872000 : Int) (x872001 : List Int) (x877000 : Int) (x877001 : List Int) (x882000 : Int) (x882001 : List Int) (x888000 : Int) (x888001 : List Int) : Option (Bool) := lim (fun k => laws_FnExactSendThrough.j0 k x9 x14 x66 x844000 x844001 x845000 x845001 x846000 x846001 x867000 x867001 x872000 x872001 x877000 x877001 x882000 x882001 x888000 x888001)
theorem laws_FnExactSendThrough.j0lim (x9 : Int) (x14 : Int) (x66 : Bool) (x844000 : Int) (x844001 : List Int) (x845000 : Int) (x845001 : List Int) (x846000 : Int) (x846001 : List Int) (x867000 : Int) (x867001 : List Int) (x872000 : Int) (x872001 : List Int) (x877000 : Int) (x877001 : List Int) (x882000 : Int) (x882001 : List Int) (x888000 : Int) (x888001 : List Int) : IsLim (fun k => laws_FnExactSendThrough.j0 k x9 x14 x66 x844000 x844001 x845000 x845001 x846000 x846001 x867000 x867001 x872000 x872001 x877000 x877001 x882000 x882001 x888000 x888001) (laws_FnExactSendThrough.j0d x9 x14 x66 x844000 x844001 x845000 x845001 x846000 x846001 x867000 x867001 x872000 x872001 x877000 x877001 x882000 x882001 x888000 x888001) := lim_spec (fun k => (laws_FnExactSendThrough.mono_l k).1 x9 x14 x66 x844000 x844001 x845000 x845001 x846000 x846001 x867000 x867001 x872000 x872001 x877000 x877001 x882000 x882001 x888000 x888001)
noncomputable def laws_FnExactSendThrough.j1d (x9 : Int) (x103 : Bool) (x844000 : Int) (x844001 : List Int) (x845000 : Int) (x845001 : List Int) (x846000 : Int) (x846001 : List Int) (x867000 : Int) (x867001 : List Int) (x888000 : Int) (x888001 : List Int) : Option (Bool) := lim (fun k => laws_FnExactSendThrough.j1 k x9 x103 x844000 x844001 x845000 x845001 x846000 x846001 x867000 x867001 x888000 x888001)
theorem laws_FnExactSendThrough.j1lim (x9 : Int) (x103 : Bool) (x844000 : Int) (x844001 : List Int) (x845000 : Int) (x845001 : List Int) (x846000 : Int) (x846001 : List Int) (x867000 : Int) (x867001 : List Int) (x888000 : Int) (x888001 : List Int) : IsLim (fun k => laws_FnExactSendThrough.j1 k x9 x103 x844000 x844001 x845000 x845001 x846000 x846001 x867000 x867001 x888000 x888001) (laws_FnExactSendThrough.j1d x9 x103 x844000 x844001 x845000 x845001 x846000 x846001 x867000 x867001 x888000 x888001) := lim_spec (fun k => (laws_FnExactSendThrough.mono_l k).2.1 x9 x103 x844000 x844001 x845000 x845001 x846000 x846001 x867000 x867001 x888000 x888001)
noncomputable def laws_FnExactSendThrough.j2d (x16 : Int) (x133 : Bool) (x888000 : Int) (x888001 : List Int) : Option (Bool) := lim (fun k => laws_FnExactSendThrough.j2 k x16 x133 x888000 x888001)
theorem laws_FnExactSendThrough.j2lim (x16 : Int) (x133 : Bool) (x888000 : Int) (x888001 : List Int) : IsLim (fun k => laws_FnExactSendThrough.j2 k x16 x133 x888000 x888001) (laws_FnExactSendThrough.j2d x16 x133 x888000 x888001) := lim_spec (fun k => (laws_FnExactSendThrough.mono_l k).2.2 x16 x133 x888000 x888001)
theorem laws_FnExactSendThrough.j0d_eq (x9 : Int) (x14 : Int) (x66 : Bool) (x844000 : Int) (x844001 : List Int) (x845000 : Int) (x845001 : List Int) (x846000 : Int) (x846001 : List Int) (x867000 : Int) (x867001 : List Int) (x872000 : Int) (x872001 : List Int) (x877000 : Int) (x877001 : List Int) (x882000 : Int) (x882001 : List Int) (x888000 : Int) (x888001 : List Int) : laws_FnExactSendThrough.j0d x9 x14 x66 x844000 x844001 x845000 x845001 x846000 x846001 x867000 x867001 x872000 x872001 x877000 x877001 x882000 x882001 x888000 x888001 = if x66 = true then (some false) else ((laws_toMatrix.d x844000 x844001).bind fun bt889 => ((laws_eqMatrix.d x872000 x872001 bt889.1 bt889.2).bind fun t893 => (if t893 = true then ((laws_toMatrix.d x845000 x845001).bind fun bt894 => ((laws_eqMatrix.d x877000 x877001 bt894.1 bt894.2).bind fun t898 => (if t898 = true then ((laws_toMatrix.d x846000 x846001).bind fun bt899 => ((laws_eqMatrix.d x882000 x882001 bt899.1 bt899.2).bind fun t903 => (if t903 = true then ((laws_markMatrix.d x872000 x872001 1).bind fun bt904 => ((laws_markMatrix.d x877000 x877001 bt904.1).bind fun bt906 => ((laws_markMatrix.d x882000 x882001 bt906.1).bind fun bt908 => (if bt908.1 < 0 then (laws_FnExactSendThrough.j1d x9 true x844000 x844001 x845000 x845001 x846000 x846001 x867000 x867001 x888000 x888001) else ((laws_eqMatrix.d x888000 x888001 x867000 x867001).bind fun t910 => (if t910 = true then (laws_FnExactSendThrough.j1d x9 (x14 != x9) x844000 x844001 x845000 x845001 x846000 x846001 x867000 x867001 x888000 x888001) else (laws_FnExactSendThrough.j1d x9 true x844000 x844001 x845000 x845001 x846000 x846001 x867000 x867001 x888000 x888001))))))) else (some false)))) else (some false)))) else (some false)))) := by
  refine IsLim.unique (laws_FnExactSendThrough.j0lim _ _ _ _ _ _ _ _ _ _ _ _ _ _ _ _ _ _ _) ?_
  refine IsLim.shift (by rfl) ?_
  simp only [laws_FnExactSendThrough.j0]
  repeat' (first | exact IsLim.const _ | refine IsLim.ite ?_ ?_ | refine IsLim.bind ?_ (fun _ => ?_) | exact laws_toMatrix.lim .. | exact laws_eqMatrix.lim .. | exact laws_markMatrix.lim .. | exact laws_FnExactSendThrough.j1lim ..)
theorem laws_FnExactSendThrough.j1d_eq (x9 : Int) (x103 : Bool) (x844000 : Int) (x844001 : List Int) (x845000 : Int) (x845001 : List Int) (x846000 : Int) (x846001 : List Int) (x867000 : Int) (x867001 : List Int) (x888000 : Int) (x888001 : List Int) : laws_FnExactSendThrough.j1d x9 x103 x844000 x844001 x845000 x845001 x846000 x846001 x867000 x867001 x888000 x888001 = if x103 = true then (some false) else ((laws_markMatrix.d x888000 x888001 1).bind fun bt911 => ((laws_heldMatrix.d x888000 bt911.2 1).bind fun t913 => (if t913 < 0 then (some false) else (if t913 = bt911.1 then ((laws_toMatrix.d x844000 x844001).bind fun bt914 => ((laws_toMatrix.d x845000 x845001).bind fun bt918 => ((laws_toMatrix.d x846000 x846001).bind fun bt922 => ((impl_SendThrough.d bt914.1 bt914.2 bt918.1 bt918.2 bt922.1 bt922.2).bind fun bt926 => ((laws_eqMatrix.d bt926.1 bt926.2.1 x867000 x867001).bind fun t932 => (if t932 = true then (laws_FnExactSendThrough.j2d bt911.1 (bt926.2.2 != x9) x888000 bt911.2) else (laws_FnExactSendThrough.j2d bt911.1 true x888000 bt911.2))))))) else (some false))))) := by
  refine IsLim.unique (laws_FnExactSendThrough.j1lim _ _ _ _ _ _ _ _ _ _ _ _) ?_
  refine IsLim.shift (by rfl) ?_
  simp only [laws_FnExactSendThrough.j1]
  repeat' (first | exact IsLim.const _ | refine IsLim.ite ?_ ?_ | refine IsLim.bind ?_ (fun _ => ?_) | exact laws_markMatrix.lim .. | exact laws_heldMatrix.lim .. | exact laws_toMatrix.lim .. | exact impl_SendThrough.lim .. | exact laws_eqMatrix.lim .. | exact laws_FnExactSendThrough.j2lim ..)
theorem laws_FnExactSendThrough.j2d_eq (x16 : Int) (x133 : Bool) (x888000 : Int) (x888001 : List Int) : laws_FnExactSendThrough.j2d x16 x133 x888000 x888001 = if x133 = true then (some false) else ((laws_heldMatrix.d x888000 x888001 1).bind fun t933 => (if t933 < 0 then (some false) else (if t933 = x16 then (some true) else (some false)))) := by
  refine IsLim.unique (laws_FnExactSendThrough.j2lim _ _ _ _) ?_
  refine IsLim.shift (by rfl) ?_
  simp only [laws_FnExactSendThrough.j2]
  repeat' (first | exact IsLim.const _ | refine IsLim.ite ?_ ?_ | refine IsLim.bind ?_ (fun _ => ?_) | exact laws_heldMatrix.lim ..)
noncomputable def laws_FnExactSendThrough.d (a0_0 : Int) (l0_1 : List Int) (a1_0 : Int) (l1_1 : List Int) (a2_0 : Int) (l2_1 : List Int) : Option (Bool) := lim (fun k => laws_FnExactSendThrough.f k a0_0 l0_1 a1_0 l1_1 a2_0 l2_1)
theorem laws_FnExactSendThrough.lim (a0_0 : Int) (l0_1 : List Int) (a1_0 : Int) (l1_1 : List Int) (a2_0 : Int) (l2_1 : List Int) : IsLim (fun k => laws_FnExactSendThrough.f k a0_0 l0_1 a1_0 l1_1 a2_0 l2_1) (laws_FnExactSendThrough.d a0_0 l0_1 a1_0 l1_1 a2_0 l2_1) := lim_spec (fun k => laws_FnExactSendThrough.mono a0_0 l0_1 a1_0 l1_1 a2_0 l2_1 k)
theorem laws_FnExactSendThrough.d_eq (a0_0 : Int) (l0_1 : List Int) (a1_0 : Int) (l1_1 : List Int) (a2_0 : Int) (l2_1 : List Int) : laws_FnExactSendThrough.d a0_0 l0_1 a1_0 l1_1 a2_0 l2_1 = (laws_szMatrix.f a0_0 l0_1 1048576).bind fun t846 => (if t846 < 0 then (some true) else ((laws_szMatrix.f a1_0 l1_1 t846).bind fun t847 => (if t847 < 0 then (some true) else ((laws_szMatrix.f a2_0 l2_1 t847).bind fun t848 => (if t848 < 0 then (some true) else ((laws_toMatrix.d a0_0 l0_1).bind fun bt849 => ((laws_toMatrix.d a1_0 l1_1).bind fun bt853 => ((laws_toMatrix.d a2_0 l2_1).bind fun bt857 => ((spec_SendThrough.d bt849.1 bt849.2 bt853.1 bt853.2 bt857.1 bt857.2).bind fun bt861 => ((laws_toMatrix.d a0_0 l0_1).bind fun bt867 => ((laws_toMatrix.d a1_0 l1_1).bind fun bt872 => ((laws_toMatrix.d a2_0 l2_1).bind fun bt877 => ((impl_SendThrough.d bt867.1 bt867.2 bt872.1 bt872.2 bt877.1 bt877.2).bind fun bt882 => ((laws_eqMatrix.d bt882.1 bt882.2.1 bt861.1 bt861.2.1).bind fun t888 => (if t888 = true then (laws_FnExactSendThrough.j0d bt861.2.2 bt882.2.2 (bt882.2.2 != bt861.2.2) a0_0 l0_1 a1_0 l1_1 a2_0 l2_1 bt861.1 bt861.2.1 bt867.1 bt867.2 bt872.1 bt872.2 bt877.1 bt877.2 bt882.1 bt882.2.1) else (laws_FnExactSendThrough.j0d bt861.2.2 bt882.2.2 true a0_0 l0_1 a1_0 l1_1 a2_0 l2_1 bt861.1 bt861.2.1 bt867.1 bt867.2 bt872.1 bt872.2 bt877.1 bt877.2 bt882.1 bt882.2.1)))))))))))))))) := by
  refine IsLim.unique (laws_FnExactSendThrough.lim _ _ _ _ _ _) ?_
  unfold laws_FnExactSendThrough.f
  repeat' (first | exact IsLim.const _ | refine IsLim.ite ?_ ?_ | refine IsLim.bind ?_ (fun _ => ?_) | exact laws_toMatrix.lim .. | exact spec_SendThrough.lim .. | exact impl_SendThrough.lim .. | exact laws_eqMatrix.lim .. | exact laws_FnExactSendThrough.j0lim ..)
end Go.Proofs.Ythjfilmdobkmlaa.P
end
section
namespace Go.Proofs.Ythjfilmdobkmlaa.P
open Go.RowKit Go.Proofs.YthjfilmdobkmlaaW.PrintWords Go.Proofs.YthjfilmdobkmlaaW.PrintLast Go.Proofs.YthjfilmdobkmlaaW.PrintMore
set_option linter.unusedVariables false
set_option linter.unusedSimpArgs false
theorem wr {x : Int} (h0 : -9223372036854775808 ≤ x) (h1 : x < 9223372036854775808) : wrap64 x = x := by
  unfold wrap64; omega
theorem wrS {i n : Nat} (h : i < n) (hn : n ≤ 17592186044416) : wrap64 ((i : Int) + 1) = ((i + 1 : Nat) : Int) := by rw [wr (by omega) (by omega)]; omega
theorem u64_id {x : Int} (h0 : 0 ≤ x) (h1 : x < 9223372036854775808) : IntKind.u64.wrap x = x := by rw [IntKind.wrap_u64]; omega
theorem down {Q : Nat → Prop} {n : Nat} (h0 : Q n) (hs : ∀ i, i < n → Q (i + 1) → Q i) : ∀ i, i ≤ n → Q i := by
  intro i hi
  obtain ⟨d, hd⟩ : ∃ d, d = n - i := ⟨_, rfl⟩
  induction d generalizing i with
  | zero => have : i = n := by omega
            exact this ▸ h0
  | succ d ih => exact hs i (by omega) (ih (i + 1) (by omega) (by omega))
theorem rd_get {l : List Int} {i : Nat} (h : i < l.length) : rd l (i : Int) = l[i] := rd_at l i h
theorem bind_some' {α β : Type} (a : α) (f : α → Option β) : (some a).bind f = f a := rfl
theorem bind_ok {α β : Type} {x : Option α} {f : α → Option β} {a : α} {b : β} (h : x = some a) (h' : f a = some b) : x.bind f = some b := by rw [h]; exact h'
theorem ite_t {α : Type} {c : Prop} [Decidable c] {a b : Option α} {v : α} (h : c) (h' : a = some v) : (if c then a else b) = some v := by rw [if_pos h]; exact h'
theorem ite_f {α : Type} {c : Prop} [Decidable c] {a b : Option α} {v : α} (h : ¬ c) (h' : b = some v) : (if c then a else b) = some v := by rw [if_neg h]; exact h'
theorem some_bind_ok {α β : Type} {f : α → Option β} {a : α} {b : β} (h' : f a = some b) : (some a).bind f = some b := h'
theorem bind_assoc_ok {α β γ : Type} {x : Option α} {f : α → Option β} {g : β → Option γ} {b : γ} (h : (x.bind fun y => (f y).bind g) = some b) : (x.bind f).bind g = some b := by rw [Option.bind_assoc]; exact h
theorem ite_bind_t {α β : Type} {c : Prop} [Decidable c] {x y : Option α} {g : α → Option β} {b : β} (h : c) (h' : x.bind g = some b) : (if c then x else y).bind g = some b := by rw [if_pos h]; exact h'
theorem ite_bind_f {α β : Type} {c : Prop} [Decidable c] {x y : Option α} {g : α → Option β} {b : β} (h : ¬ c) (h' : y.bind g = some b) : (if c then x else y).bind g = some b := by rw [if_neg h]; exact h'
/-- a, a + 1, .. -/
def iota (a : Int) : Nat → List Int
  | 0 => []
  | n + 1 => a :: iota (a + 1) n
theorem iota_length (a : Int) (n : Nat) : (iota a n).length = n := by
  induction n generalizing a with
  | zero => rfl
  | succ n ih => simp [iota, ih]
theorem iota_get (a : Int) (n : Nat) : ∀ (i : Nat) (h : i < (iota a n).length), (iota a n)[i] = a + i := by
  induction n generalizing a with
  | zero => intro i h; simp [iota] at h
  | succ n ih =>
    intro i h
    cases i with
    | zero => simp [iota]
    | succ i => simp only [iota, List.getElem_cons_succ]; rw [ih]; omega
theorem iota_snoc (a : Int) (n : Nat) : iota a (n + 1) = iota a n ++ [a + n] := by
  induction n generalizing a with
  | zero => simp [iota]
  | succ n ih => rw [iota, ih, iota]; simp; omega
/-- the first place where `q` holds, by a walk upward -/
theorem index_gen {F : Int → Option Int} {n : Nat} {q : Nat → Bool} (hend : F (n : Int) = some (-1))
    (heq : ∀ i : Nat, i < n → F (i : Int) = if q i = true then some (i : Int) else F ((i + 1 : Nat) : Int)) :
    ∃ v, F 0 = some v ∧ (decide (v ≥ 0) = !decide (∀ i, i < n → q i = false)) ∧ (0 ≤ v → v.toNat < n ∧ q v.toNat = true ∧ ∀ j, j < v.toNat → q j = false) := by
  have key : ∀ i, i ≤ n → ∃ v, F (i : Int) = some v ∧ (v ≥ 0 ↔ ¬ ∀ j, i ≤ j → j < n → q j = false) ∧ (0 ≤ v → i ≤ v.toNat ∧ v.toNat < n ∧ q v.toNat = true ∧ ∀ j, i ≤ j → j < v.toNat → q j = false) := by
    apply down
    · exact ⟨-1, hend, ⟨fun h => absurd h (by decide), fun h => absurd (fun j _ _ => by omega) h⟩, fun h => absurd h (by decide)⟩
    · intro i hi ⟨v, e, c, d⟩
      rw [heq i hi]
      by_cases hq : q i = true
      · rw [if_pos hq]
        exact ⟨i, rfl, ⟨fun _ h => (by rw [h i (by omega) hi] at hq; cases hq), fun _ => by omega⟩, fun _ => ⟨by simp, by simpa using hi, by simpa using hq, fun j h1 h2 => by simp at h2; omega⟩⟩
      · rw [if_neg hq]
        have hq' : q i = false := Bool.eq_false_iff.mpr hq
        refine ⟨v, e, c.trans ⟨fun h h' => h fun j a b => h' j (by omega) b, fun h h' => h fun j a b => ?_⟩, fun h => ?_⟩
        · rcases Nat.lt_or_ge i j with z | z
          · exact h' j z b
          · have : j = i := by omega
            rw [this, hq']
        · obtain ⟨a1, a2, a3, a4⟩ := d h
          refine ⟨by omega, a2, a3, fun j h1 h2 => ?_⟩
          rcases Nat.lt_or_ge i j with z | z
          · exact a4 j z h2
          · have : j = i := by omega
            rw [this, hq']
  obtain ⟨v, e, c, d⟩ := key 0 (by omega)
  refine ⟨v, e, ?_, fun h => ⟨(d h).2.1, (d h).2.2.1, fun j hj => (d h).2.2.2 j (by omega) hj⟩⟩
  rw [← decide_not]
  apply decide_eq_decide.mpr
  exact c.trans ⟨fun h h' => h fun j _ b => h' j b, fun h h' => h fun j b => h' j (by omega) b⟩
theorem all_gen {F : Int → Option Bool} {n : Nat} {q : Nat → Bool} (hend : F (n : Int) = some true)
    (heq : ∀ i : Nat, i < n → F (i : Int) = if q i = true then F ((i + 1 : Nat) : Int) else some false) :
    F 0 = some (decide (∀ i, i < n → q i = true)) := by
  have key : ∀ i, i ≤ n → ∃ b, F (i : Int) = some b ∧ (b = true ↔ ∀ j, i ≤ j → j < n → q j = true) := by
    apply down
    · exact ⟨true, hend, ⟨fun _ j a b => by omega, fun _ => rfl⟩⟩
    · intro i hi ⟨b, e, c⟩
      rw [heq i hi, e]
      by_cases hq : q i = true
      · rw [if_pos hq]
        refine ⟨b, rfl, c.trans ⟨fun h j a b => ?_, fun h j a b => h j (by omega) b⟩⟩
        rcases Nat.lt_or_ge i j with z | z
        · exact h j z b
        · have : j = i := by omega
          rw [this, hq]
      · rw [if_neg hq]
        exact ⟨false, rfl, ⟨(fun h => absurd h (by decide)), fun h => absurd (h i (by omega) hi) hq⟩⟩
  obtain ⟨b, e, c⟩ := key 0 (by omega)
  have e' : F 0 = some b := e
  rw [e']
  congr 1
  rw [Bool.eq_iff_iff, decide_eq_true_iff]
  exact c.trans ⟨fun h j b => h j (by omega) b, fun h j _ b => h j b⟩
theorem all_get {l : List Int} {q : Int → Bool} : decide (∀ i, i < l.length → q (rd l (i : Int)) = true) = l.all q := by
  rw [Bool.eq_iff_iff, decide_eq_true_iff, List.all_eq_true]
  constructor
  · intro h x hx
    obtain ⟨i, hi, e⟩ := List.getElem_of_mem hx
    have := h i hi
    rwa [rd_get hi, e] at this
  · intro h i hi
    rw [rd_get hi]; exact h _ (List.getElem_mem hi)
end Go.Proofs.Ythjfilmdobkmlaa.P
end
section
namespace Go.Proofs.Ythjfilmdobkmlaa.P
open Go.RowKit Go.Proofs.YthjfilmdobkmlaaW.PrintWords Go.Proofs.YthjfilmdobkmlaaW.PrintLast Go.Proofs.YthjfilmdobkmlaaW.PrintMore
set_option linter.unusedVariables false
set_option linter.unusedSimpArgs false
theorem toInt64S_v {l : List Int} (h : l.length ≤ 17592186044416) : laws_toInt64S.d l = some l := by
  have key : ∀ i, i ≤ l.length → laws_toInt64S.l0d l (l.take i ++ List.replicate (l.length - i) 0) (i : Int) = some l := by
    apply down
    · rw [laws_toInt64S.l0d_eq, if_neg (by omega)]; simp
    · intro i hi ih
      rw [laws_toInt64S.l0d_eq, if_pos (by omega), if_pos (by omega), if_pos (by simp; omega), wrS hi h, rd_get hi]
      rw [← ih]
      congr 1
      rw [List.take_succ_eq_append_getElem hi, Int.toNat_natCast]
      apply List.ext_getElem
      · simp; omega
      · intro j h1 h2
        simp only [List.getElem_set, List.getElem_append, List.length_take, List.length_append, List.getElem_take, List.getElem_replicate, List.length_cons, List.length_nil]
        simp only [List.length_set, List.length_append, List.length_take, List.length_replicate] at h1
        by_cases c : i = j
        · subst c; rw [if_pos rfl, dif_pos (by omega), dif_neg (by omega)]; simp
        · rw [if_neg c]
          by_cases c2 : j < i
          · rw [dif_pos (by omega), dif_pos (by omega), dif_pos (by omega)]
          · rw [dif_neg (by omega), dif_neg (by omega)]
  rw [laws_toInt64S.d_eq, if_pos (by omega), if_pos (by omega)]
  have := key 0 (by omega)
  simpa using this
theorem eqInt64S_v {a b : List Int} (h : a.length ≤ 17592186044416) : laws_eqInt64S.d a b = some (decide (a = b)) := by
  rw [laws_eqInt64S.d_eq]
  by_cases hl : a.length = b.length
  · rw [if_pos (by omega)]
    have key : ∀ i, i ≤ a.length → laws_eqInt64S.l0d a b (i : Int) = some (decide (a.drop i = b.drop i)) := by
      apply down
      · rw [laws_eqInt64S.l0d_eq, if_neg (by omega)]; simp [hl]
      · intro i hi ih
        have hb : i < b.length := by omega
        rw [laws_eqInt64S.l0d_eq, if_pos (by omega), if_pos (by omega), if_pos (by omega), wrS hi h, rd_get hi, rd_get hb, ih]
        rw [List.drop_eq_getElem_cons hi, List.drop_eq_getElem_cons hb]
        by_cases c : a[i] = b[i]
        · rw [if_pos c]; simp only [List.cons.injEq, c, true_and]
        · rw [if_neg c]; simp only [List.cons.injEq, c, false_and, decide_false]
    have := key 0 (by omega)
    simpa using this
  · rw [if_neg (by omega)]
    have : a ≠ b := fun e => hl (by rw [e])
    simp [this]
theorem eqInt64S_self {a : List Int} (h : a.length ≤ 17592186044416) : laws_eqInt64S.d a a = some true := by rw [eqInt64S_v h]; simp
end Go.Proofs.Ythjfilmdobkmlaa.P
end
section
namespace Go.Proofs.Ythjfilmdobkmlaa.P
open Go.RowKit Go.Proofs.YthjfilmdobkmlaaW.PrintWords Go.Proofs.YthjfilmdobkmlaaW.PrintLast Go.Proofs.YthjfilmdobkmlaaW.PrintMore
set_option linter.unusedVariables false
set_option linter.unusedSimpArgs false
theorem szInt64S_in {l : List Int} {n : Int} (h : (l.length : Int) ≤ n) (hn : n ≤ 4611686018427387904) : laws_szInt64S.f l n = some (n - l.length) := by
  unfold laws_szInt64S.f
  rw [wr (by omega) (by omega), if_neg (by omega)]
theorem szInt64S_out {l : List Int} {n : Int} (h : n < (l.length : Int)) (h0 : 0 ≤ n) (hl : l.length ≤ maxLen) : laws_szInt64S.f l n = some (-1) := by
  unfold laws_szInt64S.f
  unfold maxLen at hl
  rw [wr (by omega) (by omega), if_pos (by omega)]
end Go.Proofs.Ythjfilmdobkmlaa.P
end
section
namespace Go.Proofs.Ythjfilmdobkmlaa.P
open Go.RowKit Go.Proofs.YthjfilmdobkmlaaW.PrintWords Go.Proofs.YthjfilmdobkmlaaW.PrintLast Go.Proofs.YthjfilmdobkmlaaW.PrintMore
set_option linter.unusedVariables false
set_option linter.unusedSimpArgs false
theorem markInt64S_v {l : List Int} {a : Int} (h : l.length ≤ 17592186044416) (h0 : 0 ≤ a) (h1 : a ≤ 4611686018427387904) :
    laws_markInt64S.d l a = some (a + l.length, iota a l.length) := by
  have key : ∀ i, i ≤ l.length → laws_markInt64S.l0d (iota a i ++ l.drop i) (a + i) (i : Int) = some (a + l.length, iota a l.length) := by
    apply down
    · rw [laws_markInt64S.l0d_eq, if_neg (by simp [iota_length])]; simp
    · intro i hi ih
      rw [laws_markInt64S.l0d_eq, if_pos (by simp [iota_length]; omega), if_pos (by omega), wrS hi h, wr (x := a + i + 1) (by omega) (by omega), ← ih]
      congr 1
      · rw [iota_snoc, Int.toNat_natCast, List.set_append]
        simp only [iota_length, Nat.lt_irrefl, if_false, Nat.sub_self]
        rw [List.drop_eq_getElem_cons hi]
        simp only [List.set_cons_zero, List.append_assoc, List.singleton_append]
      · omega
  rw [laws_markInt64S.d_eq]
  have := key 0 (by omega)
  simpa [iota] using this
theorem heldInt64S_v {n : Nat} {a : Int} (h : n ≤ 17592186044416) (h0 : 0 ≤ a) (h1 : a ≤ 4611686018427387904) :
    laws_heldInt64S.d (iota a n) a = some (a + n) := by
  have key : ∀ i, i ≤ n → laws_heldInt64S.l0d (iota a n) (a + i) (i : Int) = some (a + n) := by
    apply down
    · rw [laws_heldInt64S.l0d_eq, if_neg (by simp [iota_length])]
    · intro i hi ih
      have hi' : i < (iota a n).length := by rw [iota_length]; exact hi
      rw [laws_heldInt64S.l0d_eq, if_pos (by omega), if_pos (by omega), rd_get hi', iota_get, if_pos rfl, wrS hi h, wr (x := a + i + 1) (by omega) (by omega), ← ih]
      congr 1; omega
  rw [laws_heldInt64S.d_eq]
  have := key 0 (by omega)
  simpa using this
end Go.Proofs.Ythjfilmdobkmlaa.P
end
section
namespace Go.Proofs.Ythjfilmdobkmlaa.P
open Go.RowKit Go.Proofs.YthjfilmdobkmlaaW.PrintWords Go.Proofs.YthjfilmdobkmlaaW.PrintLast Go.Proofs.YthjfilmdobkmlaaW.PrintMore
set_option linter.unusedVariables false
set_option linter.unusedSimpArgs false
theorem wrap_nat {n : Nat} (h : n < 9223372036854775808) : IntKind.i64.wrap (n : Int) = (n : Int) := by rw [IntKind.wrap_i64]; omega
theorem bits_nat {a : Nat} (ha : a < 9223372036854775808) : (BitVec.ofInt IntKind.i64.bits (a : Int)).toNat = a := by
  show (BitVec.ofInt 64 (a : Int)).toNat = a
  rw [BitVec.ofInt_natCast, BitVec.toNat_ofNat]
  exact Nat.mod_eq_of_lt (by omega)
theorem bxor {a b : Nat} (ha : a < 9223372036854775808) (hb : b < 9223372036854775808) : Go.bits .xor .i64 (a : Int) (b : Int) = ((a ^^^ b : Nat) : Int) := by
  show IntKind.i64.wrap ((BitVec.ofInt IntKind.i64.bits (a : Int) ^^^ BitVec.ofInt IntKind.i64.bits (b : Int)).toNat : Int) = _
  rw [BitVec.toNat_xor, bits_nat ha, bits_nat hb]
  exact wrap_nat (Nat.xor_lt_two_pow (n := 63) (by omega) (by omega))
theorem band {a b : Nat} (ha : a < 9223372036854775808) (hb : b < 9223372036854775808) : Go.bits .and .i64 (a : Int) (b : Int) = ((a &&& b : Nat) : Int) := by
  show IntKind.i64.wrap ((BitVec.ofInt IntKind.i64.bits (a : Int) &&& BitVec.ofInt IntKind.i64.bits (b : Int)).toNat : Int) = _
  rw [BitVec.toNat_and, bits_nat ha, bits_nat hb]
  exact wrap_nat (Nat.and_lt_two_pow (n := 63) a (by omega))
theorem shr_nat {a c : Nat} (hc : c ≤ 64) : shr .i64 (a : Int) (c : Int) = ((a >>> c : Nat) : Int) := by
  show (a : Int) / 2 ^ min (c : Int).toNat 64 = _
  rw [Int.toNat_natCast, Nat.min_eq_left hc, Nat.shiftRight_eq_div_pow]
  simp
theorem shl_nat {a c : Nat} (hc : c ≤ 64) (h : a * 2 ^ c < 9223372036854775808) : shl .i64 (a : Int) (c : Int) = ((a * 2 ^ c : Nat) : Int) := by
  show IntKind.i64.wrap ((a : Int) * 2 ^ min (c : Int).toNat 64) = _
  rw [Int.toNat_natCast, Nat.min_eq_left hc, ← wrap_nat h]
  simp
theorem bit_test {a c : Nat} (ha : a < 9223372036854775808) (hc : c ≤ 64) : Go.bits .and .i64 (shr .i64 (a : Int) (c : Int)) 1 = if a.testBit c = true then 1 else 0 := by
  rw [shr_nat hc]
  have h1 : a >>> c < 9223372036854775808 := by
    rw [Nat.shiftRight_eq_div_pow]
    exact Nat.lt_of_le_of_lt (Nat.div_le_self _ _) ha
  have := band (a := a >>> c) (b := 1) h1 (by omega)
  rw [show ((1 : Nat) : Int) = 1 from rfl] at this
  rw [this, Nat.testBit, Nat.and_comm 1]
  rw [Nat.and_one_is_mod]
  rcases Nat.mod_two_eq_zero_or_one (a >>> c) with e | e <;> rw [e] <;> simp
theorem small62 {x n : Nat} (hn : n ≤ 63) (h : x < 2 ^ n) : x < 9223372036854775808 := Nat.lt_of_lt_of_le h (Nat.le_trans (Nat.pow_le_pow_right (by omega) hn) (by decide))
/-- rows as the program holds them -/
def up (l : List Nat) : List Int := l.map fun (x : Nat) => (x : Int)
theorem up_length (l : List Nat) : (up l).length = l.length := by simp [up]
theorem up_get {l : List Nat} {i : Nat} (h : i < l.length) : rd (up l) (i : Int) = (l[i] : Int) := by
  rw [rd_get (by rw [up_length]; exact h)]; simp [up]
theorem up_set {l : List Nat} {i x : Nat} : (up l).set i (x : Int) = up (l.set i x) := by simp [up, List.map_set]
theorem up_append (l l' : List Nat) : up (l ++ l') = up l ++ up l' := by simp [up]
theorem up_drop (l : List Nat) (i : Nat) : (up l).drop i = up (l.drop i) := by simp [up, List.map_drop]
theorem up_take (l : List Nat) (i : Nat) : (up l).take i = up (l.take i) := by simp [up, List.map_take]
theorem up_of {l : List Int} (h : ∀ x ∈ l, 0 ≤ x) : up (l.map Int.toNat) = l := by
  unfold up
  rw [List.map_map]
  conv => rhs; rw [← List.map_id l]
  apply List.map_congr_left
  intro x hx
  show ((x.toNat : Nat) : Int) = x
  have := h x hx
  omega
theorem up_inj {a b : List Nat} (h : up a = up b) : a = b := by
  unfold up at h
  exact (List.map_inj_right (f := fun (x : Nat) => (x : Int)) (fun x y e => by have e : (x : Int) = (y : Int) := e; omega)).mp h
/-- a walk upward that writes every place of a list -/
theorem map_gen {α R : Type} {F : List α → Int → R} {n : Nat} {g : Nat → α → α} {r : R} (Q : Nat → α → Prop) (l : List α) (hn : l.length = n)
    (hq : ∀ i, (h : i < l.length) → Q i l[i]) (hg : ∀ i x, Q i x → Q i (g i x))
    (heq : ∀ i : Nat, ∀ a : List α, (hi : i < a.length) → a.length = n → (∀ j, (h : j < a.length) → Q j a[j]) → (∀ j, i ≤ j → (h : j < a.length) → (h' : j < l.length) → a[j] = l[j]) →
      (∀ j, j < i → (h : j < a.length) → (h' : j < l.length) → a[j] = g j l[j]) → F a (i : Int) = F (a.set i (g i (a[i]'hi))) ((i + 1 : Nat) : Int))
    (hend : F (l.mapIdx g) (n : Int) = r) : F l 0 = r := by
  have key : ∀ i, i ≤ n → F (l.mapIdx fun j x => if j < i then g j x else x) (i : Int) = r := by
    apply down
    · have : (l.mapIdx fun j x => if j < n then g j x else x) = l.mapIdx g := by
        apply List.ext_getElem
        · simp
        · intro j h1 h2
          simp only [List.getElem_mapIdx]
          rw [if_pos (by simp at h1; omega)]
      rw [this]; exact hend
    · intro i hi e
      have hil : i < l.length := by omega
      rw [heq i _ (by simp; omega) (by simp; omega) ?_ ?_ ?_, ← e]
      · congr 1
        apply List.ext_getElem
        · simp
        · intro j h1 h2
          simp only [List.getElem_set, List.getElem_mapIdx]
          by_cases c : i = j
          · subst c; simp
          · rw [if_neg c]
            by_cases c2 : j < i
            · simp [c2, show j < i + 1 by omega]
            · simp [c2, show ¬ j < i + 1 by omega]
      · intro j h
        simp only [List.length_mapIdx] at h
        simp only [List.getElem_mapIdx]
        split
        · exact hg j _ (hq j h)
        · exact hq j h
      · intro j hij h h'
        simp only [List.getElem_mapIdx]
        rw [if_neg (by omega)]
      · intro j hij h h'
        simp only [List.getElem_mapIdx]
        rw [if_pos hij]
  have := key 0 (by omega)
  have e : (l.mapIdx fun j x => if j < 0 then g j x else x) = l := by
    apply List.ext_getElem
    · simp
    · intro j h1 h2; simp
  rw [e] at this
  exact this
theorem mapIdx_const {α : Type} (g : α → α) (l : List α) : (l.mapIdx fun _ x => g x) = l.map g := by
  apply List.ext_getElem
  · simp
  · intro j h1 h2; simp
end Go.Proofs.Ythjfilmdobkmlaa.P
end
section
namespace Go.Proofs.Ythjfilmdobkmlaa.P
set_option linter.unusedVariables false
set_option linter.unusedSimpArgs false
/-- a sum of some of the rows -/
inductive Sp (R : List Nat) : Nat → Prop
  | zero : Sp R 0
  | add {r v : Nat} : r ∈ R → Sp R v → Sp R (v ^^^ r)
theorem Sp.mem {R : List Nat} {r : Nat} (h : r ∈ R) : Sp R r := by
  have := Sp.add h Sp.zero
  rwa [Nat.zero_xor] at this
theorem Sp.xor {R : List Nat} {u v : Nat} (hu : Sp R u) (hv : Sp R v) : Sp R (u ^^^ v) := by
  induction hv with
  | zero => rwa [Nat.xor_zero]
  | add h _ ih => rw [← Nat.xor_assoc]; exact Sp.add h ih
theorem Sp.sub {R R' : List Nat} (h : ∀ r ∈ R, Sp R' r) {v : Nat} (hv : Sp R v) : Sp R' v := by
  induction hv with
  | zero => exact Sp.zero
  | add hr _ ih => exact ih.xor (h _ hr)
theorem Sp.mono {R R' : List Nat} (h : ∀ r ∈ R, r ∈ R') {v : Nat} (hv : Sp R v) : Sp R' v := hv.sub fun r hr => Sp.mem (h r hr)
theorem Sp.nil {v : Nat} (h : Sp [] v) : v = 0 := by
  cases h with
  | zero => rfl
  | add h _ => cases h
theorem Sp.cons {r : Nat} {R : List Nat} {v : Nat} (h : Sp (r :: R) v) : Sp R v ∨ Sp R (v ^^^ r) := by
  induction h with
  | zero => exact .inl .zero
  | @add s v hs _ ih =>
    rcases List.mem_cons.mp hs with rfl | hs
    · rcases ih with ih | ih
      · right; rw [Nat.xor_assoc, Nat.xor_self, Nat.xor_zero]; exact ih
      · left; exact ih
    · rcases ih with ih | ih
      · left; exact ih.add hs
      · right; rw [Nat.xor_assoc, Nat.xor_comm s r, ← Nat.xor_assoc]; exact ih.add hs
theorem Sp.bit {R : List Nat} {b : Nat} (h : ∀ r ∈ R, r.testBit b = false) {v : Nat} (hv : Sp R v) : v.testBit b = false := by
  induction hv with
  | zero => exact Nat.zero_testBit b
  | add hr _ ih => rw [Nat.testBit_xor, ih, h _ hr]; rfl
/-- reduced rows R with their leading places C, growing -/
def RED : List Nat → List Nat → Prop
  | [], [] => True
  | r :: R, c :: C => r.testBit c = true ∧ (∀ b, b < c → r.testBit b = false) ∧ (∀ d ∈ C, c < d ∧ r.testBit d = false) ∧ RED R C
  | _, _ => False
theorem RED.low {R C : List Nat} (h : RED R C) {b : Nat} (hb : ∀ d ∈ C, b < d) : ∀ r ∈ R, r.testBit b = false := by
  induction R generalizing C with
  | nil => intro r hr; cases hr
  | cons r R ih =>
    cases C with
    | nil => exact h.elim
    | cons c C =>
      obtain ⟨h1, h2, h3, h4⟩ := h
      intro s hs
      rcases List.mem_cons.mp hs with rfl | hs
      · exact h2 b (hb c (by simp))
      · exact ih h4 (fun d hd => hb d (by simp [hd])) s hs
theorem RED.zero {R C : List Nat} (h : RED R C) {v : Nat} (hv : Sp R v) (h0 : ∀ c ∈ C, v.testBit c = false) : v = 0 := by
  induction R generalizing C v with
  | nil => exact hv.nil
  | cons r R ih =>
    cases C with
    | nil => exact h.elim
    | cons c C =>
      obtain ⟨h1, h2, h3, h4⟩ := h
      have low : ∀ s ∈ R, s.testBit c = false := h4.low fun d hd => (h3 d hd).1
      rcases hv.cons with hv | hv
      · exact ih h4 hv fun d hd => h0 d (by simp [hd])
      · have := hv.bit low
        rw [Nat.testBit_xor, h1, h0 c (by simp)] at this
        cases this
theorem RED.lead {R C : List Nat} (h : RED R C) {v : Nat} (hv : Sp R v) (h0 : v ≠ 0) : ∃ c ∈ C, v.testBit c = true ∧ ∀ b, b < c → v.testBit b = false := by
  induction R generalizing C v with
  | nil => exact absurd hv.nil h0
  | cons r R ih =>
    cases C with
    | nil => exact h.elim
    | cons c C =>
      obtain ⟨h1, h2, h3, h4⟩ := h
      rcases hv.cons with hv | hv
      · obtain ⟨d, hd, a, b⟩ := ih h4 hv h0
        exact ⟨d, by simp [hd], a, b⟩
      · refine ⟨c, by simp, ?_, fun b hb => ?_⟩
        · have := hv.bit (h4.low fun d hd => (h3 d hd).1)
          rw [Nat.testBit_xor, h1] at this
          revert this; cases v.testBit c <;> simp
        · have := hv.bit (h4.low (b := b) fun d hd => Nat.lt_trans hb (h3 d hd).1)
          rw [Nat.testBit_xor, h2 b hb] at this
          revert this; cases v.testBit b <;> simp
theorem RED.nonzero {r c : Nat} (h : r.testBit c = true) : r ≠ 0 := by rintro rfl; rw [Nat.zero_testBit] at h; cases h
theorem RED.head_le {r c : Nat} {R C R' C' : List Nat} {r' c' : Nat} (h : RED (r :: R) (c :: C)) (h' : RED (r' :: R') (c' :: C'))
    (hs : ∀ v, Sp (r' :: R') v → Sp (r :: R) v) : c ≤ c' := by
  obtain ⟨d, hd, a, b⟩ := h.lead (hs r' (Sp.mem (by simp))) (RED.nonzero h'.1)
  have : c ≤ d := by
    rcases List.mem_cons.mp hd with rfl | hd
    · exact Nat.le_refl _
    · exact Nat.le_of_lt (h.2.2.1 d hd).1
  rcases Nat.lt_or_ge c' d with z | z
  · have := b c' z; rw [h'.1] at this; cases this
  · omega
theorem RED.tail {r c : Nat} {R C : List Nat} (h : RED (r :: R) (c :: C)) {v : Nat} : Sp R v ↔ (Sp (r :: R) v ∧ v.testBit c = false) := by
  have low : ∀ s ∈ R, s.testBit c = false := h.2.2.2.low fun d hd => (h.2.2.1 d hd).1
  constructor
  · intro hv; exact ⟨hv.mono fun s hs => by simp [hs], hv.bit low⟩
  · rintro ⟨hv, h0⟩
    rcases hv.cons with hv | hv
    · exact hv
    · have := hv.bit low
      rw [Nat.testBit_xor, h.1, h0] at this; cases this
theorem RED.unique {R C R' C' : List Nat} (h : RED R C) (h' : RED R' C') (hs : ∀ v, Sp R v ↔ Sp R' v) : R = R' ∧ C = C' := by
  induction R generalizing C R' C' with
  | nil =>
    cases C with
    | cons c C => exact h.elim
    | nil =>
      cases R' with
      | nil => cases C' with
        | nil => exact ⟨rfl, rfl⟩
        | cons c' C' => exact h'.elim
      | cons r' R' => cases C' with
        | nil => exact h'.elim
        | cons c' C' => exact absurd ((hs r').mpr (Sp.mem (by simp))).nil (RED.nonzero h'.1)
  | cons r R ih =>
    cases C with
    | nil => exact h.elim
    | cons c C =>
      cases R' with
      | nil => cases C' with
        | nil => exact absurd ((hs r).mp (Sp.mem (by simp))).nil (RED.nonzero h.1)
        | cons c' C' => exact h'.elim
      | cons r' R' =>
        cases C' with
        | nil => exact h'.elim
        | cons c' C' =>
          have e : c = c' := Nat.le_antisymm (h.head_le h' fun v => (hs v).mpr) (h'.head_le h fun v => (hs v).mp)
          subst e
          obtain ⟨e1, e2⟩ := ih h.2.2.2 h'.2.2.2 fun v => by rw [h.tail, h'.tail, hs v]
          subst e1 e2
          refine ⟨?_, rfl⟩
          have hz : r ^^^ r' = 0 := by
            refine h.zero (Sp.xor (Sp.mem (by simp)) ((hs r').mpr (Sp.mem (by simp)))) fun d hd => ?_
            rw [Nat.testBit_xor]
            rcases List.mem_cons.mp hd with rfl | hd
            · rw [h.1, h'.1]; rfl
            · rw [(h.2.2.1 d hd).2, (h'.2.2.1 d hd).2]; rfl
          have : r = r' := by
            have := congrArg (· ^^^ r') hz
            simp only [Nat.xor_assoc, Nat.xor_self, Nat.xor_zero, Nat.zero_xor] at this
            exact this
          rw [this]
theorem RED.snoc {R C : List Nat} (h : RED R C) {r c : Nat} (h1 : r.testBit c = true) (h2 : ∀ b, b < c → r.testBit b = false) (hC : ∀ d ∈ C, d < c) (hR : ∀ s ∈ R, s.testBit c = false) : RED (R ++ [r]) (C ++ [c]) := by
  induction R generalizing C with
  | nil =>
    cases C with
    | cons c C => exact h.elim
    | nil => exact ⟨h1, h2, (fun d hd => by cases hd), trivial⟩
  | cons s R ih =>
    cases C with
    | nil => exact h.elim
    | cons d C =>
      refine ⟨h.1, h.2.1, fun e he => ?_, ih h.2.2.2 (fun e he => hC e (by simp [he])) (fun s hs => hR s (by simp [hs]))⟩
      rcases List.mem_append.mp he with he | he
      · exact h.2.2.1 e he
      · rw [List.mem_singleton] at he
        subst he
        exact ⟨hC d (by simp), hR s (by simp)⟩
/-- a row x becomes x + r where it has the place c -/
def clr (c r x : Nat) : Nat := if x.testBit c = true then x ^^^ r else x
theorem clr_bit {c r x : Nat} (h : r.testBit c = true) : (clr c r x).testBit c = false := by
  unfold clr
  split
  · rename_i hx; rw [Nat.testBit_xor, hx, h]; rfl
  · rename_i hx; exact Bool.eq_false_iff.mpr hx
theorem clr_low {c r x b : Nat} (h : r.testBit b = false) : (clr c r x).testBit b = x.testBit b := by
  unfold clr
  split
  · rw [Nat.testBit_xor, h, Bool.xor_false]
  · rfl
theorem clr_lt {c r x n : Nat} (hr : r < 2 ^ n) (hx : x < 2 ^ n) : clr c r x < 2 ^ n := by
  unfold clr
  split
  · exact Nat.xor_lt_two_pow hx hr
  · exact hx
theorem RED.clr {R C : List Nat} (h : RED R C) {r c : Nat} (hr : ∀ d ∈ C, r.testBit d = false) (hl : ∀ d ∈ C, ∀ b, b < d → r.testBit b = false) : RED (R.map (clr c r)) C := by
  induction R generalizing C with
  | nil => exact h
  | cons s R ih =>
    cases C with
    | nil => exact h.elim
    | cons d C =>
      refine ⟨?_, fun b hb => ?_, fun e he => ⟨(h.2.2.1 e he).1, ?_⟩, ih h.2.2.2 (fun e he => hr e (by simp [he])) (fun e he => hl e (by simp [he]))⟩
      · rw [clr_low (hr d (by simp))]; exact h.1
      · rw [clr_low (hl d (by simp) b hb)]; exact h.2.1 b hb
      · rw [clr_low (hr e (by simp [he]))]; exact (h.2.2.1 e he).2
theorem Sp.clr {R : List Nat} {c r x : Nat} (hr : Sp R r) (hx : Sp R x) : Sp R (clr c r x) := by
  unfold P.clr
  split
  · exact hx.xor hr
  · exact hx
theorem Sp.of_clr {R : List Nat} {c r x : Nat} (hr : Sp R r) (hx : Sp R (P.clr c r x)) : Sp R x := by
  unfold P.clr at hx
  split at hx
  · have := hx.xor hr
    rwa [Nat.xor_assoc, Nat.xor_self, Nat.xor_zero] at this
  · exact hx
end Go.Proofs.Ythjfilmdobkmlaa.P
end
section
namespace Go.Proofs.Ythjfilmdobkmlaa.P
open Go.RowKit Go.Proofs.YthjfilmdobkmlaaW.PrintWords Go.Proofs.YthjfilmdobkmlaaW.PrintLast Go.Proofs.YthjfilmdobkmlaaW.PrintMore
set_option linter.unusedVariables false
set_option linter.unusedSimpArgs false
theorem s_bit_v {a k : Nat} (ha : a < 4611686018427387904) (hk : k ≤ 62) : spec_l02Bit.f (a : Int) (k : Int) = some (if a.testBit k = true then 1 else 0) := by
  unfold spec_l02Bit.f
  rw [u64_id (by omega) (by omega), if_pos (by omega), bit_test (by omega) (by omega)]
theorem bit_if_pos {b : Bool} (h : b = true) : ((if b = true then 1 else 0 : Int) = 1) = True := by rw [h]; simp
theorem bit_if_neg {b : Bool} (h : b = false) : ((if b = true then 1 else 0 : Int) = 1) = False := by rw [h]; simp
theorem s_find_none {N k : Nat} (hk : k ≤ 61) {ln : List Nat} {out : List Int} (hl : ln.length ≤ 17592186044416) (hb : ∀ x ∈ ln, x < 4611686018427387904)
    (h : ∀ j, (hj : j < ln.length) → ln[j].testBit k = false) : spec_l02Echelon.l1d (N : Int) (up ln) out (k : Int) (-1) 0 = spec_l02Echelon.l0d (N : Int) (up ln) out ((k + 1 : Nat) : Int) := by
  have key : ∀ i, i ≤ ln.length → spec_l02Echelon.l1d (N : Int) (up ln) out (k : Int) (-1) (i : Int) = spec_l02Echelon.l0d (N : Int) (up ln) out ((k + 1 : Nat) : Int) := by
    apply down
    · rw [spec_l02Echelon.l1d_eq, if_neg (by rw [up_length]; omega), spec_l02Echelon.j2d_eq, if_neg (by decide), if_pos (by decide), wrS (n := 62) (by omega) (by omega)]
    · intro i hi e
      rw [spec_l02Echelon.l1d_eq, if_pos (by rw [up_length]; omega), spec_l02Echelon.j2d_eq, if_pos (by decide), if_pos (by omega), if_pos (by rw [up_length]; omega), up_get hi, s_bit_v (hb _ (List.getElem_mem hi)) (by omega), bind_some',
        if_neg (by rw [bit_if_neg (h i hi)]; exact id), wrS hi hl, e]
  exact key 0 (by omega)
theorem s_find_some {N k : Nat} (hk : k ≤ 61) {ln : List Nat} {out : List Int} (hl : ln.length ≤ 17592186044416) (hb : ∀ x ∈ ln, x < 4611686018427387904)
    {j : Nat} (hj : j < ln.length) (hbit : ln[j].testBit k = true) (h : ∀ t, (ht : t < j) → (ln[t]'(by omega)).testBit k = false) :
    spec_l02Echelon.l1d (N : Int) (up ln) out (k : Int) (-1) 0 = spec_l02Echelon.l2d (N : Int) (up (ln.set j 0)) out (k : Int) (ln[j] : Int) 0 := by
  have key : ∀ i, i ≤ j → spec_l02Echelon.l1d (N : Int) (up ln) out (k : Int) (-1) (i : Int) = spec_l02Echelon.l2d (N : Int) (up (ln.set j 0)) out (k : Int) (ln[j] : Int) 0 := by
    apply down
    · have e2 : ∀ i : Int, spec_l02Echelon.j2d (N : Int) (up ln) out (k : Int) (j : Int) i false = spec_l02Echelon.l2d (N : Int) (up (ln.set j 0)) out (k : Int) (ln[j] : Int) 0 := by
        intro i
        rw [spec_l02Echelon.j2d_eq, if_neg (by decide), if_neg (by omega), if_pos (by omega), if_pos (by rw [up_length]; omega), up_get hj, Int.toNat_natCast]
        rw [← up_set]; rfl
      rw [spec_l02Echelon.l1d_eq, if_pos (by rw [up_length]; omega), spec_l02Echelon.j2d_eq, if_pos (by decide), if_pos (by omega), if_pos (by rw [up_length]; omega), up_get hj, s_bit_v (hb _ (List.getElem_mem hj)) (by omega), bind_some',
        if_pos (by rw [bit_if_pos hbit]; trivial), spec_l02Echelon.l1d_eq]
      have e3 : decide ((j : Int) < 0) = false := decide_eq_false (by omega)
      rw [e3]
      split
      · exact e2 _
      · exact e2 _
    · intro i hi e
      have hi' : i < ln.length := by omega
      rw [spec_l02Echelon.l1d_eq, if_pos (by rw [up_length]; omega), spec_l02Echelon.j2d_eq, if_pos (by decide), if_pos (by omega), if_pos (by rw [up_length]; omega), up_get hi', s_bit_v (hb _ (List.getElem_mem hi')) (by omega), bind_some',
        if_neg (by rw [bit_if_neg (h i hi)]; exact id), wrS hi' hl, e]
  exact key 0 (by omega)
theorem clr_lt62 {c r x : Nat} (hr : r < 4611686018427387904) (hx : x < 4611686018427387904) : clr c r x < 4611686018427387904 := by
  have := clr_lt (n := 62) (c := c) (r := r) (x := x) (by omega) (by omega)
  omega
theorem clr_set {c r : Nat} {a : List Nat} {i : Nat} (hi : i < a.length) (h : a[i].testBit c = false) : a.set i (clr c r a[i]) = a := by
  unfold clr
  rw [if_neg (by rw [h]; decide), List.set_getElem_self]
theorem s_clear_left {N k lead : Nat} (hk : k ≤ 61) {ln : List Nat} {out : List Int} (hl : ln.length ≤ 17592186044416) (hb : ∀ x ∈ ln, x < 4611686018427387904) (hlead : lead < 4611686018427387904) :
    spec_l02Echelon.l2d (N : Int) (up ln) out (k : Int) (lead : Int) 0 = spec_l02Echelon.l3d (N : Int) (up (ln.map (clr k lead))) out (k : Int) (lead : Int) 0 := by
  refine map_gen (F := fun a i => spec_l02Echelon.l2d (N : Int) (up a) out (k : Int) (lead : Int) i) (n := ln.length) (g := fun _ x => clr k lead x) (fun _ x => x < 4611686018427387904) ln rfl
    (fun i h => hb _ (List.getElem_mem h)) (fun _ _ h => clr_lt62 hlead h) ?_ ?_
  · intro i a hi ha hq _ _
    show spec_l02Echelon.l2d (N : Int) (up a) out (k : Int) (lead : Int) (i : Int) = spec_l02Echelon.l2d (N : Int) (up (a.set i (clr k lead a[i]))) out (k : Int) (lead : Int) ((i + 1 : Nat) : Int)
    rw [spec_l02Echelon.l2d_eq, if_pos (by rw [up_length]; omega), if_pos (by omega), up_get hi, s_bit_v (hq i hi) (by omega), bind_some', wrS (n := ln.length) (by omega) hl]
    by_cases c : a[i].testBit k = true
    · rw [if_pos (by rw [bit_if_pos c]; trivial), bxor (by have := hq i hi; omega) (by omega), Int.toNat_natCast, up_set]
      unfold clr; rw [if_pos c]
    · have c' := Bool.eq_false_iff.mpr c
      rw [if_neg (by rw [bit_if_neg c']; exact id), clr_set hi c']
  · show spec_l02Echelon.l2d (N : Int) (up (ln.mapIdx fun _ x => clr k lead x)) out (k : Int) (lead : Int) (ln.length : Int) = _
    rw [mapIdx_const, spec_l02Echelon.l2d_eq, if_neg (by rw [up_length, List.length_map]; omega)]
theorem s_clear_out {N k lead : Nat} (hk : k ≤ 61) {left : List Int} {on : List Nat} (hl : on.length ≤ 62) (hb : ∀ x ∈ on, x < 4611686018427387904) (hlead : lead < 4611686018427387904) :
    spec_l02Echelon.l3d (N : Int) left (up on) (k : Int) (lead : Int) 0 = spec_l02Echelon.l0d (N : Int) left (up (on.map (clr k lead) ++ [lead])) ((k + 1 : Nat) : Int) := by
  refine map_gen (F := fun a i => spec_l02Echelon.l3d (N : Int) left (up a) (k : Int) (lead : Int) i) (n := on.length) (g := fun _ x => clr k lead x) (fun _ x => x < 4611686018427387904) on rfl
    (fun i h => hb _ (List.getElem_mem h)) (fun _ _ h => clr_lt62 hlead h) ?_ ?_
  · intro i a hi ha hq _ _
    show spec_l02Echelon.l3d (N : Int) left (up a) (k : Int) (lead : Int) (i : Int) = spec_l02Echelon.l3d (N : Int) left (up (a.set i (clr k lead a[i]))) (k : Int) (lead : Int) ((i + 1 : Nat) : Int)
    rw [spec_l02Echelon.l3d_eq, if_pos (by rw [up_length]; omega), if_pos (by omega), up_get hi, s_bit_v (hq i hi) (by omega), bind_some', wrS (n := on.length) (by omega) (by omega)]
    by_cases c : a[i].testBit k = true
    · rw [if_pos (by rw [bit_if_pos c]; trivial), bxor (by have := hq i hi; omega) (by omega), Int.toNat_natCast, up_set]
      unfold clr; rw [if_pos c]
    · have c' := Bool.eq_false_iff.mpr c
      rw [if_neg (by rw [bit_if_neg c']; exact id), clr_set hi c']
  · show spec_l02Echelon.l3d (N : Int) left (up (on.mapIdx fun _ x => clr k lead x)) (k : Int) (lead : Int) (on.length : Int) = _
    rw [mapIdx_const, spec_l02Echelon.l3d_eq, if_neg (by rw [up_length, List.length_map]; omega), if_pos (by rw [up_length, List.length_map]; omega), wrS (n := 62) (by omega) (by omega), up_append]; rfl
theorem low_zero {N x : Nat} (h : x < 2 ^ N) (h0 : ∀ b, b < N → x.testBit b = false) : x = 0 := by
  apply Nat.eq_of_testBit_eq
  intro b
  rw [Nat.zero_testBit]
  rcases Nat.lt_or_ge b N with z | z
  · exact h0 b z
  · exact Nat.testBit_lt_two_pow (Nat.lt_of_lt_of_le h (Nat.pow_le_pow_right (by omega) z))
theorem pow62 {N x : Nat} (hN : N ≤ 62) (h : x < 2 ^ N) : x < 4611686018427387904 :=
  Nat.lt_of_lt_of_le h (Nat.le_trans (Nat.pow_le_pow_right (by omega) hN) (by decide))
/-- the first place that has the bit, or none -/
theorem first_bit (l : List Nat) (k : Nat) : (∀ j, (h : j < l.length) → l[j].testBit k = false) ∨
    ∃ j, ∃ h : j < l.length, l[j].testBit k = true ∧ ∀ t, (ht : t < j) → (l[t]'(by omega)).testBit k = false := by
  induction l with
  | nil => exact .inl fun j h => by simp at h
  | cons x l ih =>
    by_cases c : x.testBit k = true
    · exact .inr ⟨0, by simp, c, fun t ht => by omega⟩
    · have c' := Bool.eq_false_iff.mpr c
      rcases ih with ih | ⟨j, h, a, b⟩
      · refine .inl fun j h => ?_
        cases j with
        | zero => exact c'
        | succ j => exact ih j (by simpa using h)
      · refine .inr ⟨j + 1, by simpa using h, a, fun t ht => ?_⟩
        cases t with
        | zero => exact c'
        | succ t => exact b t (by omega)
theorem s_ech_loop {N : Nat} (hN : N ≤ 62) : ∀ k, k ≤ N → ∀ (left out : List Nat), left.length ≤ 17592186044416 → (∀ x ∈ left, x < 2 ^ N ∧ ∀ b, b < k → x.testBit b = false) →
    (∀ x ∈ out, x < 2 ^ N) → out.length ≤ k → (∃ C, RED out C ∧ ∀ d ∈ C, d < k) →
    ∃ R C, spec_l02Echelon.l0d (N : Int) (up left) (up out) (k : Int) = some (up R) ∧ RED R C ∧ (∀ v, Sp R v ↔ Sp (out ++ left) v) ∧ (∀ x ∈ R, x < 2 ^ N) ∧ R.length ≤ N ∧ (∀ d ∈ C, d < N) := by
  apply down
  · intro left out hll hleft hout hlen ⟨C, hC, hd⟩
    refine ⟨out, C, ?_, hC, fun v => ⟨fun h => h.mono fun r hr => by simp [hr], fun h => h.sub fun r hr => ?_⟩, hout, hlen, hd⟩
    · rw [spec_l02Echelon.l0d_eq, if_neg (by omega)]
    · rcases List.mem_append.mp hr with hr | hr
      · exact Sp.mem hr
      · rw [low_zero (hleft r hr).1 (hleft r hr).2]; exact Sp.zero
  · intro k hk ih left out hll hleft hout hlen ⟨C, hC, hd⟩
    have b62 : ∀ x ∈ left, x < 4611686018427387904 := fun x hx => pow62 hN (hleft x hx).1
    rw [spec_l02Echelon.l0d_eq, if_pos (by omega)]
    rcases first_bit left k with h | ⟨j, hj, hbit, hfirst⟩
    · rw [s_find_none (by omega) hll b62 h]
      refine ih left out hll (fun x hx => ⟨(hleft x hx).1, fun b hb => ?_⟩) hout (by omega) ⟨C, hC, fun d hd' => Nat.lt_succ_of_lt (hd d hd')⟩
      rcases Nat.lt_or_ge b k with z | z
      · exact (hleft x hx).2 b z
      · obtain ⟨t, ht, e⟩ := List.getElem_of_mem hx
        rw [show b = k by omega, ← e]; exact h t ht
    · obtain ⟨lead, hlead⟩ : ∃ lead, lead = left[j] := ⟨_, rfl⟩
      have hmem : lead ∈ left := hlead ▸ List.getElem_mem hj
      have hl1 := (hleft lead hmem).1
      have hl2 := (hleft lead hmem).2
      rw [← hlead] at hbit
      have bset : ∀ x ∈ left.set j 0, x < 2 ^ N ∧ ∀ b, b < k → x.testBit b = false := by
        intro x hx
        rcases List.mem_or_eq_of_mem_set hx with hx | rfl
        · exact hleft x hx
        · exact ⟨Nat.two_pow_pos N, fun b _ => Nat.zero_testBit b⟩
      rw [s_find_some (by omega) hll b62 hj (by rw [← hlead]; exact hbit) hfirst, ← hlead,
        s_clear_left (by omega) (by rw [List.length_set]; exact hll) (fun x hx => pow62 hN (bset x hx).1) (pow62 hN hl1),
        s_clear_out (by omega) (by omega) (fun x hx => pow62 hN (hout x hx)) (pow62 hN hl1)]
      obtain ⟨R, C', e, hR, hs, hb, hlen', hd'⟩ := ih ((left.set j 0).map (clr k lead)) (out.map (clr k lead) ++ [lead]) (by simp; exact hll)
        (by
          intro x hx
          obtain ⟨y, hy, rfl⟩ := List.mem_map.mp hx
          refine ⟨clr_lt hl1 (bset y hy).1, fun b hb => ?_⟩
          rcases Nat.lt_or_ge b k with z | z
          · rw [clr_low (hl2 b z)]; exact (bset y hy).2 b z
          · rw [show b = k by omega]; exact clr_bit hbit)
        (by
          intro x hx
          rcases List.mem_append.mp hx with hx | hx
          · obtain ⟨y, hy, rfl⟩ := List.mem_map.mp hx
            exact clr_lt hl1 (hout y hy)
          · rw [List.mem_singleton] at hx; rw [hx]; exact hl1)
        (by simp; omega)
        ⟨C ++ [k], RED.snoc (hC.clr (fun d h => hl2 d (hd d h)) (fun d h b hb => hl2 b (Nat.lt_trans hb (hd d h)))) hbit hl2 hd (by
            intro s hs
            obtain ⟨y, hy, rfl⟩ := List.mem_map.mp hs
            exact clr_bit hbit), by
          intro d h
          rcases List.mem_append.mp h with h | h
          · exact Nat.lt_succ_of_lt (hd d h)
          · rw [List.mem_singleton] at h; omega⟩
      refine ⟨R, C', e, hR, fun v => (hs v).trans ⟨fun h => h.sub fun r hr => ?_, fun h => h.sub fun r hr => ?_⟩, hb, hlen', hd'⟩
      · have sl : Sp (out ++ left) lead := Sp.mem (by simp [hmem])
        rcases List.mem_append.mp hr with hr | hr
        · rcases List.mem_append.mp hr with hr | hr
          · obtain ⟨y, hy, rfl⟩ := List.mem_map.mp hr
            exact Sp.clr sl (Sp.mem (by simp [hy]))
          · rw [List.mem_singleton] at hr; rw [hr]; exact sl
        · obtain ⟨y, hy, rfl⟩ := List.mem_map.mp hr
          refine Sp.clr sl ?_
          rcases List.mem_or_eq_of_mem_set hy with hy | rfl
          · exact Sp.mem (by simp [hy])
          · exact Sp.zero
      · have sl : Sp (List.map (clr k lead) out ++ [lead] ++ List.map (clr k lead) (left.set j 0)) lead := Sp.mem (by simp)
        rcases List.mem_append.mp hr with hr | hr
        · exact Sp.of_clr sl (Sp.mem (List.mem_append.mpr (.inl (List.mem_append.mpr (.inl (List.mem_map.mpr ⟨r, hr, rfl⟩))))))
        · obtain ⟨t, ht, e⟩ := List.getElem_of_mem hr
          by_cases c : j = t
          · subst c; rw [← e, ← hlead]; exact sl
          · refine Sp.of_clr sl (Sp.mem (List.mem_append.mpr (.inr (List.mem_map.mpr ⟨r, ?_, rfl⟩))))
            rw [← e, ← List.getElem_set_ne (l := left) (a := 0) c (by simpa using ht)]
            exact List.getElem_mem _
theorem s_ech_v {N : Nat} (hN : N ≤ 62) {ln : List Nat} (hl : ln.length ≤ 1048576) (hb : ∀ x ∈ ln, x < 2 ^ N) :
    ∃ R C, spec_l02Echelon.d (N : Int) (up ln) = some (up R) ∧ RED R C ∧ (∀ v, Sp R v ↔ Sp ln v) ∧ (∀ x ∈ R, x < 2 ^ N) ∧ R.length ≤ N ∧ (∀ d ∈ C, d < N) := by
  obtain ⟨R, C, e, h⟩ := s_ech_loop hN 0 (by omega) ln [] (by omega) (fun x hx => ⟨hb x hx, fun b h => by omega⟩) (fun x hx => nomatch hx) (by simp) ⟨[], trivial, fun d hd => nomatch hd⟩
  refine ⟨R, C, ?_, by simpa using h⟩
  rw [spec_l02Echelon.d_eq]
  unfold spec_l00Own.f
  rw [bind_some', if_pos (by simp [up_length]; omega), bind_some', List.nil_append]
  exact e
theorem i_bit_v {a c : Nat} (ha : a < 4611686018427387904) (hc : c ≤ 62) : impl_echelon_1.f (a : Int) (c : Int) = some (a.testBit c) := by
  unfold impl_echelon_1.f
  rw [if_pos (by omega), bit_test (by omega) (by omega)]
  cases a.testBit c <;> simp
theorem i_find_v {m : List Nat} {c : Nat} (hc : c ≤ 61) (hl : m.length ≤ 17592186044416) (hb : ∀ x ∈ m, x < 4611686018427387904) :
    ∃ v, slices_IndexFunc_int64_int64_AT_impl_echelon_1.d (up m) (c : Int) = some v ∧ ((v < 0 ∧ ∀ j, (h : j < m.length) → m[j].testBit c = false) ∨ ∃ j, ∃ h : j < m.length, v = (j : Int) ∧ m[j].testBit c = true) := by
  rw [slices_IndexFunc_int64_int64_AT_impl_echelon_1.d_eq]
  obtain ⟨v, e, d, s⟩ := index_gen (F := fun i => slices_IndexFunc_int64_int64_AT_impl_echelon_1.l0d (up m) ((up m).length : Int) i (c : Int)) (n := m.length) (q := fun i => (m.getD i 0).testBit c)
    (by show slices_IndexFunc_int64_int64_AT_impl_echelon_1.l0d (up m) ((up m).length : Int) (m.length : Int) (c : Int) = _
        rw [slices_IndexFunc_int64_int64_AT_impl_echelon_1.l0d_eq, if_neg (by rw [up_length]; omega)])
    (by intro i hi
        show slices_IndexFunc_int64_int64_AT_impl_echelon_1.l0d (up m) ((up m).length : Int) (i : Int) (c : Int) = _
        have hg : m.getD i 0 = m[i] := by simp [List.getD_eq_getElem?_getD, hi]
        rw [slices_IndexFunc_int64_int64_AT_impl_echelon_1.l0d_eq, if_pos (by rw [up_length]; omega), if_pos (by omega), if_pos (by rw [up_length]; omega), up_get hi, i_bit_v (hb _ (List.getElem_mem hi)) (by omega), bind_some', wrS hi hl, hg])
  refine ⟨v, e, ?_⟩
  by_cases h : ∀ i, i < m.length → (m.getD i 0).testBit c = false
  · left
    rw [decide_eq_true h] at d
    refine ⟨by have : ¬ v ≥ 0 := by simpa using d
               omega, fun j hj => ?_⟩
    have := h j hj
    rwa [List.getD_eq_getElem?_getD, List.getElem?_eq_getElem hj] at this
  · right
    rw [decide_eq_false h] at d
    have hv : 0 ≤ v := by simpa using d
    obtain ⟨a1, a2, _⟩ := s hv
    refine ⟨v.toNat, a1, by omega, ?_⟩
    rwa [List.getD_eq_getElem?_getD, List.getElem?_eq_getElem a1] at a2
/-- two places change their rows -/
def swp (x : List Nat) (d p : Nat) (hd : d < x.length) (hp : p < x.length) : List Nat := (x.set d x[p]).set p x[d]
theorem swp_length {x : List Nat} {d p : Nat} (hd : d < x.length) (hp : p < x.length) : (swp x d p hd hp).length = x.length := by simp [swp]
theorem swp_get {x : List Nat} {d p : Nat} (hd : d < x.length) (hp : p < x.length) {j : Nat} (h : j < (swp x d p hd hp).length) :
    (swp x d p hd hp)[j] = if p = j then x[d] else if d = j then x[p] else x[j]'(by rw [swp_length] at h; exact h) := by
  have h2 : j < ((x.set d x[p]).set p x[d]).length := h
  have e : ((x.set d x[p]).set p x[d])[j]'h2 = if p = j then x[d] else if d = j then x[p] else x[j]'(by rw [swp_length] at h; exact h) := by
    rw [List.getElem_set, List.getElem_set]
  exact e
theorem swp_mem {x : List Nat} {d p : Nat} (hd : d < x.length) (hp : p < x.length) {r : Nat} (h : r ∈ swp x d p hd hp) : r ∈ x := by
  obtain ⟨j, hj, e⟩ := List.getElem_of_mem h
  rw [swp_get] at e
  split at e
  · rw [← e]; exact List.getElem_mem _
  · split at e
    · rw [← e]; exact List.getElem_mem _
    · rw [← e]; exact List.getElem_mem _
def clrBut (d c lead : Nat) (i x : Nat) : Nat := if i = d then x else clr c lead x
theorem i_clear {x : List Nat} {d c : Nat} (hc : c ≤ 61) (hd : d < x.length) (hl : x.length ≤ 17592186044416) (hb : ∀ y ∈ x, y < 4611686018427387904) :
    impl_echelon.l1d (up x) (d : Int) (x.length : Int) 0 (c : Int) = impl_echelon.l0d (up (x.mapIdx (clrBut d c x[d]))) ((d + 1 : Nat) : Int) ((c + 1 : Nat) : Int) := by
  have hlead := hb _ (List.getElem_mem hd)
  refine map_gen (F := fun a i => impl_echelon.l1d (up a) (d : Int) (x.length : Int) i (c : Int)) (n := x.length) (g := clrBut d c x[d]) (fun _ y => y < 4611686018427387904) x rfl
    (fun i h => hb _ (List.getElem_mem h)) (fun i y h => ?_) ?_ ?_
  · unfold clrBut
    split
    · exact h
    · exact clr_lt62 hlead h
  · intro i a hi ha hq hge hlt
    show impl_echelon.l1d (up a) (d : Int) (x.length : Int) (i : Int) (c : Int) = impl_echelon.l1d (up (a.set i (clrBut d c x[d] i a[i]))) (d : Int) (x.length : Int) ((i + 1 : Nat) : Int) (c : Int)
    have had : a[d]'(by omega) = x[d] := by
      rcases Nat.lt_or_ge d i with z | z
      · rw [hlt d z (by omega) hd]; unfold clrBut; rw [if_pos rfl]
      · exact hge d z (by omega) hd
    rw [impl_echelon.l1d_eq, if_pos (by omega)]
    by_cases e : i = d
    · rw [if_pos (by omega), wrS (n := x.length) (by omega) hl]
      unfold clrBut
      rw [if_pos e, List.set_getElem_self]
    · rw [if_neg (by omega), if_pos (by omega), if_pos (by rw [up_length]; omega), if_pos (by omega), up_get hi, bit_test (by have := hq i hi; omega) (by omega), wrS (n := x.length) (by omega) hl, up_get (show d < a.length by omega), had]
      unfold clrBut
      rw [if_neg e]
      by_cases t : a[i].testBit c = true
      · rw [if_pos (by rw [bit_if_pos t]; trivial), if_pos (by omega), if_pos (by rw [up_length]; omega), bxor (by have := hq i hi; omega) (by omega), Int.toNat_natCast, up_set]
        unfold clr; rw [if_pos t]
      · have t' := Bool.eq_false_iff.mpr t
        rw [if_neg (by rw [bit_if_neg t']; exact id), clr_set hi t']
  · show impl_echelon.l1d (up (x.mapIdx (clrBut d c x[d]))) (d : Int) (x.length : Int) (x.length : Int) (c : Int) = _
    rw [impl_echelon.l1d_eq, if_neg (by omega), wrS (n := x.length) (by omega) hl, wrS (n := 62) (by omega) (by omega)]
theorem i_ech_end {N : Nat} (hN : N ≤ 62) {x : List Nat} {d : Nat} {c : Int} (hd : d ≤ x.length) : impl_echelon.j1d (up x) (d : Int) false c = some (up (x.take d)) := by
  rw [impl_echelon.j1d_eq, if_neg (by decide), if_pos (by omega), if_pos (by rw [up_length]; omega), Int.toNat_natCast, up_take]
theorem i_ech_loop {N : Nat} (hN : N ≤ 62) : ∀ c, c ≤ 62 → ∀ (x : List Nat) (d : Nat), x.length ≤ 17592186044416 → d ≤ x.length → (∀ y ∈ x, y < 2 ^ N) →
    (∀ j, d ≤ j → (h : j < x.length) → ∀ b, b < c → x[j].testBit b = false) → (∃ C, RED (x.take d) C ∧ ∀ e ∈ C, e < c) →
    ∃ R C, impl_echelon.l0d (up x) (d : Int) (c : Int) = some (up R) ∧ RED R C ∧ (∀ v, Sp R v ↔ Sp x v) := by
  apply down
  · intro x d hl hd hb hlow ⟨C, hC, _⟩
    refine ⟨x.take d, C, ?_, hC, fun v => ⟨fun h => h.mono fun r hr => List.mem_of_mem_take hr, fun h => h.sub fun r hr => ?_⟩⟩
    · rw [impl_echelon.l0d_eq, if_neg (by omega), i_ech_end hN hd]
    · obtain ⟨j, hj, e⟩ := List.getElem_of_mem hr
      rcases Nat.lt_or_ge j d with z | z
      · refine Sp.mem ?_
        have hjt : j < (x.take d).length := by rw [List.length_take]; omega
        have := List.getElem_mem hjt
        rw [List.getElem_take] at this
        rw [← e]; exact this
      · have : r = 0 := low_zero (N := 62) (Nat.lt_of_lt_of_le (hb r hr) (Nat.pow_le_pow_right (by omega) hN)) (by rw [← e]; exact hlow j z hj)
        rw [this]; exact Sp.zero
  · intro c hc ih x d hl hd hb hlow ⟨C, hC, hCc⟩
    have b62 : ∀ y ∈ x, y < 4611686018427387904 := fun y hy => pow62 hN (hb y hy)
    rw [impl_echelon.l0d_eq, if_pos (by omega)]
    by_cases hdl : d < x.length
    · rw [decide_eq_true (by rw [up_length]; omega), impl_echelon.j1d_eq, if_pos rfl, if_pos (by omega), if_pos (by rw [up_length]; omega), Int.toNat_natCast, up_drop]
      obtain ⟨v, ev, hv⟩ := i_find_v (m := x.drop d) (c := c) (by omega) (by rw [List.length_drop]; omega) (fun y hy => b62 y (List.mem_of_mem_drop hy))
      rw [ev, bind_some']
      rcases hv with ⟨hv, hnone⟩ | ⟨t, ht, rfl, hbit⟩
      · rw [if_pos hv, wrS (n := 62) (by omega) (by omega)]
        refine ih x d hl hd hb (fun j hj h b hbc => ?_) ⟨C, hC, fun e he => Nat.lt_succ_of_lt (hCc e he)⟩
        rcases Nat.lt_or_ge b c with z | z
        · exact hlow j hj h b z
        · have := hnone (j - d) (by rw [List.length_drop]; omega)
          rw [List.getElem_drop] at this
          simp only [show d + (j - d) = j by omega] at this
          rw [show b = c by omega]; exact this
      · rw [List.length_drop] at ht
        rw [List.getElem_drop] at hbit
        have hp : d + t < x.length := by omega
        have ep : wrap64 ((d : Int) + (t : Int)) = ((d + t : Nat) : Int) := by rw [wr (by omega) (by omega)]; omega
        rw [if_neg (by omega), ep, if_pos (by omega), if_pos (by rw [up_length]; omega), if_pos (by rw [up_length]; omega), up_get hp, up_get hdl]
        simp only [Int.toNat_natCast]
        rw [up_set, up_set, up_length]
        obtain ⟨p, hpe⟩ : ∃ p, p = d + t := ⟨_, rfl⟩
        have hp' : p < x.length := by omega
        have esw : (x.set d (x[d + t]'hp)).set (d + t) x[d] = swp x d p hdl hp' := by subst hpe; rfl
        have hbit' : x[p].testBit c = true := by subst hpe; exact hbit
        rw [esw]
        obtain ⟨s, hs⟩ : ∃ s, s = swp x d p hdl hp' := ⟨_, rfl⟩
        rw [← hs]
        have hsl : s.length = x.length := by rw [hs, swp_length]
        have hsd : d < s.length := by omega
        have hg : ∀ j, (h : j < s.length) → s[j] = if p = j then x[d] else if d = j then x[p] else x[j]'(by omega) := by
          intro j h; subst hs; exact swp_get hdl hp' h
        have hsm : ∀ r ∈ s, r ∈ x := fun r hr => swp_mem hdl hp' (hs ▸ hr)
        have hdp : d ≤ p := by omega
        obtain ⟨lead, hlead⟩ : ∃ lead, lead = s[d] := ⟨_, rfl⟩
        have elead : lead = x[p] := by
          rw [hlead, hg d hsd]
          by_cases z : p = d
          · rw [if_pos z]; simp only [z]
          · rw [if_neg z, if_pos rfl]
        have lbit : lead.testBit c = true := by rw [elead]; exact hbit'
        have llow : ∀ b, b < c → lead.testBit b = false := by rw [elead]; exact hlow p hdp hp'
        have llt : lead < 2 ^ N := by rw [elead]; exact hb _ (List.getElem_mem hp')
        have hlen : (s.mapIdx (clrBut d c lead)).length = x.length := by rw [List.length_mapIdx]; exact hsl
        have hm : ∀ j, (h : j < (s.mapIdx (clrBut d c lead)).length) → (s.mapIdx (clrBut d c lead))[j] = if j = d then lead else clr c lead (s[j]'(by rw [List.length_mapIdx] at h; exact h)) := by
          intro j h
          rw [List.getElem_mapIdx]
          unfold clrBut
          by_cases z : j = d
          · rw [if_pos z, if_pos z]; refine Eq.trans ?_ hlead.symm; simp only [z]
          · rw [if_neg z, if_neg z]
        have i1 := i_clear (x := s) (d := d) (c := c) (by omega) hsd (by omega) (fun y hy => b62 y (hsm y hy))
        rw [hsl] at i1
        rw [i1, ← hlead]
        have htake : (s.mapIdx (clrBut d c lead)).take (d + 1) = (x.take d).map (clr c lead) ++ [lead] := by
          apply List.ext_getElem
          · simp; omega
          · intro j h1 h2
            rw [List.length_take, hlen] at h1
            rw [List.getElem_take, hm]
            by_cases z : j = d
            · have hle : ((x.take d).map (clr c lead)).length ≤ j := by rw [List.length_map, List.length_take, z]; exact Nat.min_le_left _ _
              rw [if_pos z, List.getElem_append_right hle]
              simp
            · have hjd : j < d := by omega
              rw [if_neg z, List.getElem_append_left (by simp; omega), List.getElem_map, List.getElem_take, hg j (by omega), if_neg (by omega), if_neg (by omega)]
        obtain ⟨R, C', e, hR, hSp⟩ := ih (s.mapIdx (clrBut d c lead)) (d + 1) (by rw [hlen]; exact hl) (by rw [hlen]; omega)
          (by
            intro y hy
            obtain ⟨j, hj, ej⟩ := List.getElem_of_mem hy
            rw [hm j hj] at ej
            rw [← ej]
            split
            · exact llt
            · exact clr_lt llt (hb _ (hsm _ (List.getElem_mem _))))
          (by
            intro j hj h b hbc
            have hjs : j < s.length := by rw [hlen] at h; omega
            rw [hm j h, if_neg (by omega)]
            rcases Nat.lt_or_ge b c with z | z
            · rw [clr_low (llow b z), hg j hjs]
              split
              · exact hlow d (Nat.le_refl _) hdl b z
              · rw [if_neg (by omega)]; exact hlow j (by omega) (by omega) b z
            · rw [show b = c by omega]; exact clr_bit lbit)
          ⟨C ++ [c], by
            rw [htake]
            exact RED.snoc (hC.clr (fun e h => llow e (hCc e h)) (fun e h b hb' => llow b (Nat.lt_trans hb' (hCc e h)))) lbit llow hCc (by
              intro y hy
              obtain ⟨z, hz, rfl⟩ := List.mem_map.mp hy
              exact clr_bit lbit), by
            intro e h
            rcases List.mem_append.mp h with h | h
            · exact Nat.lt_succ_of_lt (hCc e h)
            · rw [List.mem_singleton] at h; omega⟩
        refine ⟨R, C', e, hR, fun v => (hSp v).trans ⟨fun h => h.sub fun r hr => ?_, fun h => h.sub fun r hr => ?_⟩⟩
        · have sl : Sp x lead := by rw [elead]; exact Sp.mem (List.getElem_mem _)
          obtain ⟨j, hj, ej⟩ := List.getElem_of_mem hr
          rw [hm j hj] at ej
          rw [← ej]
          split
          · exact sl
          · exact Sp.clr sl (Sp.mem (hsm _ (List.getElem_mem _)))
        · have hdn : d < (s.mapIdx (clrBut d c lead)).length := by rw [hlen]; exact hdl
          have sl : Sp (s.mapIdx (clrBut d c lead)) lead := by
            have := hm d hdn
            rw [if_pos rfl] at this
            have hmem := Sp.mem (List.getElem_mem hdn)
            rw [this] at hmem
            exact hmem
          have sj : ∀ j, (h : j < s.length) → Sp (s.mapIdx (clrBut d c lead)) s[j] := by
            intro j h
            by_cases z : j = d
            · have ez : s[j] = lead := by rw [hlead]; simp only [z]
              rw [ez]; exact sl
            · have hj' : j < (s.mapIdx (clrBut d c lead)).length := by rw [List.length_mapIdx]; exact h
              have := hm j hj'
              rw [if_neg z] at this
              refine Sp.of_clr (c := c) sl ?_
              rw [← this]; exact Sp.mem (List.getElem_mem hj')
          obtain ⟨j, hj, ej⟩ := List.getElem_of_mem hr
          rw [← ej]
          by_cases z : j = d
          · have hps : p < s.length := hsl.symm ▸ hp'
            have := sj p hps
            rw [hg p hps, if_pos rfl] at this
            have ez : x[j] = x[d] := by simp only [z]
            rw [ez]; exact this
          · by_cases z2 : j = p
            · have ez : x[j] = x[p] := by simp only [z2]
              rw [ez, ← elead]; exact sl
            · have hjs : j < s.length := hsl.symm ▸ hj
              have := sj j hjs
              rw [hg j hjs, if_neg (fun e => z2 e.symm), if_neg (fun e => z e.symm)] at this
              exact this
    · rw [decide_eq_false (by rw [up_length]; omega), i_ech_end hN hd]
      refine ⟨x.take d, C, rfl, hC, fun v => ?_⟩
      rw [List.take_of_length_le (by omega)]
theorem i_ech_v {N : Nat} (hN : N ≤ 62) {ln : List Nat} (hl : ln.length ≤ 1048576) (hb : ∀ x ∈ ln, x < 2 ^ N) :
    ∃ R C, impl_echelon.d (up ln) = some (up R) ∧ RED R C ∧ (∀ v, Sp R v ↔ Sp ln v) := by
  rw [impl_echelon.d_eq]
  unfold slices_Clone_int64_int64.f
  rw [if_pos (by rw [up_length]; omega), bind_some']
  exact i_ech_loop hN 0 (by omega) ln 0 (by omega) (by omega) hb (fun j _ h b hb => by omega) ⟨[], trivial, fun d hd => nomatch hd⟩
/-- both sides: the one list of reduced rows with these sums -/
theorem ech_v {N : Nat} (hN : N ≤ 62) {ln : List Nat} (hl : ln.length ≤ 1048576) (hb : ∀ x ∈ ln, x < 2 ^ N) :
    ∃ R C, spec_l02Echelon.d (N : Int) (up ln) = some (up R) ∧ impl_echelon.d (up ln) = some (up R) ∧ RED R C ∧ (∀ v, Sp R v ↔ Sp ln v) ∧ (∀ x ∈ R, x < 2 ^ N) ∧ R.length ≤ N ∧ (∀ d ∈ C, d < N) := by
  obtain ⟨R, C, e, h, hs, hb', hl', hd⟩ := s_ech_v hN hl hb
  obtain ⟨R', C', e', h', hs'⟩ := i_ech_v hN hl hb
  obtain ⟨rfl, rfl⟩ := h.unique h' fun v => (hs v).trans (hs' v).symm
  exact ⟨R, C, e, e', h, hs, hb', hl', hd⟩
end Go.Proofs.Ythjfilmdobkmlaa.P
end
section
namespace Go.Proofs.Ythjfilmdobkmlaa.P
open Go.RowKit Go.Proofs.YthjfilmdobkmlaaW.PrintWords Go.Proofs.YthjfilmdobkmlaaW.PrintLast Go.Proofs.YthjfilmdobkmlaaW.PrintMore
set_option linter.unusedVariables false
set_option linter.unusedSimpArgs false
/-- a number of m places -/
def elemB (m x : Int) : Bool := decide (0 ≤ x) && decide (x < 2 ^ m.toNat)
theorem elems_up {N : Nat} {l : List Int} (h : l.all (elemB (N : Int)) = true) : ∃ ln : List Nat, l = up ln ∧ ∀ x ∈ ln, x < 2 ^ N := by
  rw [List.all_eq_true] at h
  have he : ∀ x ∈ l, 0 ≤ x ∧ x < 2 ^ N := fun x hx => by
    have := h x hx
    unfold elemB at this
    simpa using this
  refine ⟨l.map Int.toNat, (up_of fun x hx => (he x hx).1).symm, fun x hx => ?_⟩
  obtain ⟨y, hy, rfl⟩ := List.mem_map.mp hx
  have := he y hy
  have e : ((2 ^ N : Nat) : Int) = (2 : Int) ^ N := by simp
  omega
end Go.Proofs.Ythjfilmdobkmlaa.P
end
section
namespace Go.Proofs.Ythjfilmdobkmlaa.P
open Go.RowKit Go.Proofs.YthjfilmdobkmlaaW.PrintWords Go.Proofs.YthjfilmdobkmlaaW.PrintLast Go.Proofs.YthjfilmdobkmlaaW.PrintMore
set_option linter.unusedVariables false
set_option linter.unusedSimpArgs false
def matB (c : Int) (l : List Int) : Bool := (decide (1 ≤ c) && decide (c ≤ 10)) && (decide (l.length ≤ 10) && l.all (elemB c))
theorem mat_up {c : Int} {l : List Int} (h : matB c l = true) : ∃ N : Nat, ∃ ln : List Nat, c = (N : Int) ∧ 1 ≤ N ∧ N ≤ 10 ∧ l = up ln ∧ ln.length ≤ 10 ∧ ∀ x ∈ ln, x < 2 ^ N := by
  unfold matB at h
  simp only [Bool.and_eq_true, decide_eq_true_eq] at h
  obtain ⟨⟨h1, h2⟩, h3, h4⟩ := h
  obtain ⟨N, rfl⟩ : ∃ N : Nat, c = (N : Int) := ⟨c.toNat, by omega⟩
  obtain ⟨ln, rfl, hb⟩ := elems_up h4
  exact ⟨N, ln, rfl, by omega, by omega, rfl, by rwa [up_length] at h3, hb⟩
theorem one_shl {N : Nat} (h : N ≤ 60) : shl .i64 1 (N : Int) = ((2 ^ N : Nat) : Int) := by
  have h2 : 2 ^ N ≤ 2 ^ 60 := Nat.pow_le_pow_right (by omega) h
  have := shl_nat (a := 1) (c := N) (by omega) (by omega)
  rw [Nat.one_mul] at this
  exact this
theorem full_v {c : Int} (h1 : 1 ≤ c) (h2 : c ≤ 10) : wrap64 (shl .i64 1 c - 1) = 2 ^ c.toNat - 1 := by
  obtain ⟨N, rfl⟩ : ∃ N : Nat, c = (N : Int) := ⟨c.toNat, by omega⟩
  have h3 : 2 ^ N ≤ 2 ^ 10 := Nat.pow_le_pow_right (by omega) (by omega)
  have e : ((2 ^ N : Nat) : Int) = (2 : Int) ^ N := by simp
  rw [one_shl (by omega), Int.toNat_natCast, ← e]
  generalize 2 ^ N = G at h3
  rw [wr (by omega) (by omega)]
theorem within_v (x b : Int) : (if x ≥ 0 then some (decide (x ≤ b - 1)) else some false) = some (decide (0 ≤ x) && decide (x < b)) := by
  by_cases c : x ≥ 0
  · rw [if_pos c, decide_eq_true (show 0 ≤ x from c), Bool.true_and]
    congr 1; apply decide_eq_decide.mpr; omega
  · rw [if_neg c, decide_eq_false (show ¬ 0 ≤ x from c), Bool.false_and]
theorem i_mhas_v {c : Int} (h1 : 1 ≤ c) (h2 : c ≤ 10) (l : List Int) (x : Int) : impl_Matrix_has.f c l x = some (elemB c x) := by
  unfold impl_Matrix_has.f impl_within.f elemB
  rw [if_pos (by omega), full_v h1 h2, within_v, bind_some']
theorem i_ValidMatrix_v (c : Int) {l : List Int} (hl : l.length ≤ 17592186044416) : impl_ValidMatrix.d c l = some (matB c l) := by
  rw [impl_ValidMatrix.d_eq]
  unfold impl_within.f matB
  by_cases h1 : 1 ≤ c
  · rw [if_pos (by omega), bind_some']
    by_cases h2 : c ≤ 10
    · rw [if_pos (by simpa using h2)]
      by_cases h3 : l.length ≤ 10
      · rw [if_pos (by omega), slices_ContainsFunc_int64_int64_AT_impl_ValidMatrix_1.d_eq, slices_IndexFunc_int64_int64_AT_impl_ValidMatrix_1.d_eq]
        obtain ⟨v, e, d, _⟩ := index_gen (F := fun i => slices_IndexFunc_int64_int64_AT_impl_ValidMatrix_1.l0d l (l.length : Int) i c l) (n := l.length) (q := fun i => !(elemB c (rd l (i : Int))))
          (by show slices_IndexFunc_int64_int64_AT_impl_ValidMatrix_1.l0d l (l.length : Int) (l.length : Int) c l = _
              rw [slices_IndexFunc_int64_int64_AT_impl_ValidMatrix_1.l0d_eq, if_neg (by omega)])
          (by intro i hi
              show slices_IndexFunc_int64_int64_AT_impl_ValidMatrix_1.l0d l (l.length : Int) (i : Int) c l = _
              rw [slices_IndexFunc_int64_int64_AT_impl_ValidMatrix_1.l0d_eq, if_pos (by omega), if_pos (by omega), if_pos (by omega)]
              unfold impl_ValidMatrix_1.f
              rw [i_mhas_v h1 h2, bind_some', bind_some', wrS hi hl])
        have e' : slices_IndexFunc_int64_int64_AT_impl_ValidMatrix_1.l0d l (l.length : Int) 0 c l = some v := e
        rw [e', bind_some', bind_some', d, Bool.not_not, decide_eq_true h1, decide_eq_true h2, decide_eq_true h3]
        simp only [Bool.true_and]
        congr 1
        rw [← all_get]
        apply decide_eq_decide.mpr
        simp only [Bool.not_eq_false']
      · rw [if_neg (by omega), decide_eq_false h3]; simp
    · rw [if_neg (by simpa using h2), decide_eq_false h2]; simp
  · rw [if_neg (by omega), bind_some', if_neg (by decide), decide_eq_false h1]; simp
theorem s_l02Ok_v (c : Int) {l : List Int} (hl : l.length ≤ 17592186044416) : spec_l02Ok.d c l = some (matB c l) := by
  rw [spec_l02Ok.d_eq]
  unfold spec_l00In.f matB
  by_cases h1 : 1 ≤ c
  · rw [if_pos (by omega), bind_some']
    by_cases h2 : c ≤ 10
    · rw [if_pos (by simpa using h2), spec_l02Ok.j0d_eq]
      by_cases h3 : l.length ≤ 10
      · rw [if_neg (by simp; omega)]
        have := all_gen (F := fun i => spec_l02Ok.l0d i c l) (n := l.length) (q := fun i => elemB c (rd l (i : Int)))
          (by show spec_l02Ok.l0d (l.length : Int) c l = _
              rw [spec_l02Ok.l0d_eq, if_neg (by omega)])
          (by intro i hi
              show spec_l02Ok.l0d (i : Int) c l = _
              unfold elemB
              rw [spec_l02Ok.l0d_eq, if_pos (by omega), if_pos (by omega), u64_id (by omega) (by omega), if_pos (by omega), full_v h1 h2]
              unfold spec_l00In.f
              rw [within_v, bind_some', wrS hi hl])
        have this' : spec_l02Ok.l0d 0 c l = some (decide (∀ i, i < l.length → elemB c (rd l (i : Int)) = true)) := this
        rw [this', decide_eq_true h1, decide_eq_true h2, decide_eq_true h3]
        simp only [Bool.true_and]
        congr 1
        exact all_get
      · rw [if_pos (by simp; omega), decide_eq_false h3]; simp
    · rw [if_neg (by simpa using h2), spec_l02Ok.j0d_eq, if_pos rfl, decide_eq_false h2]; simp
  · rw [if_neg (by omega), bind_some', if_neg (by decide), spec_l02Ok.j0d_eq, if_pos rfl, decide_eq_false h1]; simp
end Go.Proofs.Ythjfilmdobkmlaa.P
end
section
namespace Go.Proofs.Ythjfilmdobkmlaa.P
open Go.RowKit Go.Proofs.YthjfilmdobkmlaaW.PrintWords Go.Proofs.YthjfilmdobkmlaaW.PrintLast Go.Proofs.YthjfilmdobkmlaaW.PrintMore
set_option linter.unusedVariables false
set_option linter.unusedSimpArgs false
theorem s_same_v {a b : List Int} (h : a.length ≤ 17592186044416) : spec_l00Same.d a b = some (decide (a = b)) := by
  rw [spec_l00Same.d_eq]
  by_cases hl : a.length = b.length
  · rw [if_pos (by omega)]
    have key : ∀ i, i ≤ a.length → spec_l00Same.l0d a b (i : Int) = some (decide (a.drop i = b.drop i)) := by
      apply down
      · rw [spec_l00Same.l0d_eq, if_neg (by omega)]; simp [hl]
      · intro i hi ih
        have hb : i < b.length := by omega
        rw [spec_l00Same.l0d_eq, if_pos (by omega), if_pos (by omega), if_pos (by omega), wrS hi h, rd_get hi, rd_get hb, ih]
        rw [List.drop_eq_getElem_cons hi, List.drop_eq_getElem_cons hb]
        by_cases c : a[i] = b[i]
        · rw [if_pos c]; simp only [List.cons.injEq, c, true_and]
        · rw [if_neg c]; simp only [List.cons.injEq, c, false_and, decide_false]
    have := key 0 (by omega)
    simpa using this
  · rw [if_neg (by omega)]
    have : a ≠ b := fun e => hl (by rw [e])
    simp [this]
theorem i_equal_v {a b : List Int} (h : a.length ≤ 17592186044416) : slices_Equal_int64_int64.d a b = some (decide (a = b)) := by
  rw [slices_Equal_int64_int64.d_eq]
  by_cases hl : a.length = b.length
  · rw [if_pos (by omega)]
    have key : ∀ i, i ≤ a.length → slices_Equal_int64_int64.l0d a b (a.length : Int) (i : Int) = some (decide (a.drop i = b.drop i)) := by
      apply down
      · rw [slices_Equal_int64_int64.l0d_eq, if_neg (by omega)]; simp [hl]
      · intro i hi ih
        have hb : i < b.length := by omega
        rw [slices_Equal_int64_int64.l0d_eq, if_pos (by omega), if_pos (by omega), if_pos (by omega), if_pos (by omega), wrS hi h, rd_get hi, rd_get hb, ih]
        rw [List.drop_eq_getElem_cons hi, List.drop_eq_getElem_cons hb]
        by_cases c : a[i] = b[i]
        · rw [if_pos c]; simp only [List.cons.injEq, c, true_and]
        · rw [if_neg c]; simp only [List.cons.injEq, c, false_and, decide_false]
    have := key 0 (by omega)
    simpa using this
  · rw [if_neg (by omega)]
    have : a ≠ b := fun e => hl (by rw [e])
    simp [this]
/-- a matrix in echelon form -/
noncomputable def spaceB (c : Int) (l : List Int) : Bool := matB c l && decide (impl_echelon.d l = some l)
theorem i_IsSpace_v (c : Int) {l : List Int} (hl : l.length ≤ 17592186044416) : impl_IsSpace.d c l = some (spaceB c l) := by
  rw [impl_IsSpace.d_eq, i_ValidMatrix_v c hl, bind_some']
  unfold spaceB
  by_cases h : matB c l = true
  · rw [if_pos h, h, Bool.true_and]
    obtain ⟨N, ln, rfl, hN1, hN, rfl, hlen, hb⟩ := mat_up h
    obtain ⟨R, C, e1, e2, _, _, _, hR, _⟩ := ech_v (N := N) (by omega) (ln := ln) (by omega) hb
    rw [e2, bind_some', i_equal_v (by rw [up_length]; omega), bind_some']
    congr 1; apply decide_eq_decide.mpr
    exact ⟨fun e => by rw [e], fun e => Option.some.inj e⟩
  · rw [if_neg h, Bool.eq_false_iff.mpr h]; rfl
theorem s_l02Space_v (c : Int) {l : List Int} (hl : l.length ≤ 17592186044416) : spec_l02Space.d c l = some (spaceB c l) := by
  rw [spec_l02Space.d_eq, s_l02Ok_v c hl, bind_some']
  unfold spaceB
  by_cases h : matB c l = true
  · rw [if_pos h, h, Bool.true_and]
    obtain ⟨N, ln, rfl, hN1, hN, rfl, hlen, hb⟩ := mat_up h
    obtain ⟨R, C, e1, e2, _, _, _, hR, _⟩ := ech_v (N := N) (by omega) (ln := ln) (by omega) hb
    rw [e1, bind_some', s_same_v (by rw [up_length]; omega), bind_some', e2]
    congr 1; apply decide_eq_decide.mpr
    exact ⟨fun e => by rw [e], fun e => Option.some.inj e⟩
  · rw [if_neg h, Bool.eq_false_iff.mpr h]; rfl
/-- a space's rows are reduced -/
theorem space_up {c : Int} {l : List Int} (h : spaceB c l = true) : ∃ N : Nat, ∃ R C : List Nat, c = (N : Int) ∧ 1 ≤ N ∧ N ≤ 10 ∧ l = up R ∧ R.length ≤ 10 ∧ (∀ x ∈ R, x < 2 ^ N) ∧ RED R C ∧ ∀ d ∈ C, d < N := by
  unfold spaceB at h
  simp only [Bool.and_eq_true, decide_eq_true_eq] at h
  obtain ⟨N, ln, rfl, hN1, hN, rfl, hlen, hb⟩ := mat_up h.1
  obtain ⟨R, C, e1, e2, hR, _, hRb, hRl, hd⟩ := ech_v (N := N) (by omega) (ln := ln) (by omega) hb
  have e : R = ln := by
    have := h.2; rw [e2] at this
    exact up_inj (Option.some.inj this)
  subst e
  exact ⟨N, R, C, rfl, hN1, hN, rfl, hlen, hb, hR, hd⟩
end Go.Proofs.Ythjfilmdobkmlaa.P
end
section
namespace Go.Proofs.Ythjfilmdobkmlaa.P
set_option linter.unusedVariables false
set_option linter.unusedSimpArgs false
end Go.Proofs.Ythjfilmdobkmlaa.P
end
section
namespace Go.Proofs.Ythjfilmdobkmlaa.P
set_option linter.unusedVariables false
set_option linter.unusedSimpArgs false
/-- the sum of the rows that a number tells by its bits -/
def tmb (b : Nat) : List Nat → Nat
  | [] => 0
  | r :: L => (if b.testBit 0 = true then r else 0) ^^^ tmb (b / 2) L
end Go.Proofs.Ythjfilmdobkmlaa.P
end
section
namespace Go.Proofs.Ythjfilmdobkmlaa.P
open Go.RowKit Go.Proofs.YthjfilmdobkmlaaW.PrintWords Go.Proofs.YthjfilmdobkmlaaW.PrintLast Go.Proofs.YthjfilmdobkmlaaW.PrintMore
set_option linter.unusedVariables false
set_option linter.unusedSimpArgs false
theorem tmb_lt {n : Nat} : ∀ (L : List Nat) (b : Nat), (∀ r ∈ L, r < 2 ^ n) → tmb b L < 2 ^ n
  | [], b, _ => Nat.two_pow_pos n
  | r :: L, b, h => by
    rw [tmb]
    refine Nat.xor_lt_two_pow ?_ (tmb_lt L _ fun r hr => h r (by simp [hr]))
    split
    · exact h r (by simp)
    · exact Nat.two_pow_pos n
end Go.Proofs.Ythjfilmdobkmlaa.P
end
section
namespace Go.Proofs.Ythjfilmdobkmlaa.P
open Go.RowKit Go.Proofs.YthjfilmdobkmlaaW.PrintWords Go.Proofs.YthjfilmdobkmlaaW.PrintLast Go.Proofs.YthjfilmdobkmlaaW.PrintMore
set_option linter.unusedVariables false
set_option linter.unusedSimpArgs false
theorem s_times_v {n x : Nat} (hn : n ≤ 60) {L : List Nat} (hl : L.length ≤ 60) (hx : x < 4611686018427387904) (hb : ∀ r ∈ L, r < 2 ^ n) : spec_l02Times.d (x : Int) (up L) = some ((tmb x L : Nat) : Int) := by
  have key : ∀ k, k ≤ L.length → ∀ a : Nat, a < 2 ^ n → spec_l02Times.l0d (x : Int) (up L) (a : Int) (k : Int) = some ((a ^^^ tmb (x / 2 ^ k) (L.drop k) : Nat) : Int) := by
    apply down
    · intro a _
      rw [spec_l02Times.l0d_eq, if_neg (by rw [up_length]; omega), List.drop_length, tmb, Nat.xor_zero]
    · intro k hk ih a ha
      have hr := hb _ (List.getElem_mem hk)
      have e1 : (x / 2 ^ k).testBit 0 = x.testBit k := by rw [Nat.testBit_div_two_pow, Nat.zero_add]
      have e2 : x / 2 ^ k / 2 = x / 2 ^ (k + 1) := by rw [Nat.pow_succ, Nat.div_div_eq_div_mul]
      rw [spec_l02Times.l0d_eq, if_pos (by rw [up_length]; omega), s_bit_v hx (by omega), bind_some', wrS hk (by omega), List.drop_eq_getElem_cons hk, tmb, e1, e2]
      by_cases c : x.testBit k = true
      · rw [if_pos c, if_pos rfl, if_pos (by omega), if_pos c, up_get hk, bxor (small62 (by omega) ha) (small62 (by omega) hr), ih _ (Nat.xor_lt_two_pow ha hr), Nat.xor_assoc]
      · rw [if_neg c, if_neg (by decide), if_neg c, ih a ha, Nat.zero_xor]
  have := key 0 (by omega) 0 (Nat.two_pow_pos n)
  rw [spec_l02Times.d_eq]
  rw [Nat.pow_zero, Nat.div_one, List.drop_zero, Nat.zero_xor] at this
  exact this
end Go.Proofs.Ythjfilmdobkmlaa.P
end
section
namespace Go.Proofs.Ythjfilmdobkmlaa.P
open Go.RowKit Go.Proofs.YthjfilmdobkmlaaW.PrintWords Go.Proofs.YthjfilmdobkmlaaW.PrintLast Go.Proofs.YthjfilmdobkmlaaW.PrintMore
set_option linter.unusedVariables false
set_option linter.unusedSimpArgs false
theorem div_bit0 (x k : Nat) : (x / 2 ^ k).testBit 0 = x.testBit k := by rw [Nat.testBit_div_two_pow, Nat.zero_add]
theorem div_half (x k : Nat) : x / 2 ^ k / 2 = x / 2 ^ (k + 1) := by rw [Nat.pow_succ, Nat.div_div_eq_div_mul]
theorem i_sumOf_v {n x : Nat} (hn : n ≤ 60) {L : List Nat} (hl : L.length ≤ 60) (hx : x < 4611686018427387904) (hb : ∀ r ∈ L, r < 2 ^ n) : impl_sumOf.d (up L) (x : Int) = some ((tmb x L : Nat) : Int) := by
  have key : ∀ k, k ≤ L.length → ∀ a : Nat, a < 2 ^ n → impl_sumOf.l0d (x : Int) (a : Int) (up L) ((up L).length : Int) (k : Int) = some ((a ^^^ tmb (x / 2 ^ k) (L.drop k) : Nat) : Int) := by
    apply down
    · intro a _
      rw [impl_sumOf.l0d_eq, if_neg (by rw [up_length]; omega), List.drop_length, tmb, Nat.xor_zero]
    · intro k hk ih a ha
      have hr := hb _ (List.getElem_mem hk)
      rw [impl_sumOf.l0d_eq, if_pos (by rw [up_length]; omega), if_pos (by omega), if_pos (by rw [up_length]; omega), bit_test (by omega) (by omega), wrS hk (by omega), List.drop_eq_getElem_cons hk, tmb, div_bit0, div_half]
      by_cases c : x.testBit k = true
      · rw [if_pos c, if_pos rfl, if_pos c, up_get hk, bxor (small62 (by omega) ha) (small62 (by omega) hr), ih _ (Nat.xor_lt_two_pow ha hr), Nat.xor_assoc]
      · rw [if_neg c, if_neg (by decide), if_neg c, ih a ha, Nat.zero_xor]
  have := key 0 (by omega) 0 (Nat.two_pow_pos n)
  rw [impl_sumOf.d_eq]
  rw [Nat.pow_zero, Nat.div_one, List.drop_zero, Nat.zero_xor] at this
  exact this
end Go.Proofs.Ythjfilmdobkmlaa.P
end
section
namespace Go.Proofs.Ythjfilmdobkmlaa.P
open Go.RowKit Go.Proofs.YthjfilmdobkmlaaW.PrintWords Go.Proofs.YthjfilmdobkmlaaW.PrintLast Go.Proofs.YthjfilmdobkmlaaW.PrintMore
set_option linter.unusedVariables false
set_option linter.unusedSimpArgs false
theorem i_mmul_v {M N : Nat} (hM : M ≤ 10) (hN : N ≤ 10) {X R : List Nat} (hX : X.length ≤ 1048576) (bX : ∀ x ∈ X, x < 2 ^ M) (hR : R.length ≤ 60) (bR : ∀ x ∈ R, x < 2 ^ N) (c : Int) :
    impl_Matrix_mul.d (M : Int) (up X) c (up R) = some (c, up (X.map fun x => tmb x R)) := by
  have h10 : 2 ^ M ≤ 2 ^ 10 := Nat.pow_le_pow_right (by omega) hM
  rw [impl_Matrix_mul.d_eq]
  have key : ∀ i, i ≤ X.length → impl_Matrix_mul.l0d (up X) ((up X).length : Int) (i : Int) c (up R) c (up ((X.take i).map fun x => tmb x R)) = some (c, up (X.map fun x => tmb x R)) := by
    apply down
    · rw [impl_Matrix_mul.l0d_eq, if_neg (by rw [up_length]; omega), List.take_length]
    · intro i hi ih
      have hx := bX _ (List.getElem_mem hi)
      rw [impl_Matrix_mul.l0d_eq, if_pos (by rw [up_length]; omega), if_pos (by omega), if_pos (by rw [up_length]; omega), up_get hi, i_sumOf_v (n := N) (by omega) hR (by omega) bR, bind_some', if_pos (by rw [up_length]; simp; omega), wrS hi (by omega), ← ih]
      congr 1
      rw [List.take_succ_eq_append_getElem hi, List.map_append, up_append]; rfl
  exact key 0 (by omega)
end Go.Proofs.Ythjfilmdobkmlaa.P
end
section
namespace Go.Proofs.Ythjfilmdobkmlaa.P
open Go.RowKit Go.Proofs.YthjfilmdobkmlaaW.PrintWords Go.Proofs.YthjfilmdobkmlaaW.PrintLast Go.Proofs.YthjfilmdobkmlaaW.PrintMore
set_option linter.unusedVariables false
set_option linter.unusedSimpArgs false
theorem s_own_up {E : List Nat} (h : E.length ≤ 1048576) : spec_l00Own.f (up E) = some (up E) := by
  unfold spec_l00Own.f
  rw [bind_some', if_pos (by rw [up_length]; simp; omega), List.nil_append]
theorem s_send_loop {M N : Nat} (hM : M ≤ 10) (hN : N ≤ 10) {X R E : List Nat} (hX : X.length ≤ 10) (bX : ∀ x ∈ X, x < 2 ^ M) (hR : R.length ≤ 60) (h0 : 0 < R.length) (bR : ∀ x ∈ R, x < 2 ^ N) (hE : E.length ≤ 10) (d : Int) {S : List Nat}
    (hS : spec_l02Echelon.d (N : Int) (up (E ++ X.map fun x => tmb x R)) = some (up S)) :
    spec_SendThrough.l0d (up E) 0 (N : Int) (up R) d (up X) = some ((N : Int), up S, 0) := by
  have h10 : 2 ^ M ≤ 2 ^ 10 := Nat.pow_le_pow_right (by omega) hM
  have key : ∀ i, i ≤ X.length → spec_SendThrough.l0d (up (E ++ (X.take i).map fun x => tmb x R)) (i : Int) (N : Int) (up R) d (up X) = some ((N : Int), up S, 0) := by
    apply down
    · rw [spec_SendThrough.l0d_eq, if_neg (by rw [up_length]; omega), List.take_length, hS, bind_some']
    · intro i hi ih
      have hx := bX _ (List.getElem_mem hi)
      rw [spec_SendThrough.l0d_eq, if_pos (by rw [up_length]; omega), if_pos (by rw [up_length]; omega), if_pos (by omega), up_get hi, s_times_v (n := N) (by omega) hR (by omega) bR, bind_some', if_pos (by rw [up_length]; simp; omega), wrS hi (by omega), ← ih]
      congr 1
      rw [List.take_succ_eq_append_getElem hi, List.map_append, ← List.append_assoc, up_append (E ++ _)]; rfl
  have := key 0 (by omega)
  simpa using this
theorem Send_both (c : Int) {l : List Int} (d : Int) {k : List Int} (e : Int) {q : List Int} (hl : l.length ≤ 1048576) (hk : k.length ≤ 1048576) (hq : q.length ≤ 1048576) :
    ∃ r : Int × List Int × Int, (r.2.1.length ≤ 17592186044416) ∧ spec_SendThrough.d c l d k e q = some r ∧ impl_SendThrough.d c l d k e q = some r := by
  have s1 : spec_SendThrough.j0d true c l d k e q = some (0, [], 1) := by rw [spec_SendThrough.j0d_eq, if_pos rfl]
  have i1 : impl_SendThrough.j0d true c l d k e q = some (0, [], 1) := by rw [impl_SendThrough.j0d_eq, if_pos rfl]
  have s2 : spec_SendThrough.j1d true c l d k e q = some (0, [], 2) := by rw [spec_SendThrough.j1d_eq, if_pos rfl]
  have i2 : impl_SendThrough.j1d true c l d k e q = some (0, [], 2) := by rw [impl_SendThrough.j1d_eq, if_pos rfl]
  have bad : ∀ v : Int, ∃ r : Int × List Int × Int, (r.2.1.length ≤ 17592186044416) ∧ (some ((0 : Int), ([] : List Int), v)) = some r ∧ (some ((0 : Int), ([] : List Int), v)) = some r := fun v => ⟨(0, [], v), by simp, rfl, rfl⟩
  rw [spec_SendThrough.d_eq, impl_SendThrough.d_eq, s_l02Space_v c (by omega), i_IsSpace_v c (by omega), bind_some', bind_some']
  by_cases hU : spaceB c l = true
  · rw [if_pos hU, if_pos hU, s_l02Ok_v d (by omega), i_ValidMatrix_v d (by omega), bind_some', bind_some']
    by_cases hM : matB d k = true
    · rw [if_pos hM, if_pos hM, s_l02Ok_v e (by omega), i_ValidMatrix_v e (by omega), bind_some', bind_some']
      by_cases hE : matB e q = true
      · have nb : (!(matB e q)) = false := by rw [hE]; rfl
        rw [nb]
        have sj : spec_SendThrough.j0d false c l d k e q = if e = c then (if (l.length : Int) > 0 then spec_SendThrough.j1d (d != (l.length : Int)) c l d k e q else spec_SendThrough.j1d false c l d k e q) else spec_SendThrough.j1d true c l d k e q := by
          rw [spec_SendThrough.j0d_eq, if_neg (by decide)]
        have ij : impl_SendThrough.j0d false c l d k e q = if (l.length : Int) > 0 then (if d = (l.length : Int) then impl_SendThrough.j1d (e != c) c l d k e q else impl_SendThrough.j1d true c l d k e q) else impl_SendThrough.j1d (e != c) c l d k e q := by
          rw [impl_SendThrough.j0d_eq, if_neg (by decide)]
          unfold impl_size_int64.f
          rw [bind_some']
        rw [sj, ij]
        clear sj ij
        obtain ⟨N, R, C, rfl, hN1, hN, rfl, hlR, bR, hR, hC⟩ := space_up hU
        obtain ⟨M, X, rfl, _, hM10, rfl, hlX, bX⟩ := mat_up hM
        obtain ⟨K, E, rfl, _, hK, rfl, hlE, bE⟩ := mat_up hE
        by_cases ce : K = N
        · subst ce
          have ne : ((K : Int) != (K : Int)) = false := by simp
          rw [if_pos rfl, ne]
          by_cases lz : R.length = 0
          · have hz : ¬ ((up R).length : Int) > 0 := by rw [up_length]; omega
            have hz' : ((up R).length : Int) = 0 := by rw [up_length]; omega
            obtain ⟨S, D, e1, e2, _, _, _, sl, _⟩ := ech_v (N := K) (by omega) (ln := E) (by omega) bE
            refine ⟨((K : Int), up S, 0), by show (up S).length ≤ _; rw [up_length]; omega, ?_, ?_⟩
            · rw [if_neg hz, spec_SendThrough.j1d_eq, if_neg (by decide), s_own_up (by omega), bind_some', spec_SendThrough.l0d_eq, if_neg hz, e1, bind_some']
              by_cases z : (0 : Int) < ((up X).length : Int)
              · rw [if_pos z]
              · rw [if_neg z]
            · rw [if_neg hz, impl_SendThrough.j1d_eq, if_neg (by decide), if_pos hz', impl_Matrix_form.d_eq, e2, bind_some', bind_some']
          · have hz : ((up R).length : Int) > 0 := by rw [up_length]; omega
            have hz' : ¬ ((up R).length : Int) = 0 := by rw [up_length]; omega
            rw [if_pos hz, if_pos hz]
            by_cases dm : (M : Int) = ((up R).length : Int)
            · have nd : ((M : Int) != ((up R).length : Int)) = false := by rw [dm]; simp
              rw [if_pos dm, nd]
              have bP : ∀ x ∈ X.map (fun x => tmb x R), x < 2 ^ K := by
                intro x hx
                obtain ⟨y, _, rfl⟩ := List.mem_map.mp hx
                exact tmb_lt R y bR
              have lP : (X.map fun x => tmb x R).length ≤ 10 := by rw [List.length_map]; exact hlX
              obtain ⟨S, D, e1, _, hS, sS, _, sl, _⟩ := ech_v (N := K) (by omega) (ln := E ++ X.map fun x => tmb x R) (by rw [List.length_append]; omega) (fun x hx => by
                rcases List.mem_append.mp hx with z | z
                · exact bE x z
                · exact bP x z)
              obtain ⟨S', D', _, e2, hS', sS', _, _, _⟩ := ech_v (N := K) (by omega) (ln := (X.map fun x => tmb x R) ++ E) (by rw [List.length_append]; omega) (fun x hx => by
                rcases List.mem_append.mp hx with z | z
                · exact bP x z
                · exact bE x z)
              obtain ⟨rfl, _⟩ := hS.unique hS' fun v => (sS v).trans ((⟨Sp.mono fun r hr => by simp only [List.mem_append] at hr ⊢; exact hr.symm, Sp.mono fun r hr => by simp only [List.mem_append] at hr ⊢; exact hr.symm⟩ : Sp (E ++ X.map fun x => tmb x R) v ↔ Sp ((X.map fun x => tmb x R) ++ E) v).trans (sS' v).symm)
              refine ⟨((K : Int), up S, 0), by show (up S).length ≤ _; rw [up_length]; omega, ?_, ?_⟩
              · rw [spec_SendThrough.j1d_eq, if_neg (by decide), s_own_up (by omega), bind_some', s_send_loop (M := M) hM10 hN hlX bX (by omega) (by omega) bR hlE _ e1]
              · rw [impl_SendThrough.j1d_eq, if_neg Bool.false_ne_true, if_neg hz', i_mmul_v hM10 hN (by omega) bX (by omega) bR, bind_some', impl_Matrix_sum.d_eq]
                unfold slices_Concat_int64_int64.f
                have : ([up (X.map fun x => tmb x R), up E] : List (List Int)).flatten = up ((X.map fun x => tmb x R) ++ E) := by rw [up_append]; simp
                dsimp only
                rw [this, if_pos (by rw [up_length, List.length_append]; omega), bind_some', e2, bind_some', bind_some']
            · have nd : ((M : Int) != ((up R).length : Int)) = true := by simp [dm]
              rw [if_neg dm, nd, s2, i2]; exact bad 2
        · have ne : ((K : Int) != (N : Int)) = true := by simp; omega
          rw [if_neg (show ¬ (K : Int) = (N : Int) by omega), ne, i2, s2, ite_self, ite_self]; exact bad 2
      · have nb : (!(matB e q)) = true := by rw [Bool.eq_false_iff.mpr hE]; rfl
        rw [nb, s1, i1]; exact bad 1
    · rw [if_neg hM, if_neg hM, s1, i1]; exact bad 1
  · rw [if_neg hU, if_neg hU, s1, i1]; exact bad 1
theorem SendThrough_law (c : Int) (l : List Int) (d : Int) (k : List Int) (e : Int) (q : List Int) (h1 : l.length ≤ maxLen) (h4 : k.length ≤ maxLen) (h7 : q.length ≤ maxLen) : laws_FnExactSendThrough.d c l d k e q = some true := by
  by_cases hl_all : ¬ (l.length ≤ 1048576 ∧ k.length ≤ 1048576 ∧ q.length ≤ 1048576 ∧ l.length + k.length + q.length ≤ 1048576)
  · by_cases z_l : l.length ≤ 1048576 <;> by_cases z_k : k.length ≤ 1048576 <;> by_cases z_q : q.length ≤ 1048576 <;> by_cases z_l_k : l.length + k.length ≤ 1048576 <;> first
    | (exfalso; omega)
    | (skip
       repeat' (first
         | with_reducible exact rfl
         | dsimp only
         | with_reducible refine bind_ok (eqInt64S_self (by omega)) ?_
         | with_reducible refine bind_ok (toInt64S_v (by omega)) ?_
         | with_reducible refine bind_ok (szInt64S_in (by omega) (by omega)) ?_
         | with_reducible refine bind_ok (szInt64S_out (by omega) (by omega) (by assumption)) ?_
         | with_reducible refine bind_ok (heldInt64S_v (by omega) (by omega) (by omega)) ?_
         | with_reducible refine bind_ok (markInt64S_v (by omega) (by omega) (by omega)) ?_
         | with_reducible refine some_bind_ok ?_
         | with_reducible refine ite_bind_t (by first | with_reducible exact rfl | omega) ?_
         | with_reducible refine ite_bind_f (by first | omega | decide | (simp; done)) ?_
         | with_reducible refine bind_assoc_ok ?_
         | with_reducible refine ite_t (by first | with_reducible exact rfl | omega) ?_
         | with_reducible refine ite_f (by first | omega | decide | (simp; done)) ?_
         | rw [laws_FnExactSendThrough.j0d_eq]
         | rw [laws_FnExactSendThrough.j1d_eq]
         | rw [laws_FnExactSendThrough.j2d_eq]
         | rw [laws_FnExactSendThrough.d_eq]
         | rw [laws_eqMatrix.d_eq]
         | rw [laws_toMatrix.d_eq]
         | unfold laws_szMatrix.f
         | rw [laws_heldMatrix.d_eq]
         | rw [laws_markMatrix.d_eq]
         )
       done)
  obtain ⟨hl_l, hl_k, hl_q, hl_sum⟩ := Classical.not_not.mp hl_all
  have key : ∃ r : Int × List Int × Int, (r.2.1.length ≤ 17592186044416) ∧ spec_SendThrough.d c l d k e q = some r ∧ impl_SendThrough.d c l d k e q = some r := by
    exact Send_both c d e hl_l hl_k hl_q
  obtain ⟨r, hb, hS, hI⟩ := key
  obtain ⟨r0, r1, r2⟩ := r
  simp only at hb
  repeat' (first
    | with_reducible exact rfl
    | dsimp only
    | refine bind_ok hS ?_
    | refine bind_ok hI ?_
    | with_reducible refine bind_ok (eqInt64S_self (by omega)) ?_
    | with_reducible refine bind_ok (toInt64S_v (by omega)) ?_
    | with_reducible refine bind_ok (szInt64S_in (by omega) (by omega)) ?_
    | with_reducible refine bind_ok (szInt64S_out (by omega) (by omega) (by assumption)) ?_
    | with_reducible refine bind_ok (heldInt64S_v (by omega) (by omega) (by omega)) ?_
    | with_reducible refine bind_ok (markInt64S_v (by omega) (by omega) (by omega)) ?_
    | with_reducible refine some_bind_ok ?_
    | with_reducible refine ite_bind_t (by first | with_reducible exact rfl | omega) ?_
    | with_reducible refine ite_bind_f (by first | omega | decide | (simp; done)) ?_
    | with_reducible refine bind_assoc_ok ?_
    | with_reducible refine ite_t (by first | with_reducible exact rfl | omega) ?_
    | with_reducible refine ite_f (by first | omega | decide | (simp; done)) ?_
    | rw [laws_FnExactSendThrough.j0d_eq]
    | rw [laws_FnExactSendThrough.j1d_eq]
    | rw [laws_FnExactSendThrough.j2d_eq]
    | rw [laws_FnExactSendThrough.d_eq]
    | rw [laws_eqMatrix.d_eq]
    | rw [laws_toMatrix.d_eq]
    | unfold laws_szMatrix.f
    | rw [laws_heldMatrix.d_eq]
    | rw [laws_markMatrix.d_eq]
    )
end Go.Proofs.Ythjfilmdobkmlaa.P
end
section
namespace Go.Proofs.Ythjfilmdobkmlaa.P
open Go.RowKit Go.Proofs.YthjfilmdobkmlaaW.PrintWords Go.Proofs.YthjfilmdobkmlaaW.PrintLast Go.Proofs.YthjfilmdobkmlaaW.PrintMore
/-- The one pure statement of laws_FnExactSendThrough. -/
def laws_FnExactSendThrough.Pure : Prop := ∀ (a0_0 : Int) (l0_1 : List Int) (a1_0 : Int) (l1_1 : List Int) (a2_0 : Int) (l2_1 : List Int), ((Lit.int .i64 a0_0).wf = true) → (l0_1.length ≤ maxLen) → (∀ x ∈ l0_1, (Lit.int .i64 x).wf = true) → ((Lit.int .i64 a1_0).wf = true) → (l1_1.length ≤ maxLen) → (∀ x ∈ l1_1, (Lit.int .i64 x).wf = true) → ((Lit.int .i64 a2_0).wf = true) → (l2_1.length ≤ maxLen) → (∀ x ∈ l2_1, (Lit.int .i64 x).wf = true) → ∃ k, laws_FnExactSendThrough.f k a0_0 l0_1 a1_0 l1_1 a2_0 l2_1 = some true
end Go.Proofs.Ythjfilmdobkmlaa.P
end
section
namespace Go.Proofs.Ythjfilmdobkmlaa.Pure
theorem FnExactSendThrough : P.laws_FnExactSendThrough.Pure := fun a0_0 l0_1 a1_0 l1_1 a2_0 l2_1 _ h1_ _ _ h4_ _ _ h7_ _ => P.IsLim.some_ (P.laws_FnExactSendThrough.lim a0_0 l0_1 a1_0 l1_1 a2_0 l2_1) (P.SendThrough_law a0_0 l0_1 a1_0 l1_1 a2_0 l2_1 h1_ h4_ h7_)
end Go.Proofs.Ythjfilmdobkmlaa.Pure
end
