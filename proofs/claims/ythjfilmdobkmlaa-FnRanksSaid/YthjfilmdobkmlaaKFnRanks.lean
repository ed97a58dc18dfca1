/- What the functions of the law FnRanks tell without rounds, and its pure statement. -/
import Derived.Test.YthjfilmdobkmlaaPx0
import Derived.Test.YthjfilmdobkmlaaPx1
import Derived.Test.YthjfilmdobkmlaaPx2
import Derived.Test.YthjfilmdobkmlaaPx3
import Derived.Test.YthjfilmdobkmlaaPx4
import Derived.Test.YthjfilmdobkmlaaPx7
import Derived.Test.YthjfilmdobkmlaaPx8
import Derived.Test.YthjfilmdobkmlaaPx5
import Derived.Test.YthjfilmdobkmlaaPx6
import Derived.Test.YthjfilmdobkmlaaPx9
import Derived.Test.YthjfilmdobkmlaaPx13
import Derived.Test.YthjfilmdobkmlaaPx14
import Derived.Test.YthjfilmdobkmlaaPx10
import Derived.Test.YthjfilmdobkmlaaPx15
import Derived.Test.YthjfilmdobkmlaaPx16
import Derived.Test.YthjfilmdobkmlaaPx17
import Derived.Test.YthjfilmdobkmlaaPx18
import Derived.Test.YthjfilmdobkmlaaPx19
import Derived.Test.YthjfilmdobkmlaaPx40
import Derived.ProofKit
section
namespace Go.Proofs.Ythjfilmdobkmlaa.P
open Go.RowKit Go.Proofs.YthjfilmdobkmlaaW.PrintWords Go.Proofs.YthjfilmdobkmlaaW.PrintLast Go.Proofs.YthjfilmdobkmlaaW.PrintMore
def IsLim {α : Type} (g : Nat → Option α) (v : Option α) : Prop := (∀ k, LeO (g k) (g (k + 1))) ∧ ∀ r, v = some r ↔ ∃ k, g k = some r
theorem leO_le {α : Type} {g : Nat → Option α} (h : ∀ k, LeO (g k) (g (k + 1))) {j k : Nat} (hjk : j ≤ k) : LeO (g j) (g k) := by
  induction hjk with
  | refl => exact fun _ e => e
  | step _ ih => exact fun r e => h _ r (ih r e)
open Classical in
noncomputable def lim {α : Type} (g : Nat → Option α) : Option α := if h : ∃ r, ∃ k, g k = some r then some h.choose else none
theorem lim_spec {α : Type} {g : Nat → Option α} (h : ∀ k, LeO (g k) (g (k + 1))) : IsLim g (lim g) := by
  refine ⟨h, fun r => ?_⟩
  unfold lim
  by_cases hx : ∃ r, ∃ k, g k = some r
  · rw [dif_pos hx]
    obtain ⟨k, hk⟩ := hx.choose_spec
    constructor
    · intro e; exact ⟨k, by rw [hk]; exact e⟩
    · rintro ⟨j, hj⟩
      have a := leO_le h (Nat.le_max_left j k) _ hj
      have b := leO_le h (Nat.le_max_right j k) _ hk
      rw [a] at b; exact b.symm
  · rw [dif_neg hx]
    constructor
    · intro e; cases e
    · rintro ⟨k, hk⟩; exact absurd ⟨r, k, hk⟩ hx
theorem IsLim.unique {α : Type} {g : Nat → Option α} {v v' : Option α} (h : IsLim g v) (h' : IsLim g v') : v = v' :=
  Option.ext fun r => (h.2 r).trans (h'.2 r).symm
theorem IsLim.const {α : Type} (v : Option α) : IsLim (fun _ => v) v := ⟨fun _ _ e => e, fun _ => ⟨fun e => ⟨0, e⟩, fun ⟨_, e⟩ => e⟩⟩
theorem IsLim.ite {α : Type} {c : Prop} [Decidable c] {g g' : Nat → Option α} {v v' : Option α} (h : IsLim g v) (h' : IsLim g' v') :
    IsLim (fun k => if c then g k else g' k) (if c then v else v') := by
  by_cases hc : c
  · simp only [if_pos hc]; exact h
  · simp only [if_neg hc]; exact h'
theorem IsLim.bind {α β : Type} {g : Nat → Option α} {v : Option α} {q : Nat → α → Option β} {w : α → Option β}
    (h : IsLim g v) (hq : ∀ x, IsLim (fun k => q k x) (w x)) : IsLim (fun k => (g k).bind (q k)) (v.bind w) := by
  refine ⟨fun k r e => ?_, fun r => ?_⟩
  · obtain ⟨x, hx, hr⟩ := Option.bind_eq_some_iff.mp e
    exact Option.bind_eq_some_iff.mpr ⟨x, h.1 k x hx, (hq x).1 k r hr⟩
  · constructor
    · intro e
      obtain ⟨x, hx, hr⟩ := Option.bind_eq_some_iff.mp e
      obtain ⟨j, hj⟩ := (h.2 x).mp hx
      obtain ⟨k, hk⟩ := ((hq x).2 r).mp hr
      exact ⟨max j k, Option.bind_eq_some_iff.mpr ⟨x, leO_le h.1 (Nat.le_max_left j k) _ hj, leO_le (hq x).1 (Nat.le_max_right j k) _ hk⟩⟩
    · rintro ⟨k, e⟩
      obtain ⟨x, hx, hr⟩ := Option.bind_eq_some_iff.mp e
      exact Option.bind_eq_some_iff.mpr ⟨x, (h.2 x).mpr ⟨k, hx⟩, ((hq x).2 r).mpr ⟨k, hr⟩⟩
theorem IsLim.shift {α : Type} {g : Nat → Option α} {v : Option α} (h0 : g 0 = none) (h : IsLim (fun k => g (k + 1)) v) : IsLim g v := by
  refine ⟨fun k => ?_, fun r => ?_⟩
  · cases k with
    | zero => intro r e; rw [h0] at e; cases e
    | succ k => exact h.1 k
  · rw [h.2 r]
    constructor
    · rintro ⟨k, e⟩; exact ⟨k + 1, e⟩
    · rintro ⟨k, e⟩
      cases k with
      | zero => rw [h0] at e; cases e
      | succ k => exact ⟨k, e⟩
theorem IsLim.some_ {α : Type} {g : Nat → Option α} {v : Option α} {r : α} (h : IsLim g v) (e : v = some r) : ∃ k, g k = some r := (h.2 r).mp e
end Go.Proofs.Ythjfilmdobkmlaa.P
end
section
namespace Go.Proofs.Ythjfilmdobkmlaa.P
open Go.RowKit Go.Proofs.YthjfilmdobkmlaaW.PrintWords Go.Proofs.YthjfilmdobkmlaaW.PrintLast Go.Proofs.YthjfilmdobkmlaaW.PrintMore
set_option linter.unusedVariables false
set_option linter.unusedSimpArgs false
end Go.Proofs.Ythjfilmdobkmlaa.P
end
section
namespace Go.Proofs.Ythjfilmdobkmlaa.P
open Go.RowKit Go.Proofs.YthjfilmdobkmlaaW.PrintWords Go.Proofs.YthjfilmdobkmlaaW.PrintLast Go.Proofs.YthjfilmdobkmlaaW.PrintMore
set_option linter.unusedVariables false
set_option linter.unusedSimpArgs false
noncomputable def slices_IndexFunc_int64_int64_AT_impl_ValidMatrix_1.l0d (x0 : List Int) (x7 : Int) (x8 : Int) (x49000 : Int) (x49001 : List Int) : Option (Int) := lim (fun k => slices_IndexFunc_int64_int64_AT_impl_ValidMatrix_1.l0 k x0 x7 x8 x49000 x49001)
theorem slices_IndexFunc_int64_int64_AT_impl_ValidMatrix_1.l0lim (x0 : List Int) (x7 : Int) (x8 : Int) (x49000 : Int) (x49001 : List Int) : IsLim (fun k => slices_IndexFunc_int64_int64_AT_impl_ValidMatrix_1.l0 k x0 x7 x8 x49000 x49001) (slices_IndexFunc_int64_int64_AT_impl_ValidMatrix_1.l0d x0 x7 x8 x49000 x49001) := lim_spec (fun k => (slices_IndexFunc_int64_int64_AT_impl_ValidMatrix_1.mono_l k) x0 x7 x8 x49000 x49001)
theorem slices_IndexFunc_int64_int64_AT_impl_ValidMatrix_1.l0d_eq (x0 : List Int) (x7 : Int) (x8 : Int) (x49000 : Int) (x49001 : List Int) : slices_IndexFunc_int64_int64_AT_impl_ValidMatrix_1.l0d x0 x7 x8 x49000 x49001 = if x8 < x7 then (if 0 ≤ x8 then (if x8 < (x0.length : Int) then ((impl_ValidMatrix_1.f (rd x0 x8) x49000 x49001).bind fun t159 => (if t159 = true then (some x8) else (slices_IndexFunc_int64_int64_AT_impl_ValidMatrix_1.l0d x0 x7 (wrap64 (x8 + 1)) x49000 x49001))) else (none)) else (none)) else (some (-1)) := by
  refine IsLim.unique (slices_IndexFunc_int64_int64_AT_impl_ValidMatrix_1.l0lim _ _ _ _ _) ?_
  refine IsLim.shift (by rfl) ?_
  simp only [slices_IndexFunc_int64_int64_AT_impl_ValidMatrix_1.l0]
  repeat' (first | exact IsLim.const _ | refine IsLim.ite ?_ ?_ | refine IsLim.bind ?_ (fun _ => ?_) | exact slices_IndexFunc_int64_int64_AT_impl_ValidMatrix_1.l0lim ..)
noncomputable def slices_IndexFunc_int64_int64_AT_impl_ValidMatrix_1.d (l0 : List Int) (a1_0 : Int) (l1_1 : List Int) : Option (Int) := lim (fun k => slices_IndexFunc_int64_int64_AT_impl_ValidMatrix_1.f k l0 a1_0 l1_1)
theorem slices_IndexFunc_int64_int64_AT_impl_ValidMatrix_1.lim (l0 : List Int) (a1_0 : Int) (l1_1 : List Int) : IsLim (fun k => slices_IndexFunc_int64_int64_AT_impl_ValidMatrix_1.f k l0 a1_0 l1_1) (slices_IndexFunc_int64_int64_AT_impl_ValidMatrix_1.d l0 a1_0 l1_1) := lim_spec (fun k => slices_IndexFunc_int64_int64_AT_impl_ValidMatrix_1.mono l0 a1_0 l1_1 k)
theorem slices_IndexFunc_int64_int64_AT_impl_ValidMatrix_1.d_eq (l0 : List Int) (a1_0 : Int) (l1_1 : List Int) : slices_IndexFunc_int64_int64_AT_impl_ValidMatrix_1.d l0 a1_0 l1_1 = slices_IndexFunc_int64_int64_AT_impl_ValidMatrix_1.l0d l0 (l0.length : Int) 0 a1_0 l1_1 := by
  refine IsLim.unique (slices_IndexFunc_int64_int64_AT_impl_ValidMatrix_1.lim _ _ _) ?_
  unfold slices_IndexFunc_int64_int64_AT_impl_ValidMatrix_1.f
  repeat' (first | exact IsLim.const _ | refine IsLim.ite ?_ ?_ | refine IsLim.bind ?_ (fun _ => ?_) | exact slices_IndexFunc_int64_int64_AT_impl_ValidMatrix_1.l0lim ..)
noncomputable def slices_ContainsFunc_int64_int64_AT_impl_ValidMatrix_1.d (l0 : List Int) (a1_0 : Int) (l1_1 : List Int) : Option (Bool) := lim (fun k => slices_ContainsFunc_int64_int64_AT_impl_ValidMatrix_1.f k l0 a1_0 l1_1)
theorem slices_ContainsFunc_int64_int64_AT_impl_ValidMatrix_1.lim (l0 : List Int) (a1_0 : Int) (l1_1 : List Int) : IsLim (fun k => slices_ContainsFunc_int64_int64_AT_impl_ValidMatrix_1.f k l0 a1_0 l1_1) (slices_ContainsFunc_int64_int64_AT_impl_ValidMatrix_1.d l0 a1_0 l1_1) := lim_spec (fun k => slices_ContainsFunc_int64_int64_AT_impl_ValidMatrix_1.mono l0 a1_0 l1_1 k)
theorem slices_ContainsFunc_int64_int64_AT_impl_ValidMatrix_1.d_eq (l0 : List Int) (a1_0 : Int) (l1_1 : List Int) : slices_ContainsFunc_int64_int64_AT_impl_ValidMatrix_1.d l0 a1_0 l1_1 = (slices_IndexFunc_int64_int64_AT_impl_ValidMatrix_1.d l0 a1_0 l1_1).bind fun t160 => (some (decide (t160 ≥ 0))) := by
  refine IsLim.unique (slices_ContainsFunc_int64_int64_AT_impl_ValidMatrix_1.lim _ _ _) ?_
  unfold slices_ContainsFunc_int64_int64_AT_impl_ValidMatrix_1.f
  repeat' (first | exact IsLim.const _ | refine IsLim.ite ?_ ?_ | refine IsLim.bind ?_ (fun _ => ?_) | exact slices_IndexFunc_int64_int64_AT_impl_ValidMatrix_1.lim ..)
noncomputable def impl_ValidMatrix.d (a0_0 : Int) (l0_1 : List Int) : Option (Bool) := lim (fun k => impl_ValidMatrix.f k a0_0 l0_1)
theorem impl_ValidMatrix.lim (a0_0 : Int) (l0_1 : List Int) : IsLim (fun k => impl_ValidMatrix.f k a0_0 l0_1) (impl_ValidMatrix.d a0_0 l0_1) := lim_spec (fun k => impl_ValidMatrix.mono a0_0 l0_1 k)
theorem impl_ValidMatrix.d_eq (a0_0 : Int) (l0_1 : List Int) : impl_ValidMatrix.d a0_0 l0_1 = (impl_within.f a0_0 1 10).bind fun t162 => (if t162 = true then (if (l0_1.length : Int) ≤ 10 then ((slices_ContainsFunc_int64_int64_AT_impl_ValidMatrix_1.d l0_1 a0_0 l0_1).bind fun t163 => (some (!t163))) else (some false)) else (some false)) := by
  refine IsLim.unique (impl_ValidMatrix.lim _ _) ?_
  unfold impl_ValidMatrix.f
  repeat' (first | exact IsLim.const _ | refine IsLim.ite ?_ ?_ | refine IsLim.bind ?_ (fun _ => ?_) | exact slices_ContainsFunc_int64_int64_AT_impl_ValidMatrix_1.lim ..)
noncomputable def slices_IndexFunc_int64_int64_AT_impl_echelon_1.l0d (x0 : List Int) (x7 : Int) (x8 : Int) (x49000 : Int) : Option (Int) := lim (fun k => slices_IndexFunc_int64_int64_AT_impl_echelon_1.l0 k x0 x7 x8 x49000)
theorem slices_IndexFunc_int64_int64_AT_impl_echelon_1.l0lim (x0 : List Int) (x7 : Int) (x8 : Int) (x49000 : Int) : IsLim (fun k => slices_IndexFunc_int64_int64_AT_impl_echelon_1.l0 k x0 x7 x8 x49000) (slices_IndexFunc_int64_int64_AT_impl_echelon_1.l0d x0 x7 x8 x49000) := lim_spec (fun k => (slices_IndexFunc_int64_int64_AT_impl_echelon_1.mono_l k) x0 x7 x8 x49000)
theorem slices_IndexFunc_int64_int64_AT_impl_echelon_1.l0d_eq (x0 : List Int) (x7 : Int) (x8 : Int) (x49000 : Int) : slices_IndexFunc_int64_int64_AT_impl_echelon_1.l0d x0 x7 x8 x49000 = if x8 < x7 then (if 0 ≤ x8 then (if x8 < (x0.length : Int) then ((impl_echelon_1.f (rd x0 x8) x49000).bind fun t165 => (if t165 = true then (some x8) else (slices_IndexFunc_int64_int64_AT_impl_echelon_1.l0d x0 x7 (wrap64 (x8 + 1)) x49000))) else (none)) else (none)) else (some (-1)) := by
  refine IsLim.unique (slices_IndexFunc_int64_int64_AT_impl_echelon_1.l0lim _ _ _ _) ?_
  refine IsLim.shift (by rfl) ?_
  simp only [slices_IndexFunc_int64_int64_AT_impl_echelon_1.l0]
  repeat' (first | exact IsLim.const _ | refine IsLim.ite ?_ ?_ | refine IsLim.bind ?_ (fun _ => ?_) | exact slices_IndexFunc_int64_int64_AT_impl_echelon_1.l0lim ..)
noncomputable def slices_IndexFunc_int64_int64_AT_impl_echelon_1.d (l0 : List Int) (a1_0 : Int) : Option (Int) := lim (fun k => slices_IndexFunc_int64_int64_AT_impl_echelon_1.f k l0 a1_0)
theorem slices_IndexFunc_int64_int64_AT_impl_echelon_1.lim (l0 : List Int) (a1_0 : Int) : IsLim (fun k => slices_IndexFunc_int64_int64_AT_impl_echelon_1.f k l0 a1_0) (slices_IndexFunc_int64_int64_AT_impl_echelon_1.d l0 a1_0) := lim_spec (fun k => slices_IndexFunc_int64_int64_AT_impl_echelon_1.mono l0 a1_0 k)
theorem slices_IndexFunc_int64_int64_AT_impl_echelon_1.d_eq (l0 : List Int) (a1_0 : Int) : slices_IndexFunc_int64_int64_AT_impl_echelon_1.d l0 a1_0 = slices_IndexFunc_int64_int64_AT_impl_echelon_1.l0d l0 (l0.length : Int) 0 a1_0 := by
  refine IsLim.unique (slices_IndexFunc_int64_int64_AT_impl_echelon_1.lim _ _) ?_
  unfold slices_IndexFunc_int64_int64_AT_impl_echelon_1.f
  repeat' (first | exact IsLim.const _ | refine IsLim.ite ?_ ?_ | refine IsLim.bind ?_ (fun _ => ?_) | exact slices_IndexFunc_int64_int64_AT_impl_echelon_1.l0lim ..)
end Go.Proofs.Ythjfilmdobkmlaa.P
end
section
namespace Go.Proofs.Ythjfilmdobkmlaa.P
open Go.RowKit Go.Proofs.YthjfilmdobkmlaaW.PrintWords Go.Proofs.YthjfilmdobkmlaaW.PrintLast Go.Proofs.YthjfilmdobkmlaaW.PrintMore
set_option linter.unusedVariables false
set_option linter.unusedSimpArgs false
noncomputable def impl_echelon.l0d (x0 : List Int) (x3 : Int) (x170000 : Int) : Option (List Int) := lim (fun k => impl_echelon.l0 k x0 x3 x170000)
theorem impl_echelon.l0lim (x0 : List Int) (x3 : Int) (x170000 : Int) : IsLim (fun k => impl_echelon.l0 k x0 x3 x170000) (impl_echelon.l0d x0 x3 x170000) := lim_spec (fun k => (impl_echelon.mono_l k).1 x0 x3 x170000)
noncomputable def impl_echelon.j1d (x0 : List Int) (x3 : Int) (x16 : Bool) (x170000 : Int) : Option (List Int) := lim (fun k => impl_echelon.j1 k x0 x3 x16 x170000)
theorem impl_echelon.j1lim (x0 : List Int) (x3 : Int) (x16 : Bool) (x170000 : Int) : IsLim (fun k => impl_echelon.j1 k x0 x3 x16 x170000) (impl_echelon.j1d x0 x3 x16 x170000) := lim_spec (fun k => (impl_echelon.mono_l k).2.1 x0 x3 x16 x170000)
noncomputable def impl_echelon.l1d (x0 : List Int) (x3 : Int) (x45 : Int) (x46 : Int) (x170000 : Int) : Option (List Int) := lim (fun k => impl_echelon.l1 k x0 x3 x45 x46 x170000)
theorem impl_echelon.l1lim (x0 : List Int) (x3 : Int) (x45 : Int) (x46 : Int) (x170000 : Int) : IsLim (fun k => impl_echelon.l1 k x0 x3 x45 x46 x170000) (impl_echelon.l1d x0 x3 x45 x46 x170000) := lim_spec (fun k => (impl_echelon.mono_l k).2.2 x0 x3 x45 x46 x170000)
theorem impl_echelon.l0d_eq (x0 : List Int) (x3 : Int) (x170000 : Int) : impl_echelon.l0d x0 x3 x170000 = if x170000 < 62 then (impl_echelon.j1d x0 x3 (decide (x3 < (x0.length : Int))) x170000) else (impl_echelon.j1d x0 x3 false x170000) := by
  refine IsLim.unique (impl_echelon.l0lim _ _ _) ?_
  refine IsLim.shift (by rfl) ?_
  simp only [impl_echelon.l0]
  repeat' (first | exact IsLim.const _ | refine IsLim.ite ?_ ?_ | refine IsLim.bind ?_ (fun _ => ?_) | exact impl_echelon.j1lim ..)
theorem impl_echelon.j1d_eq (x0 : List Int) (x3 : Int) (x16 : Bool) (x170000 : Int) : impl_echelon.j1d x0 x3 x16 x170000 = if x16 = true then (if 0 ≤ x3 then (if x3 ≤ (x0.length : Int) then ((slices_IndexFunc_int64_int64_AT_impl_echelon_1.d (x0.drop (x3 : Int).toNat) x170000).bind fun t177 => (if t177 < 0 then (impl_echelon.l0d x0 x3 (wrap64 (x170000 + 1))) else (if 0 ≤ (wrap64 (x3 + t177)) then (if (wrap64 (x3 + t177)) < (x0.length : Int) then (if x3 < (x0.length : Int) then (impl_echelon.l1d ((x0.set (x3 : Int).toNat (rd x0 (wrap64 (x3 + t177)))).set ((wrap64 (x3 + t177)) : Int).toNat (rd x0 x3)) x3 (x0.length : Int) 0 x170000) else (none)) else (none)) else (none)))) else (none)) else (none)) else (if 0 ≤ x3 then (if x3 ≤ (x0.length : Int) then (some (x0.take (x3 : Int).toNat)) else (none)) else (none)) := by
  refine IsLim.unique (impl_echelon.j1lim _ _ _ _) ?_
  refine IsLim.shift (by rfl) ?_
  simp only [impl_echelon.j1]
  repeat' (first | exact IsLim.const _ | refine IsLim.ite ?_ ?_ | refine IsLim.bind ?_ (fun _ => ?_) | exact slices_IndexFunc_int64_int64_AT_impl_echelon_1.lim .. | exact impl_echelon.l0lim .. | exact impl_echelon.l1lim ..)
theorem impl_echelon.l1d_eq (x0 : List Int) (x3 : Int) (x45 : Int) (x46 : Int) (x170000 : Int) : impl_echelon.l1d x0 x3 x45 x46 x170000 = if x46 < x45 then (if x46 = x3 then (impl_echelon.l1d x0 x3 x45 (wrap64 (x46 + 1)) x170000) else (if 0 ≤ x46 then (if x46 < (x0.length : Int) then (if 0 ≤ x170000 then (if (Go.bits .and .i64 (shr .i64 (rd x0 x46) x170000) 1) = 1 then (if 0 ≤ x3 then (if x3 < (x0.length : Int) then (impl_echelon.l1d (x0.set (x46 : Int).toNat (Go.bits .xor .i64 (rd x0 x46) (rd x0 x3))) x3 x45 (wrap64 (x46 + 1)) x170000) else (none)) else (none)) else (impl_echelon.l1d x0 x3 x45 (wrap64 (x46 + 1)) x170000)) else (none)) else (none)) else (none))) else (impl_echelon.l0d x0 (wrap64 (x3 + 1)) (wrap64 (x170000 + 1))) := by
  refine IsLim.unique (impl_echelon.l1lim _ _ _ _ _) ?_
  refine IsLim.shift (by rfl) ?_
  simp only [impl_echelon.l1]
  repeat' (first | exact IsLim.const _ | refine IsLim.ite ?_ ?_ | refine IsLim.bind ?_ (fun _ => ?_) | exact impl_echelon.l1lim .. | exact impl_echelon.l0lim ..)
noncomputable def impl_echelon.d (l0 : List Int) : Option (List Int) := lim (fun k => impl_echelon.f k l0)
theorem impl_echelon.lim (l0 : List Int) : IsLim (fun k => impl_echelon.f k l0) (impl_echelon.d l0) := lim_spec (fun k => impl_echelon.mono l0 k)
theorem impl_echelon.d_eq (l0 : List Int) : impl_echelon.d l0 = (slices_Clone_int64_int64.f l0).bind fun t166 => (impl_echelon.l0d t166 0 0) := by
  refine IsLim.unique (impl_echelon.lim _) ?_
  unfold impl_echelon.f
  repeat' (first | exact IsLim.const _ | refine IsLim.ite ?_ ?_ | refine IsLim.bind ?_ (fun _ => ?_) | exact impl_echelon.l0lim ..)
end Go.Proofs.Ythjfilmdobkmlaa.P
end
section
namespace Go.Proofs.Ythjfilmdobkmlaa.P
open Go.RowKit Go.Proofs.YthjfilmdobkmlaaW.PrintWords Go.Proofs.YthjfilmdobkmlaaW.PrintLast Go.Proofs.YthjfilmdobkmlaaW.PrintMore
set_option linter.unusedVariables false
set_option linter.unusedSimpArgs false
noncomputable def impl_Matrix_form.d (a0_0 : Int) (l0_1 : List Int) : Option (Int × List Int) := lim (fun k => impl_Matrix_form.f k a0_0 l0_1)
theorem impl_Matrix_form.lim (a0_0 : Int) (l0_1 : List Int) : IsLim (fun k => impl_Matrix_form.f k a0_0 l0_1) (impl_Matrix_form.d a0_0 l0_1) := lim_spec (fun k => impl_Matrix_form.mono a0_0 l0_1 k)
theorem impl_Matrix_form.d_eq (a0_0 : Int) (l0_1 : List Int) : impl_Matrix_form.d a0_0 l0_1 = (impl_echelon.d l0_1).bind fun t196 => (some (a0_0, t196)) := by
  refine IsLim.unique (impl_Matrix_form.lim _ _) ?_
  unfold impl_Matrix_form.f
  repeat' (first | exact IsLim.const _ | refine IsLim.ite ?_ ?_ | refine IsLim.bind ?_ (fun _ => ?_) | exact impl_echelon.lim ..)
noncomputable def slices_Equal_int64_int64.l0d (x0 : List Int) (x1 : List Int) (x12 : Int) (x13 : Int) : Option (Bool) := lim (fun k => slices_Equal_int64_int64.l0 k x0 x1 x12 x13)
theorem slices_Equal_int64_int64.l0lim (x0 : List Int) (x1 : List Int) (x12 : Int) (x13 : Int) : IsLim (fun k => slices_Equal_int64_int64.l0 k x0 x1 x12 x13) (slices_Equal_int64_int64.l0d x0 x1 x12 x13) := lim_spec (fun k => (slices_Equal_int64_int64.mono_l k) x0 x1 x12 x13)
theorem slices_Equal_int64_int64.l0d_eq (x0 : List Int) (x1 : List Int) (x12 : Int) (x13 : Int) : slices_Equal_int64_int64.l0d x0 x1 x12 x13 = if x13 < x12 then (if 0 ≤ x13 then (if x13 < (x0.length : Int) then (if x13 < (x1.length : Int) then (if (rd x0 x13) = (rd x1 x13) then (slices_Equal_int64_int64.l0d x0 x1 x12 (wrap64 (x13 + 1))) else (some false)) else (none)) else (none)) else (none)) else (some true) := by
  refine IsLim.unique (slices_Equal_int64_int64.l0lim _ _ _ _) ?_
  refine IsLim.shift (by rfl) ?_
  simp only [slices_Equal_int64_int64.l0]
  repeat' (first | exact IsLim.const _ | refine IsLim.ite ?_ ?_ | refine IsLim.bind ?_ (fun _ => ?_) | exact slices_Equal_int64_int64.l0lim ..)
noncomputable def slices_Equal_int64_int64.d (l0 : List Int) (l1 : List Int) : Option (Bool) := lim (fun k => slices_Equal_int64_int64.f k l0 l1)
theorem slices_Equal_int64_int64.lim (l0 : List Int) (l1 : List Int) : IsLim (fun k => slices_Equal_int64_int64.f k l0 l1) (slices_Equal_int64_int64.d l0 l1) := lim_spec (fun k => slices_Equal_int64_int64.mono l0 l1 k)
theorem slices_Equal_int64_int64.d_eq (l0 : List Int) (l1 : List Int) : slices_Equal_int64_int64.d l0 l1 = if (l0.length : Int) = (l1.length : Int) then (slices_Equal_int64_int64.l0d l0 l1 (l0.length : Int) 0) else (some false) := by
  refine IsLim.unique (slices_Equal_int64_int64.lim _ _) ?_
  unfold slices_Equal_int64_int64.f
  repeat' (first | exact IsLim.const _ | refine IsLim.ite ?_ ?_ | refine IsLim.bind ?_ (fun _ => ?_) | exact slices_Equal_int64_int64.l0lim ..)
noncomputable def impl_IsSpace.d (a0_0 : Int) (l0_1 : List Int) : Option (Bool) := lim (fun k => impl_IsSpace.f k a0_0 l0_1)
theorem impl_IsSpace.lim (a0_0 : Int) (l0_1 : List Int) : IsLim (fun k => impl_IsSpace.f k a0_0 l0_1) (impl_IsSpace.d a0_0 l0_1) := lim_spec (fun k => impl_IsSpace.mono a0_0 l0_1 k)
theorem impl_IsSpace.d_eq (a0_0 : Int) (l0_1 : List Int) : impl_IsSpace.d a0_0 l0_1 = (impl_ValidMatrix.d a0_0 l0_1).bind fun t216 => (if t216 = true then ((impl_echelon.d l0_1).bind fun t217 => ((slices_Equal_int64_int64.d t217 l0_1).bind fun t220 => (some t220))) else (some false)) := by
  refine IsLim.unique (impl_IsSpace.lim _ _) ?_
  unfold impl_IsSpace.f
  repeat' (first | exact IsLim.const _ | refine IsLim.ite ?_ ?_ | refine IsLim.bind ?_ (fun _ => ?_) | exact impl_ValidMatrix.lim .. | exact impl_echelon.lim .. | exact slices_Equal_int64_int64.lim ..)
noncomputable def spec_l00Same.l0d (x0 : List Int) (x1 : List Int) (x5 : Int) : Option (Bool) := lim (fun k => spec_l00Same.l0 k x0 x1 x5)
theorem spec_l00Same.l0lim (x0 : List Int) (x1 : List Int) (x5 : Int) : IsLim (fun k => spec_l00Same.l0 k x0 x1 x5) (spec_l00Same.l0d x0 x1 x5) := lim_spec (fun k => (spec_l00Same.mono_l k) x0 x1 x5)
theorem spec_l00Same.l0d_eq (x0 : List Int) (x1 : List Int) (x5 : Int) : spec_l00Same.l0d x0 x1 x5 = if x5 < (x0.length : Int) then (if 0 ≤ x5 then (if x5 < (x1.length : Int) then (if (rd x0 x5) = (rd x1 x5) then (spec_l00Same.l0d x0 x1 (wrap64 (x5 + 1))) else (some false)) else (none)) else (none)) else (some true) := by
  refine IsLim.unique (spec_l00Same.l0lim _ _ _) ?_
  refine IsLim.shift (by rfl) ?_
  simp only [spec_l00Same.l0]
  repeat' (first | exact IsLim.const _ | refine IsLim.ite ?_ ?_ | refine IsLim.bind ?_ (fun _ => ?_) | exact spec_l00Same.l0lim ..)
noncomputable def spec_l00Same.d (l0 : List Int) (l1 : List Int) : Option (Bool) := lim (fun k => spec_l00Same.f k l0 l1)
theorem spec_l00Same.lim (l0 : List Int) (l1 : List Int) : IsLim (fun k => spec_l00Same.f k l0 l1) (spec_l00Same.d l0 l1) := lim_spec (fun k => spec_l00Same.mono l0 l1 k)
theorem spec_l00Same.d_eq (l0 : List Int) (l1 : List Int) : spec_l00Same.d l0 l1 = if (l0.length : Int) = (l1.length : Int) then (spec_l00Same.l0d l0 l1 0) else (some false) := by
  refine IsLim.unique (spec_l00Same.lim _ _) ?_
  unfold spec_l00Same.f
  repeat' (first | exact IsLim.const _ | refine IsLim.ite ?_ ?_ | refine IsLim.bind ?_ (fun _ => ?_) | exact spec_l00Same.l0lim ..)
end Go.Proofs.Ythjfilmdobkmlaa.P
end
section
namespace Go.Proofs.Ythjfilmdobkmlaa.P
open Go.RowKit Go.Proofs.YthjfilmdobkmlaaW.PrintWords Go.Proofs.YthjfilmdobkmlaaW.PrintLast Go.Proofs.YthjfilmdobkmlaaW.PrintMore
set_option linter.unusedVariables false
set_option linter.unusedSimpArgs false
end Go.Proofs.Ythjfilmdobkmlaa.P
end
section
namespace Go.Proofs.Ythjfilmdobkmlaa.P
open Go.RowKit Go.Proofs.YthjfilmdobkmlaaW.PrintWords Go.Proofs.YthjfilmdobkmlaaW.PrintLast Go.Proofs.YthjfilmdobkmlaaW.PrintMore
set_option linter.unusedVariables false
set_option linter.unusedSimpArgs false
noncomputable def spec_l02Drawn.l0d (x1 : Int) (x8 : Int) (x1000 : List Int) (x1001 : Int) (x1002 : Int) (x114000 : Int) (x114001 : List Int) : Option (Int × List Int × Int × Int) := lim (fun k => spec_l02Drawn.l0 k x1 x8 x1000 x1001 x1002 x114000 x114001)
theorem spec_l02Drawn.l0lim (x1 : Int) (x8 : Int) (x1000 : List Int) (x1001 : Int) (x1002 : Int) (x114000 : Int) (x114001 : List Int) : IsLim (fun k => spec_l02Drawn.l0 k x1 x8 x1000 x1001 x1002 x114000 x114001) (spec_l02Drawn.l0d x1 x8 x1000 x1001 x1002 x114000 x114001) := lim_spec (fun k => (spec_l02Drawn.mono_l k).1 x1 x8 x1000 x1001 x1002 x114000 x114001)
noncomputable def spec_l02Drawn.j1d (x1 : Int) (x8 : Int) (x9 : Int) (x32 : Bool) (x1000 : List Int) (x1001 : Int) (x1002 : Int) (x114000 : Int) (x114001 : List Int) : Option (Int × List Int × Int × Int) := lim (fun k => spec_l02Drawn.j1 k x1 x8 x9 x32 x1000 x1001 x1002 x114000 x114001)
theorem spec_l02Drawn.j1lim (x1 : Int) (x8 : Int) (x9 : Int) (x32 : Bool) (x1000 : List Int) (x1001 : Int) (x1002 : Int) (x114000 : Int) (x114001 : List Int) : IsLim (fun k => spec_l02Drawn.j1 k x1 x8 x9 x32 x1000 x1001 x1002 x114000 x114001) (spec_l02Drawn.j1d x1 x8 x9 x32 x1000 x1001 x1002 x114000 x114001) := lim_spec (fun k => (spec_l02Drawn.mono_l k).2 x1 x8 x9 x32 x1000 x1001 x1002 x114000 x114001)
theorem spec_l02Drawn.l0d_eq (x1 : Int) (x8 : Int) (x1000 : List Int) (x1001 : Int) (x1002 : Int) (x114000 : Int) (x114001 : List Int) : spec_l02Drawn.l0d x1 x8 x1000 x1001 x1002 x114000 x114001 = if x8 > 0 then (if 0 ≤ (IntKind.u64.wrap (x1)) then ((spec_l00Src_pick.f x1000 x1001 x1002 (shl .i64 1 (IntKind.u64.wrap (x1)))).bind fun bt117 => ((spec_l00Src_one.f x1000 bt117.2.1 bt117.2.2 3).bind fun bt120 => (if bt120.1 = true then (spec_l02Drawn.j1d x1 x8 bt117.1 (decide ((x114001.length : Int) > 0)) x1000 bt120.2.1 bt120.2.2 x114000 x114001) else (spec_l02Drawn.j1d x1 x8 bt117.1 false x1000 bt120.2.1 bt120.2.2 x114000 x114001)))) else (none)) else (some (x114000, x114001, x1001, x1002)) := by
  refine IsLim.unique (spec_l02Drawn.l0lim _ _ _ _ _ _ _) ?_
  refine IsLim.shift (by rfl) ?_
  simp only [spec_l02Drawn.l0]
  repeat' (first | exact IsLim.const _ | refine IsLim.ite ?_ ?_ | refine IsLim.bind ?_ (fun _ => ?_) | exact spec_l02Drawn.j1lim ..)
theorem spec_l02Drawn.j1d_eq (x1 : Int) (x8 : Int) (x9 : Int) (x32 : Bool) (x1000 : List Int) (x1001 : Int) (x1002 : Int) (x114000 : Int) (x114001 : List Int) : spec_l02Drawn.j1d x1 x8 x9 x32 x1000 x1001 x1002 x114000 x114001 = if x32 = true then ((spec_l00Src_pick.f x1000 x1001 x1002 (x114001.length : Int)).bind fun bt123 => (if 0 ≤ bt123.1 then (if bt123.1 < (x114001.length : Int) then ((spec_l00Src_one.f x1000 bt123.2.1 bt123.2.2 2).bind fun bt127 => (if bt127.1 = true then ((spec_l00Src_pick.f x1000 bt127.2.1 bt127.2.2 (x114001.length : Int)).bind fun bt130 => (if 0 ≤ bt130.1 then (if bt130.1 < (x114001.length : Int) then (if x114001.length < 17592186044416 then (spec_l02Drawn.l0d x1 (wrap64 (x8 - 1)) x1000 bt130.2.1 bt130.2.2 x114000 (x114001 ++ [Go.bits .xor .i64 (rd x114001 bt123.1) (rd x114001 bt130.1)])) else (none)) else (none)) else (none))) else (if x114001.length < 17592186044416 then (spec_l02Drawn.l0d x1 (wrap64 (x8 - 1)) x1000 bt127.2.1 bt127.2.2 x114000 (x114001 ++ [rd x114001 bt123.1])) else (none)))) else (none)) else (none))) else (if x114001.length < 17592186044416 then (spec_l02Drawn.l0d x1 (wrap64 (x8 - 1)) x1000 x1001 x1002 x114000 (x114001 ++ [x9])) else (none)) := by
  refine IsLim.unique (spec_l02Drawn.j1lim _ _ _ _ _ _ _ _ _) ?_
  refine IsLim.shift (by rfl) ?_
  simp only [spec_l02Drawn.j1]
  repeat' (first | exact IsLim.const _ | refine IsLim.ite ?_ ?_ | refine IsLim.bind ?_ (fun _ => ?_) | exact spec_l02Drawn.l0lim ..)
noncomputable def spec_l02Drawn.d (s0_0 : List Int) (s0_1 : Int) (s0_2 : Int) (a1 : Int) (a2 : Int) : Option (Int × List Int × Int × Int) := lim (fun k => spec_l02Drawn.f k s0_0 s0_1 s0_2 a1 a2)
theorem spec_l02Drawn.lim (s0_0 : List Int) (s0_1 : Int) (s0_2 : Int) (a1 : Int) (a2 : Int) : IsLim (fun k => spec_l02Drawn.f k s0_0 s0_1 s0_2 a1 a2) (spec_l02Drawn.d s0_0 s0_1 s0_2 a1 a2) := lim_spec (fun k => spec_l02Drawn.mono s0_0 s0_1 s0_2 a1 a2 k)
theorem spec_l02Drawn.d_eq (s0_0 : List Int) (s0_1 : Int) (s0_2 : Int) (a1 : Int) (a2 : Int) : spec_l02Drawn.d s0_0 s0_1 s0_2 a1 a2 = (spec_l00Src_pick.f s0_0 s0_1 s0_2 (wrap64 (a2 + 1))).bind fun bt114 => (spec_l02Drawn.l0d a1 bt114.1 s0_0 bt114.2.1 bt114.2.2 a1 ([] : List Int)) := by
  refine IsLim.unique (spec_l02Drawn.lim _ _ _ _ _) ?_
  unfold spec_l02Drawn.f
  repeat' (first | exact IsLim.const _ | refine IsLim.ite ?_ ?_ | refine IsLim.bind ?_ (fun _ => ?_) | exact spec_l02Drawn.l0lim ..)
end Go.Proofs.Ythjfilmdobkmlaa.P
end
section
namespace Go.Proofs.Ythjfilmdobkmlaa.P
open Go.RowKit Go.Proofs.YthjfilmdobkmlaaW.PrintWords Go.Proofs.YthjfilmdobkmlaaW.PrintLast Go.Proofs.YthjfilmdobkmlaaW.PrintMore
set_option linter.unusedVariables false
set_option linter.unusedSimpArgs false
noncomputable def spec_l02Echelon.l0d (x0 : Int) (x5 : List Int) (x6 : List Int) (x7 : Int) : Option (List Int) := lim (fun k => spec_l02Echelon.l0 k x0 x5 x6 x7)
theorem spec_l02Echelon.l0lim (x0 : Int) (x5 : List Int) (x6 : List Int) (x7 : Int) : IsLim (fun k => spec_l02Echelon.l0 k x0 x5 x6 x7) (spec_l02Echelon.l0d x0 x5 x6 x7) := lim_spec (fun k => (spec_l02Echelon.mono_l k).1 x0 x5 x6 x7)
noncomputable def spec_l02Echelon.l1d (x0 : Int) (x5 : List Int) (x6 : List Int) (x7 : Int) (x8 : Int) (x9 : Int) : Option (List Int) := lim (fun k => spec_l02Echelon.l1 k x0 x5 x6 x7 x8 x9)
theorem spec_l02Echelon.l1lim (x0 : Int) (x5 : List Int) (x6 : List Int) (x7 : Int) (x8 : Int) (x9 : Int) : IsLim (fun k => spec_l02Echelon.l1 k x0 x5 x6 x7 x8 x9) (spec_l02Echelon.l1d x0 x5 x6 x7 x8 x9) := lim_spec (fun k => (spec_l02Echelon.mono_l k).2.1 x0 x5 x6 x7 x8 x9)
noncomputable def spec_l02Echelon.j2d (x0 : Int) (x5 : List Int) (x6 : List Int) (x7 : Int) (x8 : Int) (x9 : Int) (x28 : Bool) : Option (List Int) := lim (fun k => spec_l02Echelon.j2 k x0 x5 x6 x7 x8 x9 x28)
theorem spec_l02Echelon.j2lim (x0 : Int) (x5 : List Int) (x6 : List Int) (x7 : Int) (x8 : Int) (x9 : Int) (x28 : Bool) : IsLim (fun k => spec_l02Echelon.j2 k x0 x5 x6 x7 x8 x9 x28) (spec_l02Echelon.j2d x0 x5 x6 x7 x8 x9 x28) := lim_spec (fun k => (spec_l02Echelon.mono_l k).2.2.1 x0 x5 x6 x7 x8 x9 x28)
noncomputable def spec_l02Echelon.l2d (x0 : Int) (x5 : List Int) (x6 : List Int) (x7 : Int) (x10 : Int) (x11 : Int) : Option (List Int) := lim (fun k => spec_l02Echelon.l2 k x0 x5 x6 x7 x10 x11)
theorem spec_l02Echelon.l2lim (x0 : Int) (x5 : List Int) (x6 : List Int) (x7 : Int) (x10 : Int) (x11 : Int) : IsLim (fun k => spec_l02Echelon.l2 k x0 x5 x6 x7 x10 x11) (spec_l02Echelon.l2d x0 x5 x6 x7 x10 x11) := lim_spec (fun k => (spec_l02Echelon.mono_l k).2.2.2.1 x0 x5 x6 x7 x10 x11)
noncomputable def spec_l02Echelon.l3d (x0 : Int) (x5 : List Int) (x6 : List Int) (x7 : Int) (x10 : Int) (x12 : Int) : Option (List Int) := lim (fun k => spec_l02Echelon.l3 k x0 x5 x6 x7 x10 x12)
theorem spec_l02Echelon.l3lim (x0 : Int) (x5 : List Int) (x6 : List Int) (x7 : Int) (x10 : Int) (x12 : Int) : IsLim (fun k => spec_l02Echelon.l3 k x0 x5 x6 x7 x10 x12) (spec_l02Echelon.l3d x0 x5 x6 x7 x10 x12) := lim_spec (fun k => (spec_l02Echelon.mono_l k).2.2.2.2 x0 x5 x6 x7 x10 x12)
theorem spec_l02Echelon.l0d_eq (x0 : Int) (x5 : List Int) (x6 : List Int) (x7 : Int) : spec_l02Echelon.l0d x0 x5 x6 x7 = if x7 < x0 then (spec_l02Echelon.l1d x0 x5 x6 x7 (-1) 0) else (some x6) := by
  refine IsLim.unique (spec_l02Echelon.l0lim _ _ _ _) ?_
  refine IsLim.shift (by rfl) ?_
  simp only [spec_l02Echelon.l0]
  repeat' (first | exact IsLim.const _ | refine IsLim.ite ?_ ?_ | refine IsLim.bind ?_ (fun _ => ?_) | exact spec_l02Echelon.l1lim ..)
theorem spec_l02Echelon.l1d_eq (x0 : Int) (x5 : List Int) (x6 : List Int) (x7 : Int) (x8 : Int) (x9 : Int) : spec_l02Echelon.l1d x0 x5 x6 x7 x8 x9 = if x9 < (x5.length : Int) then (spec_l02Echelon.j2d x0 x5 x6 x7 x8 x9 (decide (x8 < 0))) else (spec_l02Echelon.j2d x0 x5 x6 x7 x8 x9 false) := by
  refine IsLim.unique (spec_l02Echelon.l1lim _ _ _ _ _ _) ?_
  refine IsLim.shift (by rfl) ?_
  simp only [spec_l02Echelon.l1]
  repeat' (first | exact IsLim.const _ | refine IsLim.ite ?_ ?_ | refine IsLim.bind ?_ (fun _ => ?_) | exact spec_l02Echelon.j2lim ..)
theorem spec_l02Echelon.j2d_eq (x0 : Int) (x5 : List Int) (x6 : List Int) (x7 : Int) (x8 : Int) (x9 : Int) (x28 : Bool) : spec_l02Echelon.j2d x0 x5 x6 x7 x8 x9 x28 = if x28 = true then (if 0 ≤ x9 then (if x9 < (x5.length : Int) then ((spec_l02Bit.f (rd x5 x9) x7).bind fun t236 => (if t236 = 1 then (spec_l02Echelon.l1d x0 x5 x6 x7 x9 (wrap64 (x9 + 1))) else (spec_l02Echelon.l1d x0 x5 x6 x7 x8 (wrap64 (x9 + 1))))) else (none)) else (none)) else (if x8 < 0 then (spec_l02Echelon.l0d x0 x5 x6 (wrap64 (x7 + 1))) else (if 0 ≤ x8 then (if x8 < (x5.length : Int) then (spec_l02Echelon.l2d x0 (x5.set (x8 : Int).toNat 0) x6 x7 (rd x5 x8) 0) else (none)) else (none))) := by
  refine IsLim.unique (spec_l02Echelon.j2lim _ _ _ _ _ _ _) ?_
  refine IsLim.shift (by rfl) ?_
  simp only [spec_l02Echelon.j2]
  repeat' (first | exact IsLim.const _ | refine IsLim.ite ?_ ?_ | refine IsLim.bind ?_ (fun _ => ?_) | exact spec_l02Echelon.l1lim .. | exact spec_l02Echelon.l0lim .. | exact spec_l02Echelon.l2lim ..)
theorem spec_l02Echelon.l2d_eq (x0 : Int) (x5 : List Int) (x6 : List Int) (x7 : Int) (x10 : Int) (x11 : Int) : spec_l02Echelon.l2d x0 x5 x6 x7 x10 x11 = if x11 < (x5.length : Int) then (if 0 ≤ x11 then ((spec_l02Bit.f (rd x5 x11) x7).bind fun t240 => (if t240 = 1 then (spec_l02Echelon.l2d x0 (x5.set (x11 : Int).toNat (Go.bits .xor .i64 (rd x5 x11) x10)) x6 x7 x10 (wrap64 (x11 + 1))) else (spec_l02Echelon.l2d x0 x5 x6 x7 x10 (wrap64 (x11 + 1))))) else (none)) else (spec_l02Echelon.l3d x0 x5 x6 x7 x10 0) := by
  refine IsLim.unique (spec_l02Echelon.l2lim _ _ _ _ _ _) ?_
  refine IsLim.shift (by rfl) ?_
  simp only [spec_l02Echelon.l2]
  repeat' (first | exact IsLim.const _ | refine IsLim.ite ?_ ?_ | refine IsLim.bind ?_ (fun _ => ?_) | exact spec_l02Echelon.l2lim .. | exact spec_l02Echelon.l3lim ..)
theorem spec_l02Echelon.l3d_eq (x0 : Int) (x5 : List Int) (x6 : List Int) (x7 : Int) (x10 : Int) (x12 : Int) : spec_l02Echelon.l3d x0 x5 x6 x7 x10 x12 = if x12 < (x6.length : Int) then (if 0 ≤ x12 then ((spec_l02Bit.f (rd x6 x12) x7).bind fun t244 => (if t244 = 1 then (spec_l02Echelon.l3d x0 x5 (x6.set (x12 : Int).toNat (Go.bits .xor .i64 (rd x6 x12) x10)) x7 x10 (wrap64 (x12 + 1))) else (spec_l02Echelon.l3d x0 x5 x6 x7 x10 (wrap64 (x12 + 1))))) else (none)) else (if x6.length < 17592186044416 then (spec_l02Echelon.l0d x0 x5 (x6 ++ [x10]) (wrap64 (x7 + 1))) else (none)) := by
  refine IsLim.unique (spec_l02Echelon.l3lim _ _ _ _ _ _) ?_
  refine IsLim.shift (by rfl) ?_
  simp only [spec_l02Echelon.l3]
  repeat' (first | exact IsLim.const _ | refine IsLim.ite ?_ ?_ | refine IsLim.bind ?_ (fun _ => ?_) | exact spec_l02Echelon.l3lim .. | exact spec_l02Echelon.l0lim ..)
noncomputable def spec_l02Echelon.d (a0 : Int) (l1 : List Int) : Option (List Int) := lim (fun k => spec_l02Echelon.f k a0 l1)
theorem spec_l02Echelon.lim (a0 : Int) (l1 : List Int) : IsLim (fun k => spec_l02Echelon.f k a0 l1) (spec_l02Echelon.d a0 l1) := lim_spec (fun k => spec_l02Echelon.mono a0 l1 k)
theorem spec_l02Echelon.d_eq (a0 : Int) (l1 : List Int) : spec_l02Echelon.d a0 l1 = (spec_l00Own.f l1).bind fun t229 => (spec_l02Echelon.l0d a0 t229 (([] : List Int)) 0) := by
  refine IsLim.unique (spec_l02Echelon.lim _ _) ?_
  unfold spec_l02Echelon.f
  repeat' (first | exact IsLim.const _ | refine IsLim.ite ?_ ?_ | refine IsLim.bind ?_ (fun _ => ?_) | exact spec_l02Echelon.l0lim ..)
end Go.Proofs.Ythjfilmdobkmlaa.P
end
section
namespace Go.Proofs.Ythjfilmdobkmlaa.P
open Go.RowKit Go.Proofs.YthjfilmdobkmlaaW.PrintWords Go.Proofs.YthjfilmdobkmlaaW.PrintLast Go.Proofs.YthjfilmdobkmlaaW.PrintMore
set_option linter.unusedVariables false
set_option linter.unusedSimpArgs false
noncomputable def spec_l02Ok.j0d (x17 : Bool) (x41000 : Int) (x41001 : List Int) : Option (Bool) := lim (fun k => spec_l02Ok.j0 k x17 x41000 x41001)
theorem spec_l02Ok.j0lim (x17 : Bool) (x41000 : Int) (x41001 : List Int) : IsLim (fun k => spec_l02Ok.j0 k x17 x41000 x41001) (spec_l02Ok.j0d x17 x41000 x41001) := lim_spec (fun k => (spec_l02Ok.mono_l k).1 x17 x41000 x41001)
noncomputable def spec_l02Ok.l0d (x3 : Int) (x41000 : Int) (x41001 : List Int) : Option (Bool) := lim (fun k => spec_l02Ok.l0 k x3 x41000 x41001)
theorem spec_l02Ok.l0lim (x3 : Int) (x41000 : Int) (x41001 : List Int) : IsLim (fun k => spec_l02Ok.l0 k x3 x41000 x41001) (spec_l02Ok.l0d x3 x41000 x41001) := lim_spec (fun k => (spec_l02Ok.mono_l k).2 x3 x41000 x41001)
theorem spec_l02Ok.j0d_eq (x17 : Bool) (x41000 : Int) (x41001 : List Int) : spec_l02Ok.j0d x17 x41000 x41001 = if x17 = true then (some false) else (spec_l02Ok.l0d 0 x41000 x41001) := by
  refine IsLim.unique (spec_l02Ok.j0lim _ _ _) ?_
  refine IsLim.shift (by rfl) ?_
  simp only [spec_l02Ok.j0]
  repeat' (first | exact IsLim.const _ | refine IsLim.ite ?_ ?_ | refine IsLim.bind ?_ (fun _ => ?_) | exact spec_l02Ok.l0lim ..)
theorem spec_l02Ok.l0d_eq (x3 : Int) (x41000 : Int) (x41001 : List Int) : spec_l02Ok.l0d x3 x41000 x41001 = if x3 < (x41001.length : Int) then (if 0 ≤ x3 then (if 0 ≤ (IntKind.u64.wrap (x41000)) then ((spec_l00In.f (rd x41001 x3) 0 (wrap64 ((shl .i64 1 (IntKind.u64.wrap (x41000))) - 1))).bind fun t252 => (if t252 = true then (spec_l02Ok.l0d (wrap64 (x3 + 1)) x41000 x41001) else (some false))) else (none)) else (none)) else (some true) := by
  refine IsLim.unique (spec_l02Ok.l0lim _ _ _) ?_
  refine IsLim.shift (by rfl) ?_
  simp only [spec_l02Ok.l0]
  repeat' (first | exact IsLim.const _ | refine IsLim.ite ?_ ?_ | refine IsLim.bind ?_ (fun _ => ?_) | exact spec_l02Ok.l0lim ..)
noncomputable def spec_l02Ok.d (a0_0 : Int) (l0_1 : List Int) : Option (Bool) := lim (fun k => spec_l02Ok.f k a0_0 l0_1)
theorem spec_l02Ok.lim (a0_0 : Int) (l0_1 : List Int) : IsLim (fun k => spec_l02Ok.f k a0_0 l0_1) (spec_l02Ok.d a0_0 l0_1) := lim_spec (fun k => spec_l02Ok.mono a0_0 l0_1 k)
theorem spec_l02Ok.d_eq (a0_0 : Int) (l0_1 : List Int) : spec_l02Ok.d a0_0 l0_1 = (spec_l00In.f a0_0 1 10).bind fun t250 => (if t250 = true then (spec_l02Ok.j0d (decide ((l0_1.length : Int) > 10)) a0_0 l0_1) else (spec_l02Ok.j0d true a0_0 l0_1)) := by
  refine IsLim.unique (spec_l02Ok.lim _ _) ?_
  unfold spec_l02Ok.f
  repeat' (first | exact IsLim.const _ | refine IsLim.ite ?_ ?_ | refine IsLim.bind ?_ (fun _ => ?_) | exact spec_l02Ok.j0lim ..)
noncomputable def spec_l02Space.d (a0_0 : Int) (l0_1 : List Int) : Option (Bool) := lim (fun k => spec_l02Space.f k a0_0 l0_1)
theorem spec_l02Space.lim (a0_0 : Int) (l0_1 : List Int) : IsLim (fun k => spec_l02Space.f k a0_0 l0_1) (spec_l02Space.d a0_0 l0_1) := lim_spec (fun k => spec_l02Space.mono a0_0 l0_1 k)
theorem spec_l02Space.d_eq (a0_0 : Int) (l0_1 : List Int) : spec_l02Space.d a0_0 l0_1 = (spec_l02Ok.d a0_0 l0_1).bind fun t253 => (if t253 = true then ((spec_l02Echelon.d a0_0 l0_1).bind fun t254 => ((spec_l00Same.d t254 l0_1).bind fun t257 => (some t257))) else (some false)) := by
  refine IsLim.unique (spec_l02Space.lim _ _) ?_
  unfold spec_l02Space.f
  repeat' (first | exact IsLim.const _ | refine IsLim.ite ?_ ?_ | refine IsLim.bind ?_ (fun _ => ?_) | exact spec_l02Ok.lim .. | exact spec_l02Echelon.lim .. | exact spec_l00Same.lim ..)
end Go.Proofs.Ythjfilmdobkmlaa.P
end
section
namespace Go.Proofs.Ythjfilmdobkmlaa.P
open Go.RowKit Go.Proofs.YthjfilmdobkmlaaW.PrintWords Go.Proofs.YthjfilmdobkmlaaW.PrintLast Go.Proofs.YthjfilmdobkmlaaW.PrintMore
set_option linter.unusedVariables false
set_option linter.unusedSimpArgs false
noncomputable def spec_IsSpace.d (a0_0 : Int) (l0_1 : List Int) : Option (Bool) := lim (fun k => spec_IsSpace.f k a0_0 l0_1)
theorem spec_IsSpace.lim (a0_0 : Int) (l0_1 : List Int) : IsLim (fun k => spec_IsSpace.f k a0_0 l0_1) (spec_IsSpace.d a0_0 l0_1) := lim_spec (fun k => spec_IsSpace.mono a0_0 l0_1 k)
theorem spec_IsSpace.d_eq (a0_0 : Int) (l0_1 : List Int) : spec_IsSpace.d a0_0 l0_1 = (spec_l02Space.d a0_0 l0_1).bind fun t259 => (some t259) := by
  refine IsLim.unique (spec_IsSpace.lim _ _) ?_
  unfold spec_IsSpace.f
  repeat' (first | exact IsLim.const _ | refine IsLim.ite ?_ ?_ | refine IsLim.bind ?_ (fun _ => ?_) | exact spec_l02Space.lim ..)
noncomputable def spec_SameMatrix.d (a0_0 : Int) (l0_1 : List Int) (a1_0 : Int) (l1_1 : List Int) : Option (Bool) := lim (fun k => spec_SameMatrix.f k a0_0 l0_1 a1_0 l1_1)
theorem spec_SameMatrix.lim (a0_0 : Int) (l0_1 : List Int) (a1_0 : Int) (l1_1 : List Int) : IsLim (fun k => spec_SameMatrix.f k a0_0 l0_1 a1_0 l1_1) (spec_SameMatrix.d a0_0 l0_1 a1_0 l1_1) := lim_spec (fun k => spec_SameMatrix.mono a0_0 l0_1 a1_0 l1_1 k)
theorem spec_SameMatrix.d_eq (a0_0 : Int) (l0_1 : List Int) (a1_0 : Int) (l1_1 : List Int) : spec_SameMatrix.d a0_0 l0_1 a1_0 l1_1 = if a0_0 = a1_0 then ((spec_l00Same.d l0_1 l1_1).bind fun t262 => (some t262)) else (some false) := by
  refine IsLim.unique (spec_SameMatrix.lim _ _ _ _) ?_
  unfold spec_SameMatrix.f
  repeat' (first | exact IsLim.const _ | refine IsLim.ite ?_ ?_ | refine IsLim.bind ?_ (fun _ => ?_) | exact spec_l00Same.lim ..)
end Go.Proofs.Ythjfilmdobkmlaa.P
end
section
namespace Go.Proofs.Ythjfilmdobkmlaa.P
open Go.RowKit Go.Proofs.YthjfilmdobkmlaaW.PrintWords Go.Proofs.YthjfilmdobkmlaaW.PrintLast Go.Proofs.YthjfilmdobkmlaaW.PrintMore
set_option linter.unusedVariables false
set_option linter.unusedSimpArgs false
noncomputable def spec_A2Matrix.d (l0 : List Int) (a1 : Int) (a2 : Int) : Option (Int × List Int) := lim (fun k => spec_A2Matrix.f k l0 a1 a2)
theorem spec_A2Matrix.lim (l0 : List Int) (a1 : Int) (a2 : Int) : IsLim (fun k => spec_A2Matrix.f k l0 a1 a2) (spec_A2Matrix.d l0 a1 a2) := lim_spec (fun k => spec_A2Matrix.mono l0 a1 a2 k)
theorem spec_A2Matrix.d_eq (l0 : List Int) (a1 : Int) (a2 : Int) : spec_A2Matrix.d l0 a1 a2 = (spec_l00From.f l0).bind fun bt145 => ((spec_l02Drawn.d bt145.1 bt145.2.1 bt145.2.2 a1 a2).bind fun bt149 => (some (bt149.1, bt149.2.1))) := by
  refine IsLim.unique (spec_A2Matrix.lim _ _ _) ?_
  unfold spec_A2Matrix.f
  repeat' (first | exact IsLim.const _ | refine IsLim.ite ?_ ?_ | refine IsLim.bind ?_ (fun _ => ?_) | exact spec_l02Drawn.lim ..)
noncomputable def impl_RankOf.d (a0_0 : Int) (l0_1 : List Int) : Option (Int × Int) := lim (fun k => impl_RankOf.f k a0_0 l0_1)
theorem impl_RankOf.lim (a0_0 : Int) (l0_1 : List Int) : IsLim (fun k => impl_RankOf.f k a0_0 l0_1) (impl_RankOf.d a0_0 l0_1) := lim_spec (fun k => impl_RankOf.mono a0_0 l0_1 k)
theorem impl_RankOf.d_eq (a0_0 : Int) (l0_1 : List Int) : impl_RankOf.d a0_0 l0_1 = (impl_ValidMatrix.d a0_0 l0_1).bind fun t189 => (if t189 = true then ((impl_echelon.d l0_1).bind fun t190 => ((impl_size_int64.f t190).bind fun t193 => (some (t193, 0)))) else (some (0, 1))) := by
  refine IsLim.unique (impl_RankOf.lim _ _) ?_
  unfold impl_RankOf.f
  repeat' (first | exact IsLim.const _ | refine IsLim.ite ?_ ?_ | refine IsLim.bind ?_ (fun _ => ?_) | exact impl_ValidMatrix.lim .. | exact impl_echelon.lim ..)
noncomputable def impl_EchelonOf.d (a0_0 : Int) (l0_1 : List Int) : Option (Int × List Int × Int) := lim (fun k => impl_EchelonOf.f k a0_0 l0_1)
theorem impl_EchelonOf.lim (a0_0 : Int) (l0_1 : List Int) : IsLim (fun k => impl_EchelonOf.f k a0_0 l0_1) (impl_EchelonOf.d a0_0 l0_1) := lim_spec (fun k => impl_EchelonOf.mono a0_0 l0_1 k)
theorem impl_EchelonOf.d_eq (a0_0 : Int) (l0_1 : List Int) : impl_EchelonOf.d a0_0 l0_1 = (impl_ValidMatrix.d a0_0 l0_1).bind fun t201 => (if t201 = true then ((impl_Matrix_form.d a0_0 l0_1).bind fun bt202 => (some (bt202.1, bt202.2, 0))) else (some (0, ([] : List Int), 1))) := by
  refine IsLim.unique (impl_EchelonOf.lim _ _) ?_
  unfold impl_EchelonOf.f
  repeat' (first | exact IsLim.const _ | refine IsLim.ite ?_ ?_ | refine IsLim.bind ?_ (fun _ => ?_) | exact impl_ValidMatrix.lim .. | exact impl_Matrix_form.lim ..)
noncomputable def impl_SpaceOf.d (a0_0 : Int) (l0_1 : List Int) : Option (Int × List Int × Int) := lim (fun k => impl_SpaceOf.f k a0_0 l0_1)
theorem impl_SpaceOf.lim (a0_0 : Int) (l0_1 : List Int) : IsLim (fun k => impl_SpaceOf.f k a0_0 l0_1) (impl_SpaceOf.d a0_0 l0_1) := lim_spec (fun k => impl_SpaceOf.mono a0_0 l0_1 k)
theorem impl_SpaceOf.d_eq (a0_0 : Int) (l0_1 : List Int) : impl_SpaceOf.d a0_0 l0_1 = (impl_EchelonOf.d a0_0 l0_1).bind fun bt208 => (some (bt208.1, bt208.2.1, bt208.2.2)) := by
  refine IsLim.unique (impl_SpaceOf.lim _ _) ?_
  unfold impl_SpaceOf.f
  repeat' (first | exact IsLim.const _ | refine IsLim.ite ?_ ?_ | refine IsLim.bind ?_ (fun _ => ?_) | exact impl_EchelonOf.lim ..)
noncomputable def impl_matricesCode_1.d (a0_0 : Int) (l0_1 : List Int) : Option (Bool) := lim (fun k => impl_matricesCode_1.f k a0_0 l0_1)
theorem impl_matricesCode_1.lim (a0_0 : Int) (l0_1 : List Int) : IsLim (fun k => impl_matricesCode_1.f k a0_0 l0_1) (impl_matricesCode_1.d a0_0 l0_1) := lim_spec (fun k => impl_matricesCode_1.mono a0_0 l0_1 k)
theorem impl_matricesCode_1.d_eq (a0_0 : Int) (l0_1 : List Int) : impl_matricesCode_1.d a0_0 l0_1 = (impl_ValidMatrix.d a0_0 l0_1).bind fun t266 => (some (!t266)) := by
  refine IsLim.unique (impl_matricesCode_1.lim _ _) ?_
  unfold impl_matricesCode_1.f
  repeat' (first | exact IsLim.const _ | refine IsLim.ite ?_ ?_ | refine IsLim.bind ?_ (fun _ => ?_) | exact impl_ValidMatrix.lim ..)
noncomputable def impl_Matrix_AT_impl_matricesCode_1_105.l0d (x0 : List (S27)) (x7 : Int) (x8 : Int) : Option (Int) := lim (fun k => impl_Matrix_AT_impl_matricesCode_1_105.l0 k x0 x7 x8)
theorem impl_Matrix_AT_impl_matricesCode_1_105.l0lim (x0 : List (S27)) (x7 : Int) (x8 : Int) : IsLim (fun k => impl_Matrix_AT_impl_matricesCode_1_105.l0 k x0 x7 x8) (impl_Matrix_AT_impl_matricesCode_1_105.l0d x0 x7 x8) := lim_spec (fun k => (impl_Matrix_AT_impl_matricesCode_1_105.mono_l k) x0 x7 x8)
theorem impl_Matrix_AT_impl_matricesCode_1_105.l0d_eq (x0 : List (S27)) (x7 : Int) (x8 : Int) : impl_Matrix_AT_impl_matricesCode_1_105.l0d x0 x7 x8 = if x8 < x7 then (if 0 ≤ x8 then (if x8 < (x0.length : Int) then ((impl_matricesCode_1.d ((rd_T27 x0 x8).f0) ((rd_T27 x0 x8).f1)).bind fun t268 => (if t268 = true then (some x8) else (impl_Matrix_AT_impl_matricesCode_1_105.l0d x0 x7 (wrap64 (x8 + 1))))) else (none)) else (none)) else (some (-1)) := by
  refine IsLim.unique (impl_Matrix_AT_impl_matricesCode_1_105.l0lim _ _ _) ?_
  refine IsLim.shift (by rfl) ?_
  simp only [impl_Matrix_AT_impl_matricesCode_1_105.l0]
  repeat' (first | exact IsLim.const _ | refine IsLim.ite ?_ ?_ | refine IsLim.bind ?_ (fun _ => ?_) | exact impl_matricesCode_1.lim .. | exact impl_Matrix_AT_impl_matricesCode_1_105.l0lim ..)
noncomputable def impl_Matrix_AT_impl_matricesCode_1_105.d (l0 : List (S27)) : Option (Int) := lim (fun k => impl_Matrix_AT_impl_matricesCode_1_105.f k l0)
theorem impl_Matrix_AT_impl_matricesCode_1_105.lim (l0 : List (S27)) : IsLim (fun k => impl_Matrix_AT_impl_matricesCode_1_105.f k l0) (impl_Matrix_AT_impl_matricesCode_1_105.d l0) := lim_spec (fun k => impl_Matrix_AT_impl_matricesCode_1_105.mono l0 k)
theorem impl_Matrix_AT_impl_matricesCode_1_105.d_eq (l0 : List (S27)) : impl_Matrix_AT_impl_matricesCode_1_105.d l0 = impl_Matrix_AT_impl_matricesCode_1_105.l0d l0 (l0.length : Int) 0 := by
  refine IsLim.unique (impl_Matrix_AT_impl_matricesCode_1_105.lim _) ?_
  unfold impl_Matrix_AT_impl_matricesCode_1_105.f
  repeat' (first | exact IsLim.const _ | refine IsLim.ite ?_ ?_ | refine IsLim.bind ?_ (fun _ => ?_) | exact impl_Matrix_AT_impl_matricesCode_1_105.l0lim ..)
noncomputable def impl_Matrix_AT_impl_matricesCode_1_89.d (l0 : List (S27)) : Option (Bool) := lim (fun k => impl_Matrix_AT_impl_matricesCode_1_89.f k l0)
theorem impl_Matrix_AT_impl_matricesCode_1_89.lim (l0 : List (S27)) : IsLim (fun k => impl_Matrix_AT_impl_matricesCode_1_89.f k l0) (impl_Matrix_AT_impl_matricesCode_1_89.d l0) := lim_spec (fun k => impl_Matrix_AT_impl_matricesCode_1_89.mono l0 k)
theorem impl_Matrix_AT_impl_matricesCode_1_89.d_eq (l0 : List (S27)) : impl_Matrix_AT_impl_matricesCode_1_89.d l0 = (impl_Matrix_AT_impl_matricesCode_1_105.d l0).bind fun t269 => (some (decide (t269 ≥ 0))) := by
  refine IsLim.unique (impl_Matrix_AT_impl_matricesCode_1_89.lim _) ?_
  unfold impl_Matrix_AT_impl_matricesCode_1_89.f
  repeat' (first | exact IsLim.const _ | refine IsLim.ite ?_ ?_ | refine IsLim.bind ?_ (fun _ => ?_) | exact impl_Matrix_AT_impl_matricesCode_1_105.lim ..)
end Go.Proofs.Ythjfilmdobkmlaa.P
end
section
namespace Go.Proofs.Ythjfilmdobkmlaa.P
open Go.RowKit Go.Proofs.YthjfilmdobkmlaaW.PrintWords Go.Proofs.YthjfilmdobkmlaaW.PrintLast Go.Proofs.YthjfilmdobkmlaaW.PrintMore
set_option linter.unusedVariables false
set_option linter.unusedSimpArgs false
noncomputable def impl_matricesCode_AT_impl_SolveRows_1.d (a0_0 : Int) (l0_1 : List Int) (a0_2 : Int) (l1 : List (S27)) : Option (Int) := lim (fun k => impl_matricesCode_AT_impl_SolveRows_1.f k a0_0 l0_1 a0_2 l1)
theorem impl_matricesCode_AT_impl_SolveRows_1.lim (a0_0 : Int) (l0_1 : List Int) (a0_2 : Int) (l1 : List (S27)) : IsLim (fun k => impl_matricesCode_AT_impl_SolveRows_1.f k a0_0 l0_1 a0_2 l1) (impl_matricesCode_AT_impl_SolveRows_1.d a0_0 l0_1 a0_2 l1) := lim_spec (fun k => impl_matricesCode_AT_impl_SolveRows_1.mono a0_0 l0_1 a0_2 l1 k)
theorem impl_matricesCode_AT_impl_SolveRows_1.d_eq (a0_0 : Int) (l0_1 : List Int) (a0_2 : Int) (l1 : List (S27)) : impl_matricesCode_AT_impl_SolveRows_1.d a0_0 l0_1 a0_2 l1 = (impl_Matrix_AT_impl_matricesCode_1_89.d l1).bind fun t270 => (if t270 = true then (some 1) else ((impl_SolveRows_1.f a0_0 l0_1 a0_2).bind fun t271 => (if t271 = true then (some 0) else (some 2)))) := by
  refine IsLim.unique (impl_matricesCode_AT_impl_SolveRows_1.lim _ _ _ _) ?_
  unfold impl_matricesCode_AT_impl_SolveRows_1.f
  repeat' (first | exact IsLim.const _ | refine IsLim.ite ?_ ?_ | refine IsLim.bind ?_ (fun _ => ?_) | exact impl_Matrix_AT_impl_matricesCode_1_89.lim ..)
end Go.Proofs.Ythjfilmdobkmlaa.P
end
section
namespace Go.Proofs.Ythjfilmdobkmlaa.P
open Go.RowKit Go.Proofs.YthjfilmdobkmlaaW.PrintWords Go.Proofs.YthjfilmdobkmlaaW.PrintLast Go.Proofs.YthjfilmdobkmlaaW.PrintMore
set_option linter.unusedVariables false
set_option linter.unusedSimpArgs false
noncomputable def impl_sumOf.l0d (x1 : Int) (x5 : Int) (x8 : List Int) (x9 : Int) (x10 : Int) : Option (Int) := lim (fun k => impl_sumOf.l0 k x1 x5 x8 x9 x10)
theorem impl_sumOf.l0lim (x1 : Int) (x5 : Int) (x8 : List Int) (x9 : Int) (x10 : Int) : IsLim (fun k => impl_sumOf.l0 k x1 x5 x8 x9 x10) (impl_sumOf.l0d x1 x5 x8 x9 x10) := lim_spec (fun k => (impl_sumOf.mono_l k) x1 x5 x8 x9 x10)
theorem impl_sumOf.l0d_eq (x1 : Int) (x5 : Int) (x8 : List Int) (x9 : Int) (x10 : Int) : impl_sumOf.l0d x1 x5 x8 x9 x10 = if x10 < x9 then (if 0 ≤ x10 then (if x10 < (x8.length : Int) then (if (Go.bits .and .i64 (shr .i64 x1 x10) 1) = 1 then (impl_sumOf.l0d x1 (Go.bits .xor .i64 x5 (rd x8 x10)) x8 x9 (wrap64 (x10 + 1))) else (impl_sumOf.l0d x1 x5 x8 x9 (wrap64 (x10 + 1)))) else (none)) else (none)) else (some x5) := by
  refine IsLim.unique (impl_sumOf.l0lim _ _ _ _ _) ?_
  refine IsLim.shift (by rfl) ?_
  simp only [impl_sumOf.l0]
  repeat' (first | exact IsLim.const _ | refine IsLim.ite ?_ ?_ | refine IsLim.bind ?_ (fun _ => ?_) | exact impl_sumOf.l0lim ..)
noncomputable def impl_sumOf.d (l0 : List Int) (a1 : Int) : Option (Int) := lim (fun k => impl_sumOf.f k l0 a1)
theorem impl_sumOf.lim (l0 : List Int) (a1 : Int) : IsLim (fun k => impl_sumOf.f k l0 a1) (impl_sumOf.d l0 a1) := lim_spec (fun k => impl_sumOf.mono l0 a1 k)
theorem impl_sumOf.d_eq (l0 : List Int) (a1 : Int) : impl_sumOf.d l0 a1 = impl_sumOf.l0d a1 0 l0 (l0.length : Int) 0 := by
  refine IsLim.unique (impl_sumOf.lim _ _) ?_
  unfold impl_sumOf.f
  repeat' (first | exact IsLim.const _ | refine IsLim.ite ?_ ?_ | refine IsLim.bind ?_ (fun _ => ?_) | exact impl_sumOf.l0lim ..)
noncomputable def impl_Matrix_mul.l0d (x12 : List Int) (x13 : Int) (x14 : Int) (x301000 : Int) (x301001 : List Int) (x303000 : Int) (x303001 : List Int) : Option (Int × List Int) := lim (fun k => impl_Matrix_mul.l0 k x12 x13 x14 x301000 x301001 x303000 x303001)
theorem impl_Matrix_mul.l0lim (x12 : List Int) (x13 : Int) (x14 : Int) (x301000 : Int) (x301001 : List Int) (x303000 : Int) (x303001 : List Int) : IsLim (fun k => impl_Matrix_mul.l0 k x12 x13 x14 x301000 x301001 x303000 x303001) (impl_Matrix_mul.l0d x12 x13 x14 x301000 x301001 x303000 x303001) := lim_spec (fun k => (impl_Matrix_mul.mono_l k) x12 x13 x14 x301000 x301001 x303000 x303001)
theorem impl_Matrix_mul.l0d_eq (x12 : List Int) (x13 : Int) (x14 : Int) (x301000 : Int) (x301001 : List Int) (x303000 : Int) (x303001 : List Int) : impl_Matrix_mul.l0d x12 x13 x14 x301000 x301001 x303000 x303001 = if x14 < x13 then (if 0 ≤ x14 then (if x14 < (x12.length : Int) then ((impl_sumOf.d x301001 (rd x12 x14)).bind fun t304 => (if x303001.length < 17592186044416 then (impl_Matrix_mul.l0d x12 x13 (wrap64 (x14 + 1)) x301000 x301001 x303000 (x303001 ++ [t304])) else (none))) else (none)) else (none)) else (some (x303000, x303001)) := by
  refine IsLim.unique (impl_Matrix_mul.l0lim _ _ _ _ _ _ _) ?_
  refine IsLim.shift (by rfl) ?_
  simp only [impl_Matrix_mul.l0]
  repeat' (first | exact IsLim.const _ | refine IsLim.ite ?_ ?_ | refine IsLim.bind ?_ (fun _ => ?_) | exact impl_sumOf.lim .. | exact impl_Matrix_mul.l0lim ..)
noncomputable def impl_Matrix_mul.d (a0_0 : Int) (l0_1 : List Int) (a1_0 : Int) (l1_1 : List Int) : Option (Int × List Int) := lim (fun k => impl_Matrix_mul.f k a0_0 l0_1 a1_0 l1_1)
theorem impl_Matrix_mul.lim (a0_0 : Int) (l0_1 : List Int) (a1_0 : Int) (l1_1 : List Int) : IsLim (fun k => impl_Matrix_mul.f k a0_0 l0_1 a1_0 l1_1) (impl_Matrix_mul.d a0_0 l0_1 a1_0 l1_1) := lim_spec (fun k => impl_Matrix_mul.mono a0_0 l0_1 a1_0 l1_1 k)
theorem impl_Matrix_mul.d_eq (a0_0 : Int) (l0_1 : List Int) (a1_0 : Int) (l1_1 : List Int) : impl_Matrix_mul.d a0_0 l0_1 a1_0 l1_1 = impl_Matrix_mul.l0d l0_1 (l0_1.length : Int) 0 a1_0 l1_1 a1_0 ([] : List Int) := by
  refine IsLim.unique (impl_Matrix_mul.lim _ _ _ _) ?_
  unfold impl_Matrix_mul.f
  repeat' (first | exact IsLim.const _ | refine IsLim.ite ?_ ?_ | refine IsLim.bind ?_ (fun _ => ?_) | exact impl_Matrix_mul.l0lim ..)
end Go.Proofs.Ythjfilmdobkmlaa.P
end
section
namespace Go.Proofs.Ythjfilmdobkmlaa.P
open Go.RowKit Go.Proofs.YthjfilmdobkmlaaW.PrintWords Go.Proofs.YthjfilmdobkmlaaW.PrintLast Go.Proofs.YthjfilmdobkmlaaW.PrintMore
set_option linter.unusedVariables false
set_option linter.unusedSimpArgs false
noncomputable def impl_SolveRows.l0d (x18 : Int) (x19 : Int) (x273000 : Int) (x273001 : List Int) (x274000 : Int) : Option (Int × Int) := lim (fun k => impl_SolveRows.l0 k x18 x19 x273000 x273001 x274000)
theorem impl_SolveRows.l0lim (x18 : Int) (x19 : Int) (x273000 : Int) (x273001 : List Int) (x274000 : Int) : IsLim (fun k => impl_SolveRows.l0 k x18 x19 x273000 x273001 x274000) (impl_SolveRows.l0d x18 x19 x273000 x273001 x274000) := lim_spec (fun k => (impl_SolveRows.mono_l k) x18 x19 x273000 x273001 x274000)
theorem impl_SolveRows.l0d_eq (x18 : Int) (x19 : Int) (x273000 : Int) (x273001 : List Int) (x274000 : Int) : impl_SolveRows.l0d x18 x19 x273000 x273001 x274000 = if x19 < x18 then ((impl_sumOf.d x273001 x19).bind fun t278 => (if t278 = x274000 then (some (x19, 0)) else (impl_SolveRows.l0d x18 (wrap64 (x19 + 1)) x273000 x273001 x274000))) else (some (0, 6)) := by
  refine IsLim.unique (impl_SolveRows.l0lim _ _ _ _ _) ?_
  refine IsLim.shift (by rfl) ?_
  simp only [impl_SolveRows.l0]
  repeat' (first | exact IsLim.const _ | refine IsLim.ite ?_ ?_ | refine IsLim.bind ?_ (fun _ => ?_) | exact impl_sumOf.lim .. | exact impl_SolveRows.l0lim ..)
noncomputable def impl_SolveRows.d (a0_0 : Int) (l0_1 : List Int) (a1 : Int) : Option (Int × Int) := lim (fun k => impl_SolveRows.f k a0_0 l0_1 a1)
theorem impl_SolveRows.lim (a0_0 : Int) (l0_1 : List Int) (a1 : Int) : IsLim (fun k => impl_SolveRows.f k a0_0 l0_1 a1) (impl_SolveRows.d a0_0 l0_1 a1) := lim_spec (fun k => impl_SolveRows.mono a0_0 l0_1 a1 k)
theorem impl_SolveRows.d_eq (a0_0 : Int) (l0_1 : List Int) (a1 : Int) : impl_SolveRows.d a0_0 l0_1 a1 = (impl_matricesCode_AT_impl_SolveRows_1.d a0_0 l0_1 a1 (([(⟨a0_0, l0_1⟩ : S27)] : List (S27)))).bind fun t277 => (if t277 = 0 then (impl_SolveRows.l0d (shl .i64 1 (l0_1.length : Int)) 0 a0_0 l0_1 a1) else (some (0, t277))) := by
  refine IsLim.unique (impl_SolveRows.lim _ _ _) ?_
  unfold impl_SolveRows.f
  repeat' (first | exact IsLim.const _ | refine IsLim.ite ?_ ?_ | refine IsLim.bind ?_ (fun _ => ?_) | exact impl_matricesCode_AT_impl_SolveRows_1.lim .. | exact impl_SolveRows.l0lim ..)
end Go.Proofs.Ythjfilmdobkmlaa.P
end
section
namespace Go.Proofs.Ythjfilmdobkmlaa.P
open Go.RowKit Go.Proofs.YthjfilmdobkmlaaW.PrintWords Go.Proofs.YthjfilmdobkmlaaW.PrintLast Go.Proofs.YthjfilmdobkmlaaW.PrintMore
set_option linter.unusedVariables false
set_option linter.unusedSimpArgs false
noncomputable def impl_Matrix_turned.l0d (x13 : Int) (x14 : Int) (x280000 : Int) (x280001 : List Int) (x283000 : Int) (x283001 : List Int) : Option (Int × List Int) := lim (fun k => impl_Matrix_turned.l0 k x13 x14 x280000 x280001 x283000 x283001)
theorem impl_Matrix_turned.l0lim (x13 : Int) (x14 : Int) (x280000 : Int) (x280001 : List Int) (x283000 : Int) (x283001 : List Int) : IsLim (fun k => impl_Matrix_turned.l0 k x13 x14 x280000 x280001 x283000 x283001) (impl_Matrix_turned.l0d x13 x14 x280000 x280001 x283000 x283001) := lim_spec (fun k => (impl_Matrix_turned.mono_l k).1 x13 x14 x280000 x280001 x283000 x283001)
noncomputable def impl_Matrix_turned.l1d (x4 : Int) (x5 : Int) (x13 : Int) (x14 : Int) (x18 : List Int) (x19 : Int) (x20 : Int) (x280000 : Int) (x280001 : List Int) (x283000 : Int) (x283001 : List Int) : Option (Int × List Int) := lim (fun k => impl_Matrix_turned.l1 k x4 x5 x13 x14 x18 x19 x20 x280000 x280001 x283000 x283001)
theorem impl_Matrix_turned.l1lim (x4 : Int) (x5 : Int) (x13 : Int) (x14 : Int) (x18 : List Int) (x19 : Int) (x20 : Int) (x280000 : Int) (x280001 : List Int) (x283000 : Int) (x283001 : List Int) : IsLim (fun k => impl_Matrix_turned.l1 k x4 x5 x13 x14 x18 x19 x20 x280000 x280001 x283000 x283001) (impl_Matrix_turned.l1d x4 x5 x13 x14 x18 x19 x20 x280000 x280001 x283000 x283001) := lim_spec (fun k => (impl_Matrix_turned.mono_l k).2 x4 x5 x13 x14 x18 x19 x20 x280000 x280001 x283000 x283001)
theorem impl_Matrix_turned.l0d_eq (x13 : Int) (x14 : Int) (x280000 : Int) (x280001 : List Int) (x283000 : Int) (x283001 : List Int) : impl_Matrix_turned.l0d x13 x14 x280000 x280001 x283000 x283001 = if x14 < x13 then (impl_Matrix_turned.l1d x14 0 x13 x14 x280001 (x280001.length : Int) 0 x280000 x280001 x283000 x283001) else (some (x283000, x283001)) := by
  refine IsLim.unique (impl_Matrix_turned.l0lim _ _ _ _ _ _) ?_
  refine IsLim.shift (by rfl) ?_
  simp only [impl_Matrix_turned.l0]
  repeat' (first | exact IsLim.const _ | refine IsLim.ite ?_ ?_ | refine IsLim.bind ?_ (fun _ => ?_) | exact impl_Matrix_turned.l1lim ..)
theorem impl_Matrix_turned.l1d_eq (x4 : Int) (x5 : Int) (x13 : Int) (x14 : Int) (x18 : List Int) (x19 : Int) (x20 : Int) (x280000 : Int) (x280001 : List Int) (x283000 : Int) (x283001 : List Int) : impl_Matrix_turned.l1d x4 x5 x13 x14 x18 x19 x20 x280000 x280001 x283000 x283001 = if x20 < x19 then (if 0 ≤ x20 then (if x20 < (x18.length : Int) then (if 0 ≤ x4 then (impl_Matrix_turned.l1d x4 (Go.bits .or .i64 x5 (shl .i64 (Go.bits .and .i64 (shr .i64 (rd x18 x20) x4) 1) x20)) x13 x14 x18 x19 (wrap64 (x20 + 1)) x280000 x280001 x283000 x283001) else (none)) else (none)) else (none)) else (if x283001.length < 17592186044416 then (impl_Matrix_turned.l0d x13 (wrap64 (x14 + 1)) x280000 x280001 x283000 (x283001 ++ [x5])) else (none)) := by
  refine IsLim.unique (impl_Matrix_turned.l1lim _ _ _ _ _ _ _ _ _ _ _) ?_
  refine IsLim.shift (by rfl) ?_
  simp only [impl_Matrix_turned.l1]
  repeat' (first | exact IsLim.const _ | refine IsLim.ite ?_ ?_ | refine IsLim.bind ?_ (fun _ => ?_) | exact impl_Matrix_turned.l1lim .. | exact impl_Matrix_turned.l0lim ..)
noncomputable def impl_Matrix_turned.d (a0_0 : Int) (l0_1 : List Int) : Option (Int × List Int) := lim (fun k => impl_Matrix_turned.f k a0_0 l0_1)
theorem impl_Matrix_turned.lim (a0_0 : Int) (l0_1 : List Int) : IsLim (fun k => impl_Matrix_turned.f k a0_0 l0_1) (impl_Matrix_turned.d a0_0 l0_1) := lim_spec (fun k => impl_Matrix_turned.mono a0_0 l0_1 k)
theorem impl_Matrix_turned.d_eq (a0_0 : Int) (l0_1 : List Int) : impl_Matrix_turned.d a0_0 l0_1 = (impl_size_int64.f l0_1).bind fun t281 => (impl_Matrix_turned.l0d a0_0 0 a0_0 l0_1 t281 ([] : List Int)) := by
  refine IsLim.unique (impl_Matrix_turned.lim _ _) ?_
  unfold impl_Matrix_turned.f
  repeat' (first | exact IsLim.const _ | refine IsLim.ite ?_ ?_ | refine IsLim.bind ?_ (fun _ => ?_) | exact impl_Matrix_turned.l0lim ..)
noncomputable def impl_matricesCode_AT_impl_TurnMatrix_1.d (a0_0 : Int) (l0_1 : List Int) (l1 : List (S27)) : Option (Int) := lim (fun k => impl_matricesCode_AT_impl_TurnMatrix_1.f k a0_0 l0_1 l1)
theorem impl_matricesCode_AT_impl_TurnMatrix_1.lim (a0_0 : Int) (l0_1 : List Int) (l1 : List (S27)) : IsLim (fun k => impl_matricesCode_AT_impl_TurnMatrix_1.f k a0_0 l0_1 l1) (impl_matricesCode_AT_impl_TurnMatrix_1.d a0_0 l0_1 l1) := lim_spec (fun k => impl_matricesCode_AT_impl_TurnMatrix_1.mono a0_0 l0_1 l1 k)
theorem impl_matricesCode_AT_impl_TurnMatrix_1.d_eq (a0_0 : Int) (l0_1 : List Int) (l1 : List (S27)) : impl_matricesCode_AT_impl_TurnMatrix_1.d a0_0 l0_1 l1 = (impl_Matrix_AT_impl_matricesCode_1_89.d l1).bind fun t287 => (if t287 = true then (some 1) else ((impl_TurnMatrix_1.f a0_0 l0_1).bind fun t288 => (if t288 = true then (some 0) else (some 2)))) := by
  refine IsLim.unique (impl_matricesCode_AT_impl_TurnMatrix_1.lim _ _ _) ?_
  unfold impl_matricesCode_AT_impl_TurnMatrix_1.f
  repeat' (first | exact IsLim.const _ | refine IsLim.ite ?_ ?_ | refine IsLim.bind ?_ (fun _ => ?_) | exact impl_Matrix_AT_impl_matricesCode_1_89.lim ..)
end Go.Proofs.Ythjfilmdobkmlaa.P
end
section
namespace Go.Proofs.Ythjfilmdobkmlaa.P
open Go.RowKit Go.Proofs.YthjfilmdobkmlaaW.PrintWords Go.Proofs.YthjfilmdobkmlaaW.PrintLast Go.Proofs.YthjfilmdobkmlaaW.PrintMore
set_option linter.unusedVariables false
set_option linter.unusedSimpArgs false
noncomputable def impl_TurnMatrix.d (a0_0 : Int) (l0_1 : List Int) : Option (Int × List Int × Int) := lim (fun k => impl_TurnMatrix.f k a0_0 l0_1)
theorem impl_TurnMatrix.lim (a0_0 : Int) (l0_1 : List Int) : IsLim (fun k => impl_TurnMatrix.f k a0_0 l0_1) (impl_TurnMatrix.d a0_0 l0_1) := lim_spec (fun k => impl_TurnMatrix.mono a0_0 l0_1 k)
theorem impl_TurnMatrix.d_eq (a0_0 : Int) (l0_1 : List Int) : impl_TurnMatrix.d a0_0 l0_1 = (impl_matricesCode_AT_impl_TurnMatrix_1.d a0_0 l0_1 (([(⟨a0_0, l0_1⟩ : S27)] : List (S27)))).bind fun t294 => (if t294 = 0 then ((impl_Matrix_turned.d a0_0 l0_1).bind fun bt295 => (some (bt295.1, bt295.2, 0))) else (some (0, ([] : List Int), t294))) := by
  refine IsLim.unique (impl_TurnMatrix.lim _ _) ?_
  unfold impl_TurnMatrix.f
  repeat' (first | exact IsLim.const _ | refine IsLim.ite ?_ ?_ | refine IsLim.bind ?_ (fun _ => ?_) | exact impl_matricesCode_AT_impl_TurnMatrix_1.lim .. | exact impl_Matrix_turned.lim ..)
noncomputable def impl_matricesCode_AT_impl_MulMatrices_1.d (a0_0 : Int) (l0_1 : List Int) (a0_2 : Int) (l0_3 : List Int) (l1 : List (S27)) : Option (Int) := lim (fun k => impl_matricesCode_AT_impl_MulMatrices_1.f k a0_0 l0_1 a0_2 l0_3 l1)
theorem impl_matricesCode_AT_impl_MulMatrices_1.lim (a0_0 : Int) (l0_1 : List Int) (a0_2 : Int) (l0_3 : List Int) (l1 : List (S27)) : IsLim (fun k => impl_matricesCode_AT_impl_MulMatrices_1.f k a0_0 l0_1 a0_2 l0_3 l1) (impl_matricesCode_AT_impl_MulMatrices_1.d a0_0 l0_1 a0_2 l0_3 l1) := lim_spec (fun k => impl_matricesCode_AT_impl_MulMatrices_1.mono a0_0 l0_1 a0_2 l0_3 l1 k)
theorem impl_matricesCode_AT_impl_MulMatrices_1.d_eq (a0_0 : Int) (l0_1 : List Int) (a0_2 : Int) (l0_3 : List Int) (l1 : List (S27)) : impl_matricesCode_AT_impl_MulMatrices_1.d a0_0 l0_1 a0_2 l0_3 l1 = (impl_Matrix_AT_impl_matricesCode_1_89.d l1).bind fun t309 => (if t309 = true then (some 1) else ((impl_MulMatrices_1.f a0_0 l0_1 a0_2 l0_3).bind fun t310 => (if t310 = true then (some 0) else (some 2)))) := by
  refine IsLim.unique (impl_matricesCode_AT_impl_MulMatrices_1.lim _ _ _ _ _) ?_
  unfold impl_matricesCode_AT_impl_MulMatrices_1.f
  repeat' (first | exact IsLim.const _ | refine IsLim.ite ?_ ?_ | refine IsLim.bind ?_ (fun _ => ?_) | exact impl_Matrix_AT_impl_matricesCode_1_89.lim ..)
end Go.Proofs.Ythjfilmdobkmlaa.P
end
section
namespace Go.Proofs.Ythjfilmdobkmlaa.P
open Go.RowKit Go.Proofs.YthjfilmdobkmlaaW.PrintWords Go.Proofs.YthjfilmdobkmlaaW.PrintLast Go.Proofs.YthjfilmdobkmlaaW.PrintMore
set_option linter.unusedVariables false
set_option linter.unusedSimpArgs false
noncomputable def impl_MulMatrices.d (a0_0 : Int) (l0_1 : List Int) (a1_0 : Int) (l1_1 : List Int) : Option (Int × List Int × Int) := lim (fun k => impl_MulMatrices.f k a0_0 l0_1 a1_0 l1_1)
theorem impl_MulMatrices.lim (a0_0 : Int) (l0_1 : List Int) (a1_0 : Int) (l1_1 : List Int) : IsLim (fun k => impl_MulMatrices.f k a0_0 l0_1 a1_0 l1_1) (impl_MulMatrices.d a0_0 l0_1 a1_0 l1_1) := lim_spec (fun k => impl_MulMatrices.mono a0_0 l0_1 a1_0 l1_1 k)
theorem impl_MulMatrices.d_eq (a0_0 : Int) (l0_1 : List Int) (a1_0 : Int) (l1_1 : List Int) : impl_MulMatrices.d a0_0 l0_1 a1_0 l1_1 = (impl_matricesCode_AT_impl_MulMatrices_1.d a0_0 l0_1 a1_0 l1_1 (([(⟨a0_0, l0_1⟩ : S27), (⟨a1_0, l1_1⟩ : S27)] : List (S27)))).bind fun t317 => (if t317 = 0 then ((impl_Matrix_mul.d a0_0 l0_1 a1_0 l1_1).bind fun bt318 => (some (bt318.1, bt318.2, 0))) else (some (0, ([] : List Int), t317))) := by
  refine IsLim.unique (impl_MulMatrices.lim _ _ _ _) ?_
  unfold impl_MulMatrices.f
  repeat' (first | exact IsLim.const _ | refine IsLim.ite ?_ ?_ | refine IsLim.bind ?_ (fun _ => ?_) | exact impl_matricesCode_AT_impl_MulMatrices_1.lim .. | exact impl_Matrix_mul.lim ..)
noncomputable def impl_matricesCode_AT_impl_AddMatrices_1.d (a0_0 : Int) (l0_1 : List Int) (a0_2 : Int) (l0_3 : List Int) (l1 : List (S27)) : Option (Int) := lim (fun k => impl_matricesCode_AT_impl_AddMatrices_1.f k a0_0 l0_1 a0_2 l0_3 l1)
theorem impl_matricesCode_AT_impl_AddMatrices_1.lim (a0_0 : Int) (l0_1 : List Int) (a0_2 : Int) (l0_3 : List Int) (l1 : List (S27)) : IsLim (fun k => impl_matricesCode_AT_impl_AddMatrices_1.f k a0_0 l0_1 a0_2 l0_3 l1) (impl_matricesCode_AT_impl_AddMatrices_1.d a0_0 l0_1 a0_2 l0_3 l1) := lim_spec (fun k => impl_matricesCode_AT_impl_AddMatrices_1.mono a0_0 l0_1 a0_2 l0_3 l1 k)
theorem impl_matricesCode_AT_impl_AddMatrices_1.d_eq (a0_0 : Int) (l0_1 : List Int) (a0_2 : Int) (l0_3 : List Int) (l1 : List (S27)) : impl_matricesCode_AT_impl_AddMatrices_1.d a0_0 l0_1 a0_2 l0_3 l1 = (impl_Matrix_AT_impl_matricesCode_1_89.d l1).bind fun t322 => (if t322 = true then (some 1) else ((impl_AddMatrices_1.f a0_0 l0_1 a0_2 l0_3).bind fun t323 => (if t323 = true then (some 0) else (some 2)))) := by
  refine IsLim.unique (impl_matricesCode_AT_impl_AddMatrices_1.lim _ _ _ _ _) ?_
  unfold impl_matricesCode_AT_impl_AddMatrices_1.f
  repeat' (first | exact IsLim.const _ | refine IsLim.ite ?_ ?_ | refine IsLim.bind ?_ (fun _ => ?_) | exact impl_Matrix_AT_impl_matricesCode_1_89.lim ..)
end Go.Proofs.Ythjfilmdobkmlaa.P
end
section
namespace Go.Proofs.Ythjfilmdobkmlaa.P
open Go.RowKit Go.Proofs.YthjfilmdobkmlaaW.PrintWords Go.Proofs.YthjfilmdobkmlaaW.PrintLast Go.Proofs.YthjfilmdobkmlaaW.PrintMore
set_option linter.unusedVariables false
set_option linter.unusedSimpArgs false
noncomputable def impl_AddMatrices.l0d (x23 : List Int) (x24 : Int) (x25 : Int) (x326000 : Int) (x326001 : List Int) (x332000 : Int) (x332001 : List Int) : Option (Int × List Int × Int) := lim (fun k => impl_AddMatrices.l0 k x23 x24 x25 x326000 x326001 x332000 x332001)
theorem impl_AddMatrices.l0lim (x23 : List Int) (x24 : Int) (x25 : Int) (x326000 : Int) (x326001 : List Int) (x332000 : Int) (x332001 : List Int) : IsLim (fun k => impl_AddMatrices.l0 k x23 x24 x25 x326000 x326001 x332000 x332001) (impl_AddMatrices.l0d x23 x24 x25 x326000 x326001 x332000 x332001) := lim_spec (fun k => (impl_AddMatrices.mono_l k) x23 x24 x25 x326000 x326001 x332000 x332001)
theorem impl_AddMatrices.l0d_eq (x23 : List Int) (x24 : Int) (x25 : Int) (x326000 : Int) (x326001 : List Int) (x332000 : Int) (x332001 : List Int) : impl_AddMatrices.l0d x23 x24 x25 x326000 x326001 x332000 x332001 = if x25 < x24 then (if 0 ≤ x25 then (if x25 < (x23.length : Int) then (if x25 < (x326001.length : Int) then (if x332001.length < 17592186044416 then (impl_AddMatrices.l0d x23 x24 (wrap64 (x25 + 1)) x326000 x326001 x332000 (x332001 ++ [Go.bits .xor .i64 (rd x23 x25) (rd x326001 x25)])) else (none)) else (none)) else (none)) else (none)) else (some (x332000, x332001, 0)) := by
  refine IsLim.unique (impl_AddMatrices.l0lim _ _ _ _ _ _ _) ?_
  refine IsLim.shift (by rfl) ?_
  simp only [impl_AddMatrices.l0]
  repeat' (first | exact IsLim.const _ | refine IsLim.ite ?_ ?_ | refine IsLim.bind ?_ (fun _ => ?_) | exact impl_AddMatrices.l0lim ..)
noncomputable def impl_AddMatrices.d (a0_0 : Int) (l0_1 : List Int) (a1_0 : Int) (l1_1 : List Int) : Option (Int × List Int × Int) := lim (fun k => impl_AddMatrices.f k a0_0 l0_1 a1_0 l1_1)
theorem impl_AddMatrices.lim (a0_0 : Int) (l0_1 : List Int) (a1_0 : Int) (l1_1 : List Int) : IsLim (fun k => impl_AddMatrices.f k a0_0 l0_1 a1_0 l1_1) (impl_AddMatrices.d a0_0 l0_1 a1_0 l1_1) := lim_spec (fun k => impl_AddMatrices.mono a0_0 l0_1 a1_0 l1_1 k)
theorem impl_AddMatrices.d_eq (a0_0 : Int) (l0_1 : List Int) (a1_0 : Int) (l1_1 : List Int) : impl_AddMatrices.d a0_0 l0_1 a1_0 l1_1 = (impl_matricesCode_AT_impl_AddMatrices_1.d a0_0 l0_1 a1_0 l1_1 (([(⟨a0_0, l0_1⟩ : S27), (⟨a1_0, l1_1⟩ : S27)] : List (S27)))).bind fun t330 => (if t330 = 0 then (impl_AddMatrices.l0d l0_1 (l0_1.length : Int) 0 a1_0 l1_1 a0_0 ([] : List Int)) else (some (0, ([] : List Int), t330))) := by
  refine IsLim.unique (impl_AddMatrices.lim _ _ _ _) ?_
  unfold impl_AddMatrices.f
  repeat' (first | exact IsLim.const _ | refine IsLim.ite ?_ ?_ | refine IsLim.bind ?_ (fun _ => ?_) | exact impl_matricesCode_AT_impl_AddMatrices_1.lim .. | exact impl_AddMatrices.l0lim ..)
end Go.Proofs.Ythjfilmdobkmlaa.P
end
section
namespace Go.Proofs.Ythjfilmdobkmlaa.P
open Go.RowKit Go.Proofs.YthjfilmdobkmlaaW.PrintWords Go.Proofs.YthjfilmdobkmlaaW.PrintLast Go.Proofs.YthjfilmdobkmlaaW.PrintMore
set_option linter.unusedVariables false
set_option linter.unusedSimpArgs false
noncomputable def laws_FnRanks.j0d (x1 : List Int) (x5 : Int) (x7 : Int) (x97 : Bool) (x344000 : Int) (x344001 : List Int) (x352000 : Int) (x352001 : List Int) : Option (Bool) := lim (fun k => laws_FnRanks.j0 k x1 x5 x7 x97 x344000 x344001 x352000 x352001)
theorem laws_FnRanks.j0lim (x1 : List Int) (x5 : Int) (x7 : Int) (x97 : Bool) (x344000 : Int) (x344001 : List Int) (x352000 : Int) (x352001 : List Int) : IsLim (fun k => laws_FnRanks.j0 k x1 x5 x7 x97 x344000 x344001 x352000 x352001) (laws_FnRanks.j0d x1 x5 x7 x97 x344000 x344001 x352000 x352001) := lim_spec (fun k => (laws_FnRanks.mono_l k).1 x1 x5 x7 x97 x344000 x344001 x352000 x352001)
noncomputable def laws_FnRanks.l0d (x1 : List Int) (x5 : Int) (x7 : Int) (x13 : Int) (x344000 : Int) (x344001 : List Int) (x352000 : Int) (x352001 : List Int) : Option (Bool) := lim (fun k => laws_FnRanks.l0 k x1 x5 x7 x13 x344000 x344001 x352000 x352001)
theorem laws_FnRanks.l0lim (x1 : List Int) (x5 : Int) (x7 : Int) (x13 : Int) (x344000 : Int) (x344001 : List Int) (x352000 : Int) (x352001 : List Int) : IsLim (fun k => laws_FnRanks.l0 k x1 x5 x7 x13 x344000 x344001 x352000 x352001) (laws_FnRanks.l0d x1 x5 x7 x13 x344000 x344001 x352000 x352001) := lim_spec (fun k => (laws_FnRanks.mono_l k).2.1 x1 x5 x7 x13 x344000 x344001 x352000 x352001)
noncomputable def laws_FnRanks.j2d (x1 : List Int) (x5 : Int) (x7 : Int) (x13 : Int) (x14 : Int) (x129 : Bool) (x344000 : Int) (x344001 : List Int) (x352000 : Int) (x352001 : List Int) : Option (Bool) := lim (fun k => laws_FnRanks.j2 k x1 x5 x7 x13 x14 x129 x344000 x344001 x352000 x352001)
theorem laws_FnRanks.j2lim (x1 : List Int) (x5 : Int) (x7 : Int) (x13 : Int) (x14 : Int) (x129 : Bool) (x344000 : Int) (x344001 : List Int) (x352000 : Int) (x352001 : List Int) : IsLim (fun k => laws_FnRanks.j2 k x1 x5 x7 x13 x14 x129 x344000 x344001 x352000 x352001) (laws_FnRanks.j2d x1 x5 x7 x13 x14 x129 x344000 x344001 x352000 x352001) := lim_spec (fun k => (laws_FnRanks.mono_l k).2.2.1 x1 x5 x7 x13 x14 x129 x344000 x344001 x352000 x352001)
noncomputable def laws_FnRanks.l1d (x1 : List Int) (x5 : Int) (x7 : Int) (x13 : Int) (x14 : Int) (x16 : Int) (x17 : Int) (x344000 : Int) (x344001 : List Int) (x352000 : Int) (x352001 : List Int) : Option (Bool) := lim (fun k => laws_FnRanks.l1 k x1 x5 x7 x13 x14 x16 x17 x344000 x344001 x352000 x352001)
theorem laws_FnRanks.l1lim (x1 : List Int) (x5 : Int) (x7 : Int) (x13 : Int) (x14 : Int) (x16 : Int) (x17 : Int) (x344000 : Int) (x344001 : List Int) (x352000 : Int) (x352001 : List Int) : IsLim (fun k => laws_FnRanks.l1 k x1 x5 x7 x13 x14 x16 x17 x344000 x344001 x352000 x352001) (laws_FnRanks.l1d x1 x5 x7 x13 x14 x16 x17 x344000 x344001 x352000 x352001) := lim_spec (fun k => (laws_FnRanks.mono_l k).2.2.2.1 x1 x5 x7 x13 x14 x16 x17 x344000 x344001 x352000 x352001)
noncomputable def laws_FnRanks.l2d (x1 : List Int) (x5 : Int) (x7 : Int) (x18 : Int) (x344000 : Int) (x344001 : List Int) (x352000 : Int) (x352001 : List Int) : Option (Bool) := lim (fun k => laws_FnRanks.l2 k x1 x5 x7 x18 x344000 x344001 x352000 x352001)
theorem laws_FnRanks.l2lim (x1 : List Int) (x5 : Int) (x7 : Int) (x18 : Int) (x344000 : Int) (x344001 : List Int) (x352000 : Int) (x352001 : List Int) : IsLim (fun k => laws_FnRanks.l2 k x1 x5 x7 x18 x344000 x344001 x352000 x352001) (laws_FnRanks.l2d x1 x5 x7 x18 x344000 x344001 x352000 x352001) := lim_spec (fun k => (laws_FnRanks.mono_l k).2.2.2.2.1 x1 x5 x7 x18 x344000 x344001 x352000 x352001)
noncomputable def laws_FnRanks.l3d (x1 : List Int) (x5 : Int) (x7 : Int) (x22 : Int) (x23 : Int) (x24 : Int) (x26 : Int) (x344000 : Int) (x344001 : List Int) (x378000 : Int) (x378001 : List Int) : Option (Bool) := lim (fun k => laws_FnRanks.l3 k x1 x5 x7 x22 x23 x24 x26 x344000 x344001 x378000 x378001)
theorem laws_FnRanks.l3lim (x1 : List Int) (x5 : Int) (x7 : Int) (x22 : Int) (x23 : Int) (x24 : Int) (x26 : Int) (x344000 : Int) (x344001 : List Int) (x378000 : Int) (x378001 : List Int) : IsLim (fun k => laws_FnRanks.l3 k x1 x5 x7 x22 x23 x24 x26 x344000 x344001 x378000 x378001) (laws_FnRanks.l3d x1 x5 x7 x22 x23 x24 x26 x344000 x344001 x378000 x378001) := lim_spec (fun k => (laws_FnRanks.mono_l k).2.2.2.2.2.1 x1 x5 x7 x22 x23 x24 x26 x344000 x344001 x378000 x378001)
noncomputable def laws_FnRanks.l4d (x1 : List Int) (x5 : Int) (x7 : Int) (x22 : Int) (x23 : Int) (x24 : Int) (x28 : Int) (x29 : Int) (x30 : Int) (x31 : Int) (x32 : Int) (x34 : Int) (x344000 : Int) (x344001 : List Int) (x393000 : Int) (x393001 : List Int) : Option (Bool) := lim (fun k => laws_FnRanks.l4 k x1 x5 x7 x22 x23 x24 x28 x29 x30 x31 x32 x34 x344000 x344001 x393000 x393001)
theorem laws_FnRanks.l4lim (x1 : List Int) (x5 : Int) (x7 : Int) (x22 : Int) (x23 : Int) (x24 : Int) (x28 : Int) (x29 : Int) (x30 : Int) (x31 : Int) (x32 : Int) (x34 : Int) (x344000 : Int) (x344001 : List Int) (x393000 : Int) (x393001 : List Int) : IsLim (fun k => laws_FnRanks.l4 k x1 x5 x7 x22 x23 x24 x28 x29 x30 x31 x32 x34 x344000 x344001 x393000 x393001) (laws_FnRanks.l4d x1 x5 x7 x22 x23 x24 x28 x29 x30 x31 x32 x34 x344000 x344001 x393000 x393001) := lim_spec (fun k => (laws_FnRanks.mono_l k).2.2.2.2.2.2 x1 x5 x7 x22 x23 x24 x28 x29 x30 x31 x32 x34 x344000 x344001 x393000 x393001)
theorem laws_FnRanks.j0d_eq (x1 : List Int) (x5 : Int) (x7 : Int) (x97 : Bool) (x344000 : Int) (x344001 : List Int) (x352000 : Int) (x352001 : List Int) : laws_FnRanks.j0d x1 x5 x7 x97 x344000 x344001 x352000 x352001 = if x97 = true then (some false) else (laws_FnRanks.l0d x1 x5 x7 0 x344000 x344001 x352000 x352001) := by
  refine IsLim.unique (laws_FnRanks.j0lim _ _ _ _ _ _ _ _) ?_
  refine IsLim.shift (by rfl) ?_
  simp only [laws_FnRanks.j0]
  repeat' (first | exact IsLim.const _ | refine IsLim.ite ?_ ?_ | refine IsLim.bind ?_ (fun _ => ?_) | exact laws_FnRanks.l0lim ..)
theorem laws_FnRanks.l0d_eq (x1 : List Int) (x5 : Int) (x7 : Int) (x13 : Int) (x344000 : Int) (x344001 : List Int) (x352000 : Int) (x352001 : List Int) : laws_FnRanks.l0d x1 x5 x7 x13 x344000 x344001 x352000 x352001 = if x13 < (x344001.length : Int) then (if 0 ≤ x13 then ((impl_SolveRows.d x352000 x352001 (rd x344001 x13)).bind fun bt362 => (if bt362.2 = 0 then (if bt362.1 < 0 then (laws_FnRanks.j2d x1 x5 x7 x13 bt362.1 true x344000 x344001 x352000 x352001) else (if 0 ≤ (IntKind.u64.wrap ((x352001.length : Int))) then (laws_FnRanks.j2d x1 x5 x7 x13 bt362.1 (decide (bt362.1 ≥ (shl .i64 1 (IntKind.u64.wrap ((x352001.length : Int)))))) x344000 x344001 x352000 x352001) else (none))) else (laws_FnRanks.j2d x1 x5 x7 x13 bt362.1 true x344000 x344001 x352000 x352001))) else (none)) else (laws_FnRanks.l2d x1 x5 x7 0 x344000 x344001 x352000 x352001) := by
  refine IsLim.unique (laws_FnRanks.l0lim _ _ _ _ _ _ _ _) ?_
  refine IsLim.shift (by rfl) ?_
  simp only [laws_FnRanks.l0]
  repeat' (first | exact IsLim.const _ | refine IsLim.ite ?_ ?_ | refine IsLim.bind ?_ (fun _ => ?_) | exact impl_SolveRows.lim .. | exact laws_FnRanks.j2lim .. | exact laws_FnRanks.l2lim ..)
theorem laws_FnRanks.j2d_eq (x1 : List Int) (x5 : Int) (x7 : Int) (x13 : Int) (x14 : Int) (x129 : Bool) (x344000 : Int) (x344001 : List Int) (x352000 : Int) (x352001 : List Int) : laws_FnRanks.j2d x1 x5 x7 x13 x14 x129 x344000 x344001 x352000 x352001 = if x129 = true then (some false) else (laws_FnRanks.l1d x1 x5 x7 x13 x14 0 0 x344000 x344001 x352000 x352001) := by
  refine IsLim.unique (laws_FnRanks.j2lim _ _ _ _ _ _ _ _ _ _) ?_
  refine IsLim.shift (by rfl) ?_
  simp only [laws_FnRanks.j2]
  repeat' (first | exact IsLim.const _ | refine IsLim.ite ?_ ?_ | refine IsLim.bind ?_ (fun _ => ?_) | exact laws_FnRanks.l1lim ..)
theorem laws_FnRanks.l1d_eq (x1 : List Int) (x5 : Int) (x7 : Int) (x13 : Int) (x14 : Int) (x16 : Int) (x17 : Int) (x344000 : Int) (x344001 : List Int) (x352000 : Int) (x352001 : List Int) : laws_FnRanks.l1d x1 x5 x7 x13 x14 x16 x17 x344000 x344001 x352000 x352001 = if x17 < (x352001.length : Int) then (if 0 ≤ (IntKind.u64.wrap (x17)) then (if (Go.bits .and .i64 (shr .i64 x14 (IntKind.u64.wrap (x17))) 1) = 1 then (if 0 ≤ x17 then (laws_FnRanks.l1d x1 x5 x7 x13 x14 (Go.bits .xor .i64 x16 (rd x352001 x17)) (wrap64 (x17 + 1)) x344000 x344001 x352000 x352001) else (none)) else (laws_FnRanks.l1d x1 x5 x7 x13 x14 x16 (wrap64 (x17 + 1)) x344000 x344001 x352000 x352001)) else (none)) else (if 0 ≤ x13 then (if x13 < (x344001.length : Int) then (if x16 = (rd x344001 x13) then (laws_FnRanks.l0d x1 x5 x7 (wrap64 (x13 + 1)) x344000 x344001 x352000 x352001) else (some false)) else (none)) else (none)) := by
  refine IsLim.unique (laws_FnRanks.l1lim _ _ _ _ _ _ _ _ _ _ _) ?_
  refine IsLim.shift (by rfl) ?_
  simp only [laws_FnRanks.l1]
  repeat' (first | exact IsLim.const _ | refine IsLim.ite ?_ ?_ | refine IsLim.bind ?_ (fun _ => ?_) | exact laws_FnRanks.l1lim .. | exact laws_FnRanks.l0lim ..)
theorem laws_FnRanks.l2d_eq (x1 : List Int) (x5 : Int) (x7 : Int) (x18 : Int) (x344000 : Int) (x344001 : List Int) (x352000 : Int) (x352001 : List Int) : laws_FnRanks.l2d x1 x5 x7 x18 x344000 x344001 x352000 x352001 = if x18 < (x352001.length : Int) then (if 0 ≤ x18 then ((impl_SolveRows.d x344000 x344001 (rd x352001 x18)).bind fun bt367 => (if bt367.2 = 0 then (laws_FnRanks.l2d x1 x5 x7 (wrap64 (x18 + 1)) x344000 x344001 x352000 x352001) else (some false))) else (none)) else (if (x344001.length : Int) = 0 then (some (x7 == 0)) else ((impl_TurnMatrix.d x344000 x344001).bind fun bt369 => ((impl_RankOf.d bt369.1 bt369.2.1).bind fun bt375 => (laws_FnRanks.l3d x1 x5 x7 bt369.2.2 bt375.1 bt375.2 0 x344000 x344001 x5 ([] : List Int))))) := by
  refine IsLim.unique (laws_FnRanks.l2lim _ _ _ _ _ _ _ _) ?_
  refine IsLim.shift (by rfl) ?_
  simp only [laws_FnRanks.l2]
  repeat' (first | exact IsLim.const _ | refine IsLim.ite ?_ ?_ | refine IsLim.bind ?_ (fun _ => ?_) | exact impl_SolveRows.lim .. | exact impl_TurnMatrix.lim .. | exact impl_RankOf.lim .. | exact laws_FnRanks.l2lim .. | exact laws_FnRanks.l3lim ..)
theorem laws_FnRanks.l3d_eq (x1 : List Int) (x5 : Int) (x7 : Int) (x22 : Int) (x23 : Int) (x24 : Int) (x26 : Int) (x344000 : Int) (x344001 : List Int) (x378000 : Int) (x378001 : List Int) : laws_FnRanks.l3d x1 x5 x7 x22 x23 x24 x26 x344000 x344001 x378000 x378001 = if x26 < x5 then (if 0 ≤ (IntKind.u64.wrap (x5)) then ((laws_a2At.f x1 (wrap64 (1 + x26)) (shl .i64 1 (IntKind.u64.wrap (x5)))).bind fun t378 => (if x378001.length < 17592186044416 then (laws_FnRanks.l3d x1 x5 x7 x22 x23 x24 (wrap64 (x26 + 1)) x344000 x344001 x378000 (x378001 ++ [t378])) else (none))) else (none)) else ((impl_MulMatrices.d x344000 x344001 x378000 x378001).bind fun bt382 => ((impl_RankOf.d bt382.1 bt382.2.1).bind fun bt388 => ((impl_RankOf.d x378000 x378001).bind fun bt390 => (laws_FnRanks.l4d x1 x5 x7 x22 x23 x24 bt382.2.2 bt388.1 bt388.2 bt390.1 bt390.2 0 x344000 x344001 x5 ([] : List Int))))) := by
  refine IsLim.unique (laws_FnRanks.l3lim _ _ _ _ _ _ _ _ _ _ _) ?_
  refine IsLim.shift (by rfl) ?_
  simp only [laws_FnRanks.l3]
  repeat' (first | exact IsLim.const _ | refine IsLim.ite ?_ ?_ | refine IsLim.bind ?_ (fun _ => ?_) | exact impl_MulMatrices.lim .. | exact impl_RankOf.lim .. | exact laws_FnRanks.l3lim .. | exact laws_FnRanks.l4lim ..)
theorem laws_FnRanks.l4d_eq (x1 : List Int) (x5 : Int) (x7 : Int) (x22 : Int) (x23 : Int) (x24 : Int) (x28 : Int) (x29 : Int) (x30 : Int) (x31 : Int) (x32 : Int) (x34 : Int) (x344000 : Int) (x344001 : List Int) (x393000 : Int) (x393001 : List Int) : laws_FnRanks.l4d x1 x5 x7 x22 x23 x24 x28 x29 x30 x31 x32 x34 x344000 x344001 x393000 x393001 = if x34 < (x344001.length : Int) then (if 0 ≤ (IntKind.u64.wrap (x5)) then ((laws_a2At.f x1 (wrap64 (9 + x34)) (shl .i64 1 (IntKind.u64.wrap (x5)))).bind fun t393 => (if x393001.length < 17592186044416 then (laws_FnRanks.l4d x1 x5 x7 x22 x23 x24 x28 x29 x30 x31 x32 (wrap64 (x34 + 1)) x344000 x344001 x393000 (x393001 ++ [t393])) else (none))) else (none)) else ((impl_AddMatrices.d x344000 x344001 x393000 x393001).bind fun bt397 => ((impl_RankOf.d bt397.1 bt397.2.1).bind fun bt403 => ((impl_RankOf.d x393000 x393001).bind fun bt405 => (if x22 = 0 then (if x24 = 0 then (if x23 = x7 then (if x28 = 0 then (if x30 = 0 then (if x32 = 0 then (if x29 ≤ x7 then (if x29 ≤ x31 then (if bt397.2.2 = 0 then (if bt403.2 = 0 then (if bt405.2 = 0 then (some (decide (bt403.1 ≤ (wrap64 (x7 + bt405.1))))) else (some false)) else (some false)) else (some false)) else (some false)) else (some false)) else (some false)) else (some false)) else (some false)) else (some false)) else (some false)) else (some false))))) := by
  refine IsLim.unique (laws_FnRanks.l4lim _ _ _ _ _ _ _ _ _ _ _ _ _ _ _ _) ?_
  refine IsLim.shift (by rfl) ?_
  simp only [laws_FnRanks.l4]
  repeat' (first | exact IsLim.const _ | refine IsLim.ite ?_ ?_ | refine IsLim.bind ?_ (fun _ => ?_) | exact impl_AddMatrices.lim .. | exact impl_RankOf.lim .. | exact laws_FnRanks.l4lim ..)
noncomputable def laws_FnRanks.d (l0 : List Int) (l1 : List Int) : Option (Bool) := lim (fun k => laws_FnRanks.f k l0 l1)
theorem laws_FnRanks.lim (l0 : List Int) (l1 : List Int) : IsLim (fun k => laws_FnRanks.f k l0 l1) (laws_FnRanks.d l0 l1) := lim_spec (fun k => laws_FnRanks.mono l0 l1 k)
theorem laws_FnRanks.d_eq (l0 : List Int) (l1 : List Int) : laws_FnRanks.d l0 l1 = (laws_a2Long.f l0 l1).bind fun t337 => (if t337 = true then (some true) else ((laws_a2At.f l1 0 5).bind fun t338 => ((spec_A2Matrix.d l0 (wrap64 (1 + t338)) 5).bind fun bt339 => ((impl_RankOf.d bt339.1 bt339.2).bind fun bt344 => ((impl_EchelonOf.d bt339.1 bt339.2).bind fun bt346 => ((impl_SpaceOf.d bt339.1 bt339.2).bind fun bt352 => (if bt344.2 = 0 then (if bt346.2.2 = 0 then (if bt352.2.2 = 0 then ((impl_IsSpace.d bt346.1 bt346.2.1).bind fun t358 => (if t358 = true then ((spec_IsSpace.d bt346.1 bt346.2.1).bind fun t359 => (if t359 = true then (if (bt346.2.1.length : Int) = bt344.1 then ((spec_SameMatrix.d bt346.1 bt346.2.1 bt352.1 bt352.2.1).bind fun t360 => (laws_FnRanks.j0d l1 (wrap64 (1 + t338)) bt344.1 (!t360) bt339.1 bt339.2 bt346.1 bt346.2.1)) else (laws_FnRanks.j0d l1 (wrap64 (1 + t338)) bt344.1 true bt339.1 bt339.2 bt346.1 bt346.2.1)) else (laws_FnRanks.j0d l1 (wrap64 (1 + t338)) bt344.1 true bt339.1 bt339.2 bt346.1 bt346.2.1))) else (laws_FnRanks.j0d l1 (wrap64 (1 + t338)) bt344.1 true bt339.1 bt339.2 bt346.1 bt346.2.1))) else (laws_FnRanks.j0d l1 (wrap64 (1 + t338)) bt344.1 true bt339.1 bt339.2 bt346.1 bt346.2.1)) else (laws_FnRanks.j0d l1 (wrap64 (1 + t338)) bt344.1 true bt339.1 bt339.2 bt346.1 bt346.2.1)) else (laws_FnRanks.j0d l1 (wrap64 (1 + t338)) bt344.1 true bt339.1 bt339.2 bt346.1 bt346.2.1)))))))) := by
  refine IsLim.unique (laws_FnRanks.lim _ _) ?_
  unfold laws_FnRanks.f
  repeat' (first | exact IsLim.const _ | refine IsLim.ite ?_ ?_ | refine IsLim.bind ?_ (fun _ => ?_) | exact spec_A2Matrix.lim .. | exact impl_RankOf.lim .. | exact impl_EchelonOf.lim .. | exact impl_SpaceOf.lim .. | exact impl_IsSpace.lim .. | exact spec_IsSpace.lim .. | exact spec_SameMatrix.lim .. | exact laws_FnRanks.j0lim ..)
end Go.Proofs.Ythjfilmdobkmlaa.P
end
section
namespace Go.Proofs.Ythjfilmdobkmlaa.P
open Go.RowKit Go.Proofs.YthjfilmdobkmlaaW.PrintWords Go.Proofs.YthjfilmdobkmlaaW.PrintLast Go.Proofs.YthjfilmdobkmlaaW.PrintMore
set_option linter.unusedVariables false
set_option linter.unusedSimpArgs false
theorem wr {x : Int} (h0 : -9223372036854775808 ≤ x) (h1 : x < 9223372036854775808) : wrap64 x = x := by
  unfold wrap64; omega
theorem wrS {i n : Nat} (h : i < n) (hn : n ≤ 17592186044416) : wrap64 ((i : Int) + 1) = ((i + 1 : Nat) : Int) := by rw [wr (by omega) (by omega)]; omega
theorem u64_id {x : Int} (h0 : 0 ≤ x) (h1 : x < 9223372036854775808) : IntKind.u64.wrap x = x := by rw [IntKind.wrap_u64]; omega
theorem down {Q : Nat → Prop} {n : Nat} (h0 : Q n) (hs : ∀ i, i < n → Q (i + 1) → Q i) : ∀ i, i ≤ n → Q i := by
  intro i hi
  obtain ⟨d, hd⟩ : ∃ d, d = n - i := ⟨_, rfl⟩
  induction d generalizing i with
  | zero => have : i = n := by omega
            exact this ▸ h0
  | succ d ih => exact hs i (by omega) (ih (i + 1) (by omega) (by omega))
theorem rd_get {l : List Int} {i : Nat} (h : i < l.length) : rd l (i : Int) = l[i] := rd_at l i h
theorem bind_some' {α β : Type} (a : α) (f : α → Option β) : (some a).bind f = f a := rfl
/-- a list built by a walk upward -/
theorem build_gen {α R : Type} {F : Int → List α → Option R} {n : Nat} {g : Nat → α} {r : Option R}
    (heq : ∀ i : Nat, i < n → ∀ acc : List α, acc.length = i → F (i : Int) acc = F ((i + 1 : Nat) : Int) (acc ++ [g i]))
    (hend : F (n : Int) ((List.range n).map g) = r) : F 0 [] = r := by
  have key : ∀ i, i ≤ n → F (i : Int) ((List.range i).map g) = r := by
    apply down
    · exact hend
    · intro i hi e
      rw [heq i hi _ (by simp), ← e, List.range_succ, List.map_append]; rfl
  exact key 0 (by omega)
/-- the first place where `q` holds, by a walk upward -/
theorem index_gen {F : Int → Option Int} {n : Nat} {q : Nat → Bool} (hend : F (n : Int) = some (-1))
    (heq : ∀ i : Nat, i < n → F (i : Int) = if q i = true then some (i : Int) else F ((i + 1 : Nat) : Int)) :
    ∃ v, F 0 = some v ∧ (decide (v ≥ 0) = !decide (∀ i, i < n → q i = false)) ∧ (0 ≤ v → v.toNat < n ∧ q v.toNat = true ∧ ∀ j, j < v.toNat → q j = false) := by
  have key : ∀ i, i ≤ n → ∃ v, F (i : Int) = some v ∧ (v ≥ 0 ↔ ¬ ∀ j, i ≤ j → j < n → q j = false) ∧ (0 ≤ v → i ≤ v.toNat ∧ v.toNat < n ∧ q v.toNat = true ∧ ∀ j, i ≤ j → j < v.toNat → q j = false) := by
    apply down
    · exact ⟨-1, hend, ⟨fun h => absurd h (by decide), fun h => absurd (fun j _ _ => by omega) h⟩, fun h => absurd h (by decide)⟩
    · intro i hi ⟨v, e, c, d⟩
      rw [heq i hi]
      by_cases hq : q i = true
      · rw [if_pos hq]
        exact ⟨i, rfl, ⟨fun _ h => (by rw [h i (by omega) hi] at hq; cases hq), fun _ => by omega⟩, fun _ => ⟨by simp, by simpa using hi, by simpa using hq, fun j h1 h2 => by simp at h2; omega⟩⟩
      · rw [if_neg hq]
        have hq' : q i = false := Bool.eq_false_iff.mpr hq
        refine ⟨v, e, c.trans ⟨fun h h' => h fun j a b => h' j (by omega) b, fun h h' => h fun j a b => ?_⟩, fun h => ?_⟩
        · rcases Nat.lt_or_ge i j with z | z
          · exact h' j z b
          · have : j = i := by omega
            rw [this, hq']
        · obtain ⟨a1, a2, a3, a4⟩ := d h
          refine ⟨by omega, a2, a3, fun j h1 h2 => ?_⟩
          rcases Nat.lt_or_ge i j with z | z
          · exact a4 j z h2
          · have : j = i := by omega
            rw [this, hq']
  obtain ⟨v, e, c, d⟩ := key 0 (by omega)
  refine ⟨v, e, ?_, fun h => ⟨(d h).2.1, (d h).2.2.1, fun j hj => (d h).2.2.2 j (by omega) hj⟩⟩
  rw [← decide_not]
  apply decide_eq_decide.mpr
  exact c.trans ⟨fun h h' => h fun j _ b => h' j b, fun h h' => h fun j b => h' j (by omega) b⟩
theorem all_gen {F : Int → Option Bool} {n : Nat} {q : Nat → Bool} (hend : F (n : Int) = some true)
    (heq : ∀ i : Nat, i < n → F (i : Int) = if q i = true then F ((i + 1 : Nat) : Int) else some false) :
    F 0 = some (decide (∀ i, i < n → q i = true)) := by
  have key : ∀ i, i ≤ n → ∃ b, F (i : Int) = some b ∧ (b = true ↔ ∀ j, i ≤ j → j < n → q j = true) := by
    apply down
    · exact ⟨true, hend, ⟨fun _ j a b => by omega, fun _ => rfl⟩⟩
    · intro i hi ⟨b, e, c⟩
      rw [heq i hi, e]
      by_cases hq : q i = true
      · rw [if_pos hq]
        refine ⟨b, rfl, c.trans ⟨fun h j a b => ?_, fun h j a b => h j (by omega) b⟩⟩
        rcases Nat.lt_or_ge i j with z | z
        · exact h j z b
        · have : j = i := by omega
          rw [this, hq]
      · rw [if_neg hq]
        exact ⟨false, rfl, ⟨(fun h => absurd h (by decide)), fun h => absurd (h i (by omega) hi) hq⟩⟩
  obtain ⟨b, e, c⟩ := key 0 (by omega)
  have e' : F 0 = some b := e
  rw [e']
  congr 1
  rw [Bool.eq_iff_iff, decide_eq_true_iff]
  exact c.trans ⟨fun h j b => h j (by omega) b, fun h j _ b => h j b⟩
theorem all_get {l : List Int} {q : Int → Bool} : decide (∀ i, i < l.length → q (rd l (i : Int)) = true) = l.all q := by
  rw [Bool.eq_iff_iff, decide_eq_true_iff, List.all_eq_true]
  constructor
  · intro h x hx
    obtain ⟨i, hi, e⟩ := List.getElem_of_mem hx
    have := h i hi
    rwa [rd_get hi, e] at this
  · intro h i hi
    rw [rd_get hi]; exact h _ (List.getElem_mem hi)
end Go.Proofs.Ythjfilmdobkmlaa.P
end
section
namespace Go.Proofs.Ythjfilmdobkmlaa.P
open Go.RowKit Go.Proofs.YthjfilmdobkmlaaW.PrintWords Go.Proofs.YthjfilmdobkmlaaW.PrintLast Go.Proofs.YthjfilmdobkmlaaW.PrintMore
set_option linter.unusedVariables false
set_option linter.unusedSimpArgs false
theorem wrap_nat {n : Nat} (h : n < 9223372036854775808) : IntKind.i64.wrap (n : Int) = (n : Int) := by rw [IntKind.wrap_i64]; omega
theorem bits_nat {a : Nat} (ha : a < 9223372036854775808) : (BitVec.ofInt IntKind.i64.bits (a : Int)).toNat = a := by
  show (BitVec.ofInt 64 (a : Int)).toNat = a
  rw [BitVec.ofInt_natCast, BitVec.toNat_ofNat]
  exact Nat.mod_eq_of_lt (by omega)
theorem bxor {a b : Nat} (ha : a < 9223372036854775808) (hb : b < 9223372036854775808) : Go.bits .xor .i64 (a : Int) (b : Int) = ((a ^^^ b : Nat) : Int) := by
  show IntKind.i64.wrap ((BitVec.ofInt IntKind.i64.bits (a : Int) ^^^ BitVec.ofInt IntKind.i64.bits (b : Int)).toNat : Int) = _
  rw [BitVec.toNat_xor, bits_nat ha, bits_nat hb]
  exact wrap_nat (Nat.xor_lt_two_pow (n := 63) (by omega) (by omega))
theorem band {a b : Nat} (ha : a < 9223372036854775808) (hb : b < 9223372036854775808) : Go.bits .and .i64 (a : Int) (b : Int) = ((a &&& b : Nat) : Int) := by
  show IntKind.i64.wrap ((BitVec.ofInt IntKind.i64.bits (a : Int) &&& BitVec.ofInt IntKind.i64.bits (b : Int)).toNat : Int) = _
  rw [BitVec.toNat_and, bits_nat ha, bits_nat hb]
  exact wrap_nat (Nat.and_lt_two_pow (n := 63) a (by omega))
theorem bor {a b : Nat} (ha : a < 9223372036854775808) (hb : b < 9223372036854775808) : Go.bits .or .i64 (a : Int) (b : Int) = ((a ||| b : Nat) : Int) := by
  show IntKind.i64.wrap ((BitVec.ofInt IntKind.i64.bits (a : Int) ||| BitVec.ofInt IntKind.i64.bits (b : Int)).toNat : Int) = _
  rw [BitVec.toNat_or, bits_nat ha, bits_nat hb]
  exact wrap_nat (Nat.or_lt_two_pow (n := 63) (by omega) (by omega))
theorem shr_nat {a c : Nat} (hc : c ≤ 64) : shr .i64 (a : Int) (c : Int) = ((a >>> c : Nat) : Int) := by
  show (a : Int) / 2 ^ min (c : Int).toNat 64 = _
  rw [Int.toNat_natCast, Nat.min_eq_left hc, Nat.shiftRight_eq_div_pow]
  simp
theorem shl_nat {a c : Nat} (hc : c ≤ 64) (h : a * 2 ^ c < 9223372036854775808) : shl .i64 (a : Int) (c : Int) = ((a * 2 ^ c : Nat) : Int) := by
  show IntKind.i64.wrap ((a : Int) * 2 ^ min (c : Int).toNat 64) = _
  rw [Int.toNat_natCast, Nat.min_eq_left hc, ← wrap_nat h]
  simp
theorem bit_test {a c : Nat} (ha : a < 9223372036854775808) (hc : c ≤ 64) : Go.bits .and .i64 (shr .i64 (a : Int) (c : Int)) 1 = if a.testBit c = true then 1 else 0 := by
  rw [shr_nat hc]
  have h1 : a >>> c < 9223372036854775808 := by
    rw [Nat.shiftRight_eq_div_pow]
    exact Nat.lt_of_le_of_lt (Nat.div_le_self _ _) ha
  have := band (a := a >>> c) (b := 1) h1 (by omega)
  rw [show ((1 : Nat) : Int) = 1 from rfl] at this
  rw [this, Nat.testBit, Nat.and_comm 1]
  rw [Nat.and_one_is_mod]
  rcases Nat.mod_two_eq_zero_or_one (a >>> c) with e | e <;> rw [e] <;> simp
theorem small62 {x n : Nat} (hn : n ≤ 63) (h : x < 2 ^ n) : x < 9223372036854775808 := Nat.lt_of_lt_of_le h (Nat.le_trans (Nat.pow_le_pow_right (by omega) hn) (by decide))
/-- rows as the program holds them -/
def up (l : List Nat) : List Int := l.map fun (x : Nat) => (x : Int)
theorem up_length (l : List Nat) : (up l).length = l.length := by simp [up]
theorem up_get {l : List Nat} {i : Nat} (h : i < l.length) : rd (up l) (i : Int) = (l[i] : Int) := by
  rw [rd_get (by rw [up_length]; exact h)]; simp [up]
theorem up_set {l : List Nat} {i x : Nat} : (up l).set i (x : Int) = up (l.set i x) := by simp [up, List.map_set]
theorem up_append (l l' : List Nat) : up (l ++ l') = up l ++ up l' := by simp [up]
theorem up_drop (l : List Nat) (i : Nat) : (up l).drop i = up (l.drop i) := by simp [up, List.map_drop]
theorem up_take (l : List Nat) (i : Nat) : (up l).take i = up (l.take i) := by simp [up, List.map_take]
theorem up_of {l : List Int} (h : ∀ x ∈ l, 0 ≤ x) : up (l.map Int.toNat) = l := by
  unfold up
  rw [List.map_map]
  conv => rhs; rw [← List.map_id l]
  apply List.map_congr_left
  intro x hx
  show ((x.toNat : Nat) : Int) = x
  have := h x hx
  omega
/-- a walk upward that writes every place of a list -/
theorem map_gen {α R : Type} {F : List α → Int → R} {n : Nat} {g : Nat → α → α} {r : R} (Q : Nat → α → Prop) (l : List α) (hn : l.length = n)
    (hq : ∀ i, (h : i < l.length) → Q i l[i]) (hg : ∀ i x, Q i x → Q i (g i x))
    (heq : ∀ i : Nat, ∀ a : List α, (hi : i < a.length) → a.length = n → (∀ j, (h : j < a.length) → Q j a[j]) → (∀ j, i ≤ j → (h : j < a.length) → (h' : j < l.length) → a[j] = l[j]) →
      (∀ j, j < i → (h : j < a.length) → (h' : j < l.length) → a[j] = g j l[j]) → F a (i : Int) = F (a.set i (g i (a[i]'hi))) ((i + 1 : Nat) : Int))
    (hend : F (l.mapIdx g) (n : Int) = r) : F l 0 = r := by
  have key : ∀ i, i ≤ n → F (l.mapIdx fun j x => if j < i then g j x else x) (i : Int) = r := by
    apply down
    · have : (l.mapIdx fun j x => if j < n then g j x else x) = l.mapIdx g := by
        apply List.ext_getElem
        · simp
        · intro j h1 h2
          simp only [List.getElem_mapIdx]
          rw [if_pos (by simp at h1; omega)]
      rw [this]; exact hend
    · intro i hi e
      have hil : i < l.length := by omega
      rw [heq i _ (by simp; omega) (by simp; omega) ?_ ?_ ?_, ← e]
      · congr 1
        apply List.ext_getElem
        · simp
        · intro j h1 h2
          simp only [List.getElem_set, List.getElem_mapIdx]
          by_cases c : i = j
          · subst c; simp
          · rw [if_neg c]
            by_cases c2 : j < i
            · simp [c2, show j < i + 1 by omega]
            · simp [c2, show ¬ j < i + 1 by omega]
      · intro j h
        simp only [List.length_mapIdx] at h
        simp only [List.getElem_mapIdx]
        split
        · exact hg j _ (hq j h)
        · exact hq j h
      · intro j hij h h'
        simp only [List.getElem_mapIdx]
        rw [if_neg (by omega)]
      · intro j hij h h'
        simp only [List.getElem_mapIdx]
        rw [if_pos hij]
  have := key 0 (by omega)
  have e : (l.mapIdx fun j x => if j < 0 then g j x else x) = l := by
    apply List.ext_getElem
    · simp
    · intro j h1 h2; simp
  rw [e] at this
  exact this
theorem mapIdx_const {α : Type} (g : α → α) (l : List α) : (l.mapIdx fun _ x => g x) = l.map g := by
  apply List.ext_getElem
  · simp
  · intro j h1 h2; simp
end Go.Proofs.Ythjfilmdobkmlaa.P
end
section
namespace Go.Proofs.Ythjfilmdobkmlaa.P
open Go.RowKit Go.Proofs.YthjfilmdobkmlaaW.PrintWords Go.Proofs.YthjfilmdobkmlaaW.PrintLast Go.Proofs.YthjfilmdobkmlaaW.PrintMore
set_option linter.unusedVariables false
set_option linter.unusedSimpArgs false
theorem up_getD {ln : List Nat} {i : Nat} (h : i < ln.length) : rd (up ln) (i : Int) = ((ln.getD i 0 : Nat) : Int) := by
  rw [up_get h]; simp [List.getD, h]
theorem getD_mem {ln : List Nat} {i : Nat} (h : i < ln.length) : ln.getD i 0 ∈ ln := by
  have : ln.getD i 0 = ln[i] := by simp [List.getD, h]
  rw [this]; exact List.getElem_mem h
/-- a number of m places -/
def elemB (m x : Int) : Bool := decide (0 ≤ x) && decide (x < 2 ^ m.toNat)
theorem elems_up {N : Nat} {l : List Int} (h : l.all (elemB (N : Int)) = true) : ∃ ln : List Nat, l = up ln ∧ ∀ x ∈ ln, x < 2 ^ N := by
  rw [List.all_eq_true] at h
  have he : ∀ x ∈ l, 0 ≤ x ∧ x < 2 ^ N := fun x hx => by
    have := h x hx
    unfold elemB at this
    simpa using this
  refine ⟨l.map Int.toNat, (up_of fun x hx => (he x hx).1).symm, fun x hx => ?_⟩
  obtain ⟨y, hy, rfl⟩ := List.mem_map.mp hx
  have := he y hy
  have e : ((2 ^ N : Nat) : Int) = (2 : Int) ^ N := by simp
  omega
end Go.Proofs.Ythjfilmdobkmlaa.P
end
section
namespace Go.Proofs.Ythjfilmdobkmlaa.P
set_option linter.unusedVariables false
set_option linter.unusedSimpArgs false
/-- a sum of some of the rows -/
inductive Sp (R : List Nat) : Nat → Prop
  | zero : Sp R 0
  | add {r v : Nat} : r ∈ R → Sp R v → Sp R (v ^^^ r)
theorem Sp.mem {R : List Nat} {r : Nat} (h : r ∈ R) : Sp R r := by
  have := Sp.add h Sp.zero
  rwa [Nat.zero_xor] at this
theorem Sp.xor {R : List Nat} {u v : Nat} (hu : Sp R u) (hv : Sp R v) : Sp R (u ^^^ v) := by
  induction hv with
  | zero => rwa [Nat.xor_zero]
  | add h _ ih => rw [← Nat.xor_assoc]; exact Sp.add h ih
theorem Sp.sub {R R' : List Nat} (h : ∀ r ∈ R, Sp R' r) {v : Nat} (hv : Sp R v) : Sp R' v := by
  induction hv with
  | zero => exact Sp.zero
  | add hr _ ih => exact ih.xor (h _ hr)
theorem Sp.mono {R R' : List Nat} (h : ∀ r ∈ R, r ∈ R') {v : Nat} (hv : Sp R v) : Sp R' v := hv.sub fun r hr => Sp.mem (h r hr)
theorem Sp.nil {v : Nat} (h : Sp [] v) : v = 0 := by
  cases h with
  | zero => rfl
  | add h _ => cases h
theorem Sp.cons {r : Nat} {R : List Nat} {v : Nat} (h : Sp (r :: R) v) : Sp R v ∨ Sp R (v ^^^ r) := by
  induction h with
  | zero => exact .inl .zero
  | @add s v hs _ ih =>
    rcases List.mem_cons.mp hs with rfl | hs
    · rcases ih with ih | ih
      · right; rw [Nat.xor_assoc, Nat.xor_self, Nat.xor_zero]; exact ih
      · left; exact ih
    · rcases ih with ih | ih
      · left; exact ih.add hs
      · right; rw [Nat.xor_assoc, Nat.xor_comm s r, ← Nat.xor_assoc]; exact ih.add hs
theorem Sp.bit {R : List Nat} {b : Nat} (h : ∀ r ∈ R, r.testBit b = false) {v : Nat} (hv : Sp R v) : v.testBit b = false := by
  induction hv with
  | zero => exact Nat.zero_testBit b
  | add hr _ ih => rw [Nat.testBit_xor, ih, h _ hr]; rfl
/-- reduced rows R with their leading places C, growing -/
def RED : List Nat → List Nat → Prop
  | [], [] => True
  | r :: R, c :: C => r.testBit c = true ∧ (∀ b, b < c → r.testBit b = false) ∧ (∀ d ∈ C, c < d ∧ r.testBit d = false) ∧ RED R C
  | _, _ => False
theorem RED.low {R C : List Nat} (h : RED R C) {b : Nat} (hb : ∀ d ∈ C, b < d) : ∀ r ∈ R, r.testBit b = false := by
  induction R generalizing C with
  | nil => intro r hr; cases hr
  | cons r R ih =>
    cases C with
    | nil => exact h.elim
    | cons c C =>
      obtain ⟨h1, h2, h3, h4⟩ := h
      intro s hs
      rcases List.mem_cons.mp hs with rfl | hs
      · exact h2 b (hb c (by simp))
      · exact ih h4 (fun d hd => hb d (by simp [hd])) s hs
theorem RED.zero {R C : List Nat} (h : RED R C) {v : Nat} (hv : Sp R v) (h0 : ∀ c ∈ C, v.testBit c = false) : v = 0 := by
  induction R generalizing C v with
  | nil => exact hv.nil
  | cons r R ih =>
    cases C with
    | nil => exact h.elim
    | cons c C =>
      obtain ⟨h1, h2, h3, h4⟩ := h
      have low : ∀ s ∈ R, s.testBit c = false := h4.low fun d hd => (h3 d hd).1
      rcases hv.cons with hv | hv
      · exact ih h4 hv fun d hd => h0 d (by simp [hd])
      · have := hv.bit low
        rw [Nat.testBit_xor, h1, h0 c (by simp)] at this
        cases this
theorem RED.lead {R C : List Nat} (h : RED R C) {v : Nat} (hv : Sp R v) (h0 : v ≠ 0) : ∃ c ∈ C, v.testBit c = true ∧ ∀ b, b < c → v.testBit b = false := by
  induction R generalizing C v with
  | nil => exact absurd hv.nil h0
  | cons r R ih =>
    cases C with
    | nil => exact h.elim
    | cons c C =>
      obtain ⟨h1, h2, h3, h4⟩ := h
      rcases hv.cons with hv | hv
      · obtain ⟨d, hd, a, b⟩ := ih h4 hv h0
        exact ⟨d, by simp [hd], a, b⟩
      · refine ⟨c, by simp, ?_, fun b hb => ?_⟩
        · have := hv.bit (h4.low fun d hd => (h3 d hd).1)
          rw [Nat.testBit_xor, h1] at this
          revert this; cases v.testBit c <;> simp
        · have := hv.bit (h4.low (b := b) fun d hd => Nat.lt_trans hb (h3 d hd).1)
          rw [Nat.testBit_xor, h2 b hb] at this
          revert this; cases v.testBit b <;> simp
theorem RED.nonzero {r c : Nat} (h : r.testBit c = true) : r ≠ 0 := by rintro rfl; rw [Nat.zero_testBit] at h; cases h
theorem RED.head_le {r c : Nat} {R C R' C' : List Nat} {r' c' : Nat} (h : RED (r :: R) (c :: C)) (h' : RED (r' :: R') (c' :: C'))
    (hs : ∀ v, Sp (r' :: R') v → Sp (r :: R) v) : c ≤ c' := by
  obtain ⟨d, hd, a, b⟩ := h.lead (hs r' (Sp.mem (by simp))) (RED.nonzero h'.1)
  have : c ≤ d := by
    rcases List.mem_cons.mp hd with rfl | hd
    · exact Nat.le_refl _
    · exact Nat.le_of_lt (h.2.2.1 d hd).1
  rcases Nat.lt_or_ge c' d with z | z
  · have := b c' z; rw [h'.1] at this; cases this
  · omega
theorem RED.tail {r c : Nat} {R C : List Nat} (h : RED (r :: R) (c :: C)) {v : Nat} : Sp R v ↔ (Sp (r :: R) v ∧ v.testBit c = false) := by
  have low : ∀ s ∈ R, s.testBit c = false := h.2.2.2.low fun d hd => (h.2.2.1 d hd).1
  constructor
  · intro hv; exact ⟨hv.mono fun s hs => by simp [hs], hv.bit low⟩
  · rintro ⟨hv, h0⟩
    rcases hv.cons with hv | hv
    · exact hv
    · have := hv.bit low
      rw [Nat.testBit_xor, h.1, h0] at this; cases this
theorem RED.unique {R C R' C' : List Nat} (h : RED R C) (h' : RED R' C') (hs : ∀ v, Sp R v ↔ Sp R' v) : R = R' ∧ C = C' := by
  induction R generalizing C R' C' with
  | nil =>
    cases C with
    | cons c C => exact h.elim
    | nil =>
      cases R' with
      | nil => cases C' with
        | nil => exact ⟨rfl, rfl⟩
        | cons c' C' => exact h'.elim
      | cons r' R' => cases C' with
        | nil => exact h'.elim
        | cons c' C' => exact absurd ((hs r').mpr (Sp.mem (by simp))).nil (RED.nonzero h'.1)
  | cons r R ih =>
    cases C with
    | nil => exact h.elim
    | cons c C =>
      cases R' with
      | nil => cases C' with
        | nil => exact absurd ((hs r).mp (Sp.mem (by simp))).nil (RED.nonzero h.1)
        | cons c' C' => exact h'.elim
      | cons r' R' =>
        cases C' with
        | nil => exact h'.elim
        | cons c' C' =>
          have e : c = c' := Nat.le_antisymm (h.head_le h' fun v => (hs v).mpr) (h'.head_le h fun v => (hs v).mp)
          subst e
          obtain ⟨e1, e2⟩ := ih h.2.2.2 h'.2.2.2 fun v => by rw [h.tail, h'.tail, hs v]
          subst e1 e2
          refine ⟨?_, rfl⟩
          have hz : r ^^^ r' = 0 := by
            refine h.zero (Sp.xor (Sp.mem (by simp)) ((hs r').mpr (Sp.mem (by simp)))) fun d hd => ?_
            rw [Nat.testBit_xor]
            rcases List.mem_cons.mp hd with rfl | hd
            · rw [h.1, h'.1]; rfl
            · rw [(h.2.2.1 d hd).2, (h'.2.2.1 d hd).2]; rfl
          have : r = r' := by
            have := congrArg (· ^^^ r') hz
            simp only [Nat.xor_assoc, Nat.xor_self, Nat.xor_zero, Nat.zero_xor] at this
            exact this
          rw [this]
theorem RED.snoc {R C : List Nat} (h : RED R C) {r c : Nat} (h1 : r.testBit c = true) (h2 : ∀ b, b < c → r.testBit b = false) (hC : ∀ d ∈ C, d < c) (hR : ∀ s ∈ R, s.testBit c = false) : RED (R ++ [r]) (C ++ [c]) := by
  induction R generalizing C with
  | nil =>
    cases C with
    | cons c C => exact h.elim
    | nil => exact ⟨h1, h2, (fun d hd => by cases hd), trivial⟩
  | cons s R ih =>
    cases C with
    | nil => exact h.elim
    | cons d C =>
      refine ⟨h.1, h.2.1, fun e he => ?_, ih h.2.2.2 (fun e he => hC e (by simp [he])) (fun s hs => hR s (by simp [hs]))⟩
      rcases List.mem_append.mp he with he | he
      · exact h.2.2.1 e he
      · rw [List.mem_singleton] at he
        subst he
        exact ⟨hC d (by simp), hR s (by simp)⟩
/-- a row x becomes x + r where it has the place c -/
def clr (c r x : Nat) : Nat := if x.testBit c = true then x ^^^ r else x
theorem clr_bit {c r x : Nat} (h : r.testBit c = true) : (clr c r x).testBit c = false := by
  unfold clr
  split
  · rename_i hx; rw [Nat.testBit_xor, hx, h]; rfl
  · rename_i hx; exact Bool.eq_false_iff.mpr hx
theorem clr_low {c r x b : Nat} (h : r.testBit b = false) : (clr c r x).testBit b = x.testBit b := by
  unfold clr
  split
  · rw [Nat.testBit_xor, h, Bool.xor_false]
  · rfl
theorem clr_lt {c r x n : Nat} (hr : r < 2 ^ n) (hx : x < 2 ^ n) : clr c r x < 2 ^ n := by
  unfold clr
  split
  · exact Nat.xor_lt_two_pow hx hr
  · exact hx
theorem RED.clr {R C : List Nat} (h : RED R C) {r c : Nat} (hr : ∀ d ∈ C, r.testBit d = false) (hl : ∀ d ∈ C, ∀ b, b < d → r.testBit b = false) : RED (R.map (clr c r)) C := by
  induction R generalizing C with
  | nil => exact h
  | cons s R ih =>
    cases C with
    | nil => exact h.elim
    | cons d C =>
      refine ⟨?_, fun b hb => ?_, fun e he => ⟨(h.2.2.1 e he).1, ?_⟩, ih h.2.2.2 (fun e he => hr e (by simp [he])) (fun e he => hl e (by simp [he]))⟩
      · rw [clr_low (hr d (by simp))]; exact h.1
      · rw [clr_low (hl d (by simp) b hb)]; exact h.2.1 b hb
      · rw [clr_low (hr e (by simp [he]))]; exact (h.2.2.1 e he).2
theorem Sp.clr {R : List Nat} {c r x : Nat} (hr : Sp R r) (hx : Sp R x) : Sp R (clr c r x) := by
  unfold P.clr
  split
  · exact hx.xor hr
  · exact hx
theorem Sp.of_clr {R : List Nat} {c r x : Nat} (hr : Sp R r) (hx : Sp R (P.clr c r x)) : Sp R x := by
  unfold P.clr at hx
  split at hx
  · have := hx.xor hr
    rwa [Nat.xor_assoc, Nat.xor_self, Nat.xor_zero] at this
  · exact hx
end Go.Proofs.Ythjfilmdobkmlaa.P
end
section
namespace Go.Proofs.Ythjfilmdobkmlaa.P
open Go.RowKit Go.Proofs.YthjfilmdobkmlaaW.PrintWords Go.Proofs.YthjfilmdobkmlaaW.PrintLast Go.Proofs.YthjfilmdobkmlaaW.PrintMore
set_option linter.unusedVariables false
set_option linter.unusedSimpArgs false
theorem s_bit_v {a k : Nat} (ha : a < 4611686018427387904) (hk : k ≤ 62) : spec_l02Bit.f (a : Int) (k : Int) = some (if a.testBit k = true then 1 else 0) := by
  unfold spec_l02Bit.f
  rw [u64_id (by omega) (by omega), if_pos (by omega), bit_test (by omega) (by omega)]
theorem bit_if_pos {b : Bool} (h : b = true) : ((if b = true then 1 else 0 : Int) = 1) = True := by rw [h]; simp
theorem bit_if_neg {b : Bool} (h : b = false) : ((if b = true then 1 else 0 : Int) = 1) = False := by rw [h]; simp
theorem s_find_none {N k : Nat} (hk : k ≤ 61) {ln : List Nat} {out : List Int} (hl : ln.length ≤ 17592186044416) (hb : ∀ x ∈ ln, x < 4611686018427387904)
    (h : ∀ j, (hj : j < ln.length) → ln[j].testBit k = false) : spec_l02Echelon.l1d (N : Int) (up ln) out (k : Int) (-1) 0 = spec_l02Echelon.l0d (N : Int) (up ln) out ((k + 1 : Nat) : Int) := by
  have key : ∀ i, i ≤ ln.length → spec_l02Echelon.l1d (N : Int) (up ln) out (k : Int) (-1) (i : Int) = spec_l02Echelon.l0d (N : Int) (up ln) out ((k + 1 : Nat) : Int) := by
    apply down
    · rw [spec_l02Echelon.l1d_eq, if_neg (by rw [up_length]; omega), spec_l02Echelon.j2d_eq, if_neg (by decide), if_pos (by decide), wrS (n := 62) (by omega) (by omega)]
    · intro i hi e
      rw [spec_l02Echelon.l1d_eq, if_pos (by rw [up_length]; omega), spec_l02Echelon.j2d_eq, if_pos (by decide), if_pos (by omega), if_pos (by rw [up_length]; omega), up_get hi, s_bit_v (hb _ (List.getElem_mem hi)) (by omega), bind_some',
        if_neg (by rw [bit_if_neg (h i hi)]; exact id), wrS hi hl, e]
  exact key 0 (by omega)
theorem s_find_some {N k : Nat} (hk : k ≤ 61) {ln : List Nat} {out : List Int} (hl : ln.length ≤ 17592186044416) (hb : ∀ x ∈ ln, x < 4611686018427387904)
    {j : Nat} (hj : j < ln.length) (hbit : ln[j].testBit k = true) (h : ∀ t, (ht : t < j) → (ln[t]'(by omega)).testBit k = false) :
    spec_l02Echelon.l1d (N : Int) (up ln) out (k : Int) (-1) 0 = spec_l02Echelon.l2d (N : Int) (up (ln.set j 0)) out (k : Int) (ln[j] : Int) 0 := by
  have key : ∀ i, i ≤ j → spec_l02Echelon.l1d (N : Int) (up ln) out (k : Int) (-1) (i : Int) = spec_l02Echelon.l2d (N : Int) (up (ln.set j 0)) out (k : Int) (ln[j] : Int) 0 := by
    apply down
    · have e2 : ∀ i : Int, spec_l02Echelon.j2d (N : Int) (up ln) out (k : Int) (j : Int) i false = spec_l02Echelon.l2d (N : Int) (up (ln.set j 0)) out (k : Int) (ln[j] : Int) 0 := by
        intro i
        rw [spec_l02Echelon.j2d_eq, if_neg (by decide), if_neg (by omega), if_pos (by omega), if_pos (by rw [up_length]; omega), up_get hj, Int.toNat_natCast]
        rw [← up_set]; rfl
      rw [spec_l02Echelon.l1d_eq, if_pos (by rw [up_length]; omega), spec_l02Echelon.j2d_eq, if_pos (by decide), if_pos (by omega), if_pos (by rw [up_length]; omega), up_get hj, s_bit_v (hb _ (List.getElem_mem hj)) (by omega), bind_some',
        if_pos (by rw [bit_if_pos hbit]; trivial), spec_l02Echelon.l1d_eq]
      have e3 : decide ((j : Int) < 0) = false := decide_eq_false (by omega)
      rw [e3]
      split
      · exact e2 _
      · exact e2 _
    · intro i hi e
      have hi' : i < ln.length := by omega
      rw [spec_l02Echelon.l1d_eq, if_pos (by rw [up_length]; omega), spec_l02Echelon.j2d_eq, if_pos (by decide), if_pos (by omega), if_pos (by rw [up_length]; omega), up_get hi', s_bit_v (hb _ (List.getElem_mem hi')) (by omega), bind_some',
        if_neg (by rw [bit_if_neg (h i hi)]; exact id), wrS hi' hl, e]
  exact key 0 (by omega)
theorem clr_lt62 {c r x : Nat} (hr : r < 4611686018427387904) (hx : x < 4611686018427387904) : clr c r x < 4611686018427387904 := by
  have := clr_lt (n := 62) (c := c) (r := r) (x := x) (by omega) (by omega)
  omega
theorem clr_set {c r : Nat} {a : List Nat} {i : Nat} (hi : i < a.length) (h : a[i].testBit c = false) : a.set i (clr c r a[i]) = a := by
  unfold clr
  rw [if_neg (by rw [h]; decide), List.set_getElem_self]
theorem s_clear_left {N k lead : Nat} (hk : k ≤ 61) {ln : List Nat} {out : List Int} (hl : ln.length ≤ 17592186044416) (hb : ∀ x ∈ ln, x < 4611686018427387904) (hlead : lead < 4611686018427387904) :
    spec_l02Echelon.l2d (N : Int) (up ln) out (k : Int) (lead : Int) 0 = spec_l02Echelon.l3d (N : Int) (up (ln.map (clr k lead))) out (k : Int) (lead : Int) 0 := by
  refine map_gen (F := fun a i => spec_l02Echelon.l2d (N : Int) (up a) out (k : Int) (lead : Int) i) (n := ln.length) (g := fun _ x => clr k lead x) (fun _ x => x < 4611686018427387904) ln rfl
    (fun i h => hb _ (List.getElem_mem h)) (fun _ _ h => clr_lt62 hlead h) ?_ ?_
  · intro i a hi ha hq _ _
    show spec_l02Echelon.l2d (N : Int) (up a) out (k : Int) (lead : Int) (i : Int) = spec_l02Echelon.l2d (N : Int) (up (a.set i (clr k lead a[i]))) out (k : Int) (lead : Int) ((i + 1 : Nat) : Int)
    rw [spec_l02Echelon.l2d_eq, if_pos (by rw [up_length]; omega), if_pos (by omega), up_get hi, s_bit_v (hq i hi) (by omega), bind_some', wrS (n := ln.length) (by omega) hl]
    by_cases c : a[i].testBit k = true
    · rw [if_pos (by rw [bit_if_pos c]; trivial), bxor (by have := hq i hi; omega) (by omega), Int.toNat_natCast, up_set]
      unfold clr; rw [if_pos c]
    · have c' := Bool.eq_false_iff.mpr c
      rw [if_neg (by rw [bit_if_neg c']; exact id), clr_set hi c']
  · show spec_l02Echelon.l2d (N : Int) (up (ln.mapIdx fun _ x => clr k lead x)) out (k : Int) (lead : Int) (ln.length : Int) = _
    rw [mapIdx_const, spec_l02Echelon.l2d_eq, if_neg (by rw [up_length, List.length_map]; omega)]
theorem s_clear_out {N k lead : Nat} (hk : k ≤ 61) {left : List Int} {on : List Nat} (hl : on.length ≤ 62) (hb : ∀ x ∈ on, x < 4611686018427387904) (hlead : lead < 4611686018427387904) :
    spec_l02Echelon.l3d (N : Int) left (up on) (k : Int) (lead : Int) 0 = spec_l02Echelon.l0d (N : Int) left (up (on.map (clr k lead) ++ [lead])) ((k + 1 : Nat) : Int) := by
  refine map_gen (F := fun a i => spec_l02Echelon.l3d (N : Int) left (up a) (k : Int) (lead : Int) i) (n := on.length) (g := fun _ x => clr k lead x) (fun _ x => x < 4611686018427387904) on rfl
    (fun i h => hb _ (List.getElem_mem h)) (fun _ _ h => clr_lt62 hlead h) ?_ ?_
  · intro i a hi ha hq _ _
    show spec_l02Echelon.l3d (N : Int) left (up a) (k : Int) (lead : Int) (i : Int) = spec_l02Echelon.l3d (N : Int) left (up (a.set i (clr k lead a[i]))) (k : Int) (lead : Int) ((i + 1 : Nat) : Int)
    rw [spec_l02Echelon.l3d_eq, if_pos (by rw [up_length]; omega), if_pos (by omega), up_get hi, s_bit_v (hq i hi) (by omega), bind_some', wrS (n := on.length) (by omega) (by omega)]
    by_cases c : a[i].testBit k = true
    · rw [if_pos (by rw [bit_if_pos c]; trivial), bxor (by have := hq i hi; omega) (by omega), Int.toNat_natCast, up_set]
      unfold clr; rw [if_pos c]
    · have c' := Bool.eq_false_iff.mpr c
      rw [if_neg (by rw [bit_if_neg c']; exact id), clr_set hi c']
  · show spec_l02Echelon.l3d (N : Int) left (up (on.mapIdx fun _ x => clr k lead x)) (k : Int) (lead : Int) (on.length : Int) = _
    rw [mapIdx_const, spec_l02Echelon.l3d_eq, if_neg (by rw [up_length, List.length_map]; omega), if_pos (by rw [up_length, List.length_map]; omega), wrS (n := 62) (by omega) (by omega), up_append]; rfl
theorem low_zero {N x : Nat} (h : x < 2 ^ N) (h0 : ∀ b, b < N → x.testBit b = false) : x = 0 := by
  apply Nat.eq_of_testBit_eq
  intro b
  rw [Nat.zero_testBit]
  rcases Nat.lt_or_ge b N with z | z
  · exact h0 b z
  · exact Nat.testBit_lt_two_pow (Nat.lt_of_lt_of_le h (Nat.pow_le_pow_right (by omega) z))
theorem pow62 {N x : Nat} (hN : N ≤ 62) (h : x < 2 ^ N) : x < 4611686018427387904 :=
  Nat.lt_of_lt_of_le h (Nat.le_trans (Nat.pow_le_pow_right (by omega) hN) (by decide))
/-- the first place that has the bit, or none -/
theorem first_bit (l : List Nat) (k : Nat) : (∀ j, (h : j < l.length) → l[j].testBit k = false) ∨
    ∃ j, ∃ h : j < l.length, l[j].testBit k = true ∧ ∀ t, (ht : t < j) → (l[t]'(by omega)).testBit k = false := by
  induction l with
  | nil => exact .inl fun j h => by simp at h
  | cons x l ih =>
    by_cases c : x.testBit k = true
    · exact .inr ⟨0, by simp, c, fun t ht => by omega⟩
    · have c' := Bool.eq_false_iff.mpr c
      rcases ih with ih | ⟨j, h, a, b⟩
      · refine .inl fun j h => ?_
        cases j with
        | zero => exact c'
        | succ j => exact ih j (by simpa using h)
      · refine .inr ⟨j + 1, by simpa using h, a, fun t ht => ?_⟩
        cases t with
        | zero => exact c'
        | succ t => exact b t (by omega)
theorem s_ech_loop {N : Nat} (hN : N ≤ 62) : ∀ k, k ≤ N → ∀ (left out : List Nat), left.length ≤ 17592186044416 → (∀ x ∈ left, x < 2 ^ N ∧ ∀ b, b < k → x.testBit b = false) →
    (∀ x ∈ out, x < 2 ^ N) → out.length ≤ k → (∃ C, RED out C ∧ ∀ d ∈ C, d < k) →
    ∃ R C, spec_l02Echelon.l0d (N : Int) (up left) (up out) (k : Int) = some (up R) ∧ RED R C ∧ (∀ v, Sp R v ↔ Sp (out ++ left) v) ∧ (∀ x ∈ R, x < 2 ^ N) ∧ R.length ≤ N ∧ (∀ d ∈ C, d < N) := by
  apply down
  · intro left out hll hleft hout hlen ⟨C, hC, hd⟩
    refine ⟨out, C, ?_, hC, fun v => ⟨fun h => h.mono fun r hr => by simp [hr], fun h => h.sub fun r hr => ?_⟩, hout, hlen, hd⟩
    · rw [spec_l02Echelon.l0d_eq, if_neg (by omega)]
    · rcases List.mem_append.mp hr with hr | hr
      · exact Sp.mem hr
      · rw [low_zero (hleft r hr).1 (hleft r hr).2]; exact Sp.zero
  · intro k hk ih left out hll hleft hout hlen ⟨C, hC, hd⟩
    have b62 : ∀ x ∈ left, x < 4611686018427387904 := fun x hx => pow62 hN (hleft x hx).1
    rw [spec_l02Echelon.l0d_eq, if_pos (by omega)]
    rcases first_bit left k with h | ⟨j, hj, hbit, hfirst⟩
    · rw [s_find_none (by omega) hll b62 h]
      refine ih left out hll (fun x hx => ⟨(hleft x hx).1, fun b hb => ?_⟩) hout (by omega) ⟨C, hC, fun d hd' => Nat.lt_succ_of_lt (hd d hd')⟩
      rcases Nat.lt_or_ge b k with z | z
      · exact (hleft x hx).2 b z
      · obtain ⟨t, ht, e⟩ := List.getElem_of_mem hx
        rw [show b = k by omega, ← e]; exact h t ht
    · obtain ⟨lead, hlead⟩ : ∃ lead, lead = left[j] := ⟨_, rfl⟩
      have hmem : lead ∈ left := hlead ▸ List.getElem_mem hj
      have hl1 := (hleft lead hmem).1
      have hl2 := (hleft lead hmem).2
      rw [← hlead] at hbit
      have bset : ∀ x ∈ left.set j 0, x < 2 ^ N ∧ ∀ b, b < k → x.testBit b = false := by
        intro x hx
        rcases List.mem_or_eq_of_mem_set hx with hx | rfl
        · exact hleft x hx
        · exact ⟨Nat.two_pow_pos N, fun b _ => Nat.zero_testBit b⟩
      rw [s_find_some (by omega) hll b62 hj (by rw [← hlead]; exact hbit) hfirst, ← hlead,
        s_clear_left (by omega) (by rw [List.length_set]; exact hll) (fun x hx => pow62 hN (bset x hx).1) (pow62 hN hl1),
        s_clear_out (by omega) (by omega) (fun x hx => pow62 hN (hout x hx)) (pow62 hN hl1)]
      obtain ⟨R, C', e, hR, hs, hb, hlen', hd'⟩ := ih ((left.set j 0).map (clr k lead)) (out.map (clr k lead) ++ [lead]) (by simp; exact hll)
        (by
          intro x hx
          obtain ⟨y, hy, rfl⟩ := List.mem_map.mp hx
          refine ⟨clr_lt hl1 (bset y hy).1, fun b hb => ?_⟩
          rcases Nat.lt_or_ge b k with z | z
          · rw [clr_low (hl2 b z)]; exact (bset y hy).2 b z
          · rw [show b = k by omega]; exact clr_bit hbit)
        (by
          intro x hx
          rcases List.mem_append.mp hx with hx | hx
          · obtain ⟨y, hy, rfl⟩ := List.mem_map.mp hx
            exact clr_lt hl1 (hout y hy)
          · rw [List.mem_singleton] at hx; rw [hx]; exact hl1)
        (by simp; omega)
        ⟨C ++ [k], RED.snoc (hC.clr (fun d h => hl2 d (hd d h)) (fun d h b hb => hl2 b (Nat.lt_trans hb (hd d h)))) hbit hl2 hd (by
            intro s hs
            obtain ⟨y, hy, rfl⟩ := List.mem_map.mp hs
            exact clr_bit hbit), by
          intro d h
          rcases List.mem_append.mp h with h | h
          · exact Nat.lt_succ_of_lt (hd d h)
          · rw [List.mem_singleton] at h; omega⟩
      refine ⟨R, C', e, hR, fun v => (hs v).trans ⟨fun h => h.sub fun r hr => ?_, fun h => h.sub fun r hr => ?_⟩, hb, hlen', hd'⟩
      · have sl : Sp (out ++ left) lead := Sp.mem (by simp [hmem])
        rcases List.mem_append.mp hr with hr | hr
        · rcases List.mem_append.mp hr with hr | hr
          · obtain ⟨y, hy, rfl⟩ := List.mem_map.mp hr
            exact Sp.clr sl (Sp.mem (by simp [hy]))
          · rw [List.mem_singleton] at hr; rw [hr]; exact sl
        · obtain ⟨y, hy, rfl⟩ := List.mem_map.mp hr
          refine Sp.clr sl ?_
          rcases List.mem_or_eq_of_mem_set hy with hy | rfl
          · exact Sp.mem (by simp [hy])
          · exact Sp.zero
      · have sl : Sp (List.map (clr k lead) out ++ [lead] ++ List.map (clr k lead) (left.set j 0)) lead := Sp.mem (by simp)
        rcases List.mem_append.mp hr with hr | hr
        · exact Sp.of_clr sl (Sp.mem (List.mem_append.mpr (.inl (List.mem_append.mpr (.inl (List.mem_map.mpr ⟨r, hr, rfl⟩))))))
        · obtain ⟨t, ht, e⟩ := List.getElem_of_mem hr
          by_cases c : j = t
          · subst c; rw [← e, ← hlead]; exact sl
          · refine Sp.of_clr sl (Sp.mem (List.mem_append.mpr (.inr (List.mem_map.mpr ⟨r, ?_, rfl⟩))))
            rw [← e, ← List.getElem_set_ne (l := left) (a := 0) c (by simpa using ht)]
            exact List.getElem_mem _
theorem s_ech_v {N : Nat} (hN : N ≤ 62) {ln : List Nat} (hl : ln.length ≤ 1048576) (hb : ∀ x ∈ ln, x < 2 ^ N) :
    ∃ R C, spec_l02Echelon.d (N : Int) (up ln) = some (up R) ∧ RED R C ∧ (∀ v, Sp R v ↔ Sp ln v) ∧ (∀ x ∈ R, x < 2 ^ N) ∧ R.length ≤ N ∧ (∀ d ∈ C, d < N) := by
  obtain ⟨R, C, e, h⟩ := s_ech_loop hN 0 (by omega) ln [] (by omega) (fun x hx => ⟨hb x hx, fun b h => by omega⟩) (fun x hx => nomatch hx) (by simp) ⟨[], trivial, fun d hd => nomatch hd⟩
  refine ⟨R, C, ?_, by simpa using h⟩
  rw [spec_l02Echelon.d_eq]
  unfold spec_l00Own.f
  rw [bind_some', if_pos (by simp [up_length]; omega), bind_some', List.nil_append]
  exact e
theorem i_bit_v {a c : Nat} (ha : a < 4611686018427387904) (hc : c ≤ 62) : impl_echelon_1.f (a : Int) (c : Int) = some (a.testBit c) := by
  unfold impl_echelon_1.f
  rw [if_pos (by omega), bit_test (by omega) (by omega)]
  cases a.testBit c <;> simp
theorem i_find_v {m : List Nat} {c : Nat} (hc : c ≤ 61) (hl : m.length ≤ 17592186044416) (hb : ∀ x ∈ m, x < 4611686018427387904) :
    ∃ v, slices_IndexFunc_int64_int64_AT_impl_echelon_1.d (up m) (c : Int) = some v ∧ ((v < 0 ∧ ∀ j, (h : j < m.length) → m[j].testBit c = false) ∨ ∃ j, ∃ h : j < m.length, v = (j : Int) ∧ m[j].testBit c = true) := by
  rw [slices_IndexFunc_int64_int64_AT_impl_echelon_1.d_eq]
  obtain ⟨v, e, d, s⟩ := index_gen (F := fun i => slices_IndexFunc_int64_int64_AT_impl_echelon_1.l0d (up m) ((up m).length : Int) i (c : Int)) (n := m.length) (q := fun i => (m.getD i 0).testBit c)
    (by show slices_IndexFunc_int64_int64_AT_impl_echelon_1.l0d (up m) ((up m).length : Int) (m.length : Int) (c : Int) = _
        rw [slices_IndexFunc_int64_int64_AT_impl_echelon_1.l0d_eq, if_neg (by rw [up_length]; omega)])
    (by intro i hi
        show slices_IndexFunc_int64_int64_AT_impl_echelon_1.l0d (up m) ((up m).length : Int) (i : Int) (c : Int) = _
        have hg : m.getD i 0 = m[i] := by simp [List.getD_eq_getElem?_getD, hi]
        rw [slices_IndexFunc_int64_int64_AT_impl_echelon_1.l0d_eq, if_pos (by rw [up_length]; omega), if_pos (by omega), if_pos (by rw [up_length]; omega), up_get hi, i_bit_v (hb _ (List.getElem_mem hi)) (by omega), bind_some', wrS hi hl, hg])
  refine ⟨v, e, ?_⟩
  by_cases h : ∀ i, i < m.length → (m.getD i 0).testBit c = false
  · left
    rw [decide_eq_true h] at d
    refine ⟨by have : ¬ v ≥ 0 := by simpa using d
               omega, fun j hj => ?_⟩
    have := h j hj
    rwa [List.getD_eq_getElem?_getD, List.getElem?_eq_getElem hj] at this
  · right
    rw [decide_eq_false h] at d
    have hv : 0 ≤ v := by simpa using d
    obtain ⟨a1, a2, _⟩ := s hv
    refine ⟨v.toNat, a1, by omega, ?_⟩
    rwa [List.getD_eq_getElem?_getD, List.getElem?_eq_getElem a1] at a2
/-- two places change their rows -/
def swp (x : List Nat) (d p : Nat) (hd : d < x.length) (hp : p < x.length) : List Nat := (x.set d x[p]).set p x[d]
theorem swp_length {x : List Nat} {d p : Nat} (hd : d < x.length) (hp : p < x.length) : (swp x d p hd hp).length = x.length := by simp [swp]
theorem swp_get {x : List Nat} {d p : Nat} (hd : d < x.length) (hp : p < x.length) {j : Nat} (h : j < (swp x d p hd hp).length) :
    (swp x d p hd hp)[j] = if p = j then x[d] else if d = j then x[p] else x[j]'(by rw [swp_length] at h; exact h) := by
  have h2 : j < ((x.set d x[p]).set p x[d]).length := h
  have e : ((x.set d x[p]).set p x[d])[j]'h2 = if p = j then x[d] else if d = j then x[p] else x[j]'(by rw [swp_length] at h; exact h) := by
    rw [List.getElem_set, List.getElem_set]
  exact e
theorem swp_mem {x : List Nat} {d p : Nat} (hd : d < x.length) (hp : p < x.length) {r : Nat} (h : r ∈ swp x d p hd hp) : r ∈ x := by
  obtain ⟨j, hj, e⟩ := List.getElem_of_mem h
  rw [swp_get] at e
  split at e
  · rw [← e]; exact List.getElem_mem _
  · split at e
    · rw [← e]; exact List.getElem_mem _
    · rw [← e]; exact List.getElem_mem _
def clrBut (d c lead : Nat) (i x : Nat) : Nat := if i = d then x else clr c lead x
theorem i_clear {x : List Nat} {d c : Nat} (hc : c ≤ 61) (hd : d < x.length) (hl : x.length ≤ 17592186044416) (hb : ∀ y ∈ x, y < 4611686018427387904) :
    impl_echelon.l1d (up x) (d : Int) (x.length : Int) 0 (c : Int) = impl_echelon.l0d (up (x.mapIdx (clrBut d c x[d]))) ((d + 1 : Nat) : Int) ((c + 1 : Nat) : Int) := by
  have hlead := hb _ (List.getElem_mem hd)
  refine map_gen (F := fun a i => impl_echelon.l1d (up a) (d : Int) (x.length : Int) i (c : Int)) (n := x.length) (g := clrBut d c x[d]) (fun _ y => y < 4611686018427387904) x rfl
    (fun i h => hb _ (List.getElem_mem h)) (fun i y h => ?_) ?_ ?_
  · unfold clrBut
    split
    · exact h
    · exact clr_lt62 hlead h
  · intro i a hi ha hq hge hlt
    show impl_echelon.l1d (up a) (d : Int) (x.length : Int) (i : Int) (c : Int) = impl_echelon.l1d (up (a.set i (clrBut d c x[d] i a[i]))) (d : Int) (x.length : Int) ((i + 1 : Nat) : Int) (c : Int)
    have had : a[d]'(by omega) = x[d] := by
      rcases Nat.lt_or_ge d i with z | z
      · rw [hlt d z (by omega) hd]; unfold clrBut; rw [if_pos rfl]
      · exact hge d z (by omega) hd
    rw [impl_echelon.l1d_eq, if_pos (by omega)]
    by_cases e : i = d
    · rw [if_pos (by omega), wrS (n := x.length) (by omega) hl]
      unfold clrBut
      rw [if_pos e, List.set_getElem_self]
    · rw [if_neg (by omega), if_pos (by omega), if_pos (by rw [up_length]; omega), if_pos (by omega), up_get hi, bit_test (by have := hq i hi; omega) (by omega), wrS (n := x.length) (by omega) hl, up_get (show d < a.length by omega), had]
      unfold clrBut
      rw [if_neg e]
      by_cases t : a[i].testBit c = true
      · rw [if_pos (by rw [bit_if_pos t]; trivial), if_pos (by omega), if_pos (by rw [up_length]; omega), bxor (by have := hq i hi; omega) (by omega), Int.toNat_natCast, up_set]
        unfold clr; rw [if_pos t]
      · have t' := Bool.eq_false_iff.mpr t
        rw [if_neg (by rw [bit_if_neg t']; exact id), clr_set hi t']
  · show impl_echelon.l1d (up (x.mapIdx (clrBut d c x[d]))) (d : Int) (x.length : Int) (x.length : Int) (c : Int) = _
    rw [impl_echelon.l1d_eq, if_neg (by omega), wrS (n := x.length) (by omega) hl, wrS (n := 62) (by omega) (by omega)]
theorem i_ech_end {N : Nat} (hN : N ≤ 62) {x : List Nat} {d : Nat} {c : Int} (hd : d ≤ x.length) : impl_echelon.j1d (up x) (d : Int) false c = some (up (x.take d)) := by
  rw [impl_echelon.j1d_eq, if_neg (by decide), if_pos (by omega), if_pos (by rw [up_length]; omega), Int.toNat_natCast, up_take]
theorem i_ech_loop {N : Nat} (hN : N ≤ 62) : ∀ c, c ≤ 62 → ∀ (x : List Nat) (d : Nat), x.length ≤ 17592186044416 → d ≤ x.length → (∀ y ∈ x, y < 2 ^ N) →
    (∀ j, d ≤ j → (h : j < x.length) → ∀ b, b < c → x[j].testBit b = false) → (∃ C, RED (x.take d) C ∧ ∀ e ∈ C, e < c) →
    ∃ R C, impl_echelon.l0d (up x) (d : Int) (c : Int) = some (up R) ∧ RED R C ∧ (∀ v, Sp R v ↔ Sp x v) := by
  apply down
  · intro x d hl hd hb hlow ⟨C, hC, _⟩
    refine ⟨x.take d, C, ?_, hC, fun v => ⟨fun h => h.mono fun r hr => List.mem_of_mem_take hr, fun h => h.sub fun r hr => ?_⟩⟩
    · rw [impl_echelon.l0d_eq, if_neg (by omega), i_ech_end hN hd]
    · obtain ⟨j, hj, e⟩ := List.getElem_of_mem hr
      rcases Nat.lt_or_ge j d with z | z
      · refine Sp.mem ?_
        have hjt : j < (x.take d).length := by rw [List.length_take]; omega
        have := List.getElem_mem hjt
        rw [List.getElem_take] at this
        rw [← e]; exact this
      · have : r = 0 := low_zero (N := 62) (Nat.lt_of_lt_of_le (hb r hr) (Nat.pow_le_pow_right (by omega) hN)) (by rw [← e]; exact hlow j z hj)
        rw [this]; exact Sp.zero
  · intro c hc ih x d hl hd hb hlow ⟨C, hC, hCc⟩
    have b62 : ∀ y ∈ x, y < 4611686018427387904 := fun y hy => pow62 hN (hb y hy)
    rw [impl_echelon.l0d_eq, if_pos (by omega)]
    by_cases hdl : d < x.length
    · rw [decide_eq_true (by rw [up_length]; omega), impl_echelon.j1d_eq, if_pos rfl, if_pos (by omega), if_pos (by rw [up_length]; omega), Int.toNat_natCast, up_drop]
      obtain ⟨v, ev, hv⟩ := i_find_v (m := x.drop d) (c := c) (by omega) (by rw [List.length_drop]; omega) (fun y hy => b62 y (List.mem_of_mem_drop hy))
      rw [ev, bind_some']
      rcases hv with ⟨hv, hnone⟩ | ⟨t, ht, rfl, hbit⟩
      · rw [if_pos hv, wrS (n := 62) (by omega) (by omega)]
        refine ih x d hl hd hb (fun j hj h b hbc => ?_) ⟨C, hC, fun e he => Nat.lt_succ_of_lt (hCc e he)⟩
        rcases Nat.lt_or_ge b c with z | z
        · exact hlow j hj h b z
        · have := hnone (j - d) (by rw [List.length_drop]; omega)
          rw [List.getElem_drop] at this
          simp only [show d + (j - d) = j by omega] at this
          rw [show b = c by omega]; exact this
      · rw [List.length_drop] at ht
        rw [List.getElem_drop] at hbit
        have hp : d + t < x.length := by omega
        have ep : wrap64 ((d : Int) + (t : Int)) = ((d + t : Nat) : Int) := by rw [wr (by omega) (by omega)]; omega
        rw [if_neg (by omega), ep, if_pos (by omega), if_pos (by rw [up_length]; omega), if_pos (by rw [up_length]; omega), up_get hp, up_get hdl]
        simp only [Int.toNat_natCast]
        rw [up_set, up_set, up_length]
        obtain ⟨p, hpe⟩ : ∃ p, p = d + t := ⟨_, rfl⟩
        have hp' : p < x.length := by omega
        have esw : (x.set d (x[d + t]'hp)).set (d + t) x[d] = swp x d p hdl hp' := by subst hpe; rfl
        have hbit' : x[p].testBit c = true := by subst hpe; exact hbit
        rw [esw]
        obtain ⟨s, hs⟩ : ∃ s, s = swp x d p hdl hp' := ⟨_, rfl⟩
        rw [← hs]
        have hsl : s.length = x.length := by rw [hs, swp_length]
        have hsd : d < s.length := by omega
        have hg : ∀ j, (h : j < s.length) → s[j] = if p = j then x[d] else if d = j then x[p] else x[j]'(by omega) := by
          intro j h; subst hs; exact swp_get hdl hp' h
        have hsm : ∀ r ∈ s, r ∈ x := fun r hr => swp_mem hdl hp' (hs ▸ hr)
        have hdp : d ≤ p := by omega
        obtain ⟨lead, hlead⟩ : ∃ lead, lead = s[d] := ⟨_, rfl⟩
        have elead : lead = x[p] := by
          rw [hlead, hg d hsd]
          by_cases z : p = d
          · rw [if_pos z]; simp only [z]
          · rw [if_neg z, if_pos rfl]
        have lbit : lead.testBit c = true := by rw [elead]; exact hbit'
        have llow : ∀ b, b < c → lead.testBit b = false := by rw [elead]; exact hlow p hdp hp'
        have llt : lead < 2 ^ N := by rw [elead]; exact hb _ (List.getElem_mem hp')
        have hlen : (s.mapIdx (clrBut d c lead)).length = x.length := by rw [List.length_mapIdx]; exact hsl
        have hm : ∀ j, (h : j < (s.mapIdx (clrBut d c lead)).length) → (s.mapIdx (clrBut d c lead))[j] = if j = d then lead else clr c lead (s[j]'(by rw [List.length_mapIdx] at h; exact h)) := by
          intro j h
          rw [List.getElem_mapIdx]
          unfold clrBut
          by_cases z : j = d
          · rw [if_pos z, if_pos z]; refine Eq.trans ?_ hlead.symm; simp only [z]
          · rw [if_neg z, if_neg z]
        have i1 := i_clear (x := s) (d := d) (c := c) (by omega) hsd (by omega) (fun y hy => b62 y (hsm y hy))
        rw [hsl] at i1
        rw [i1, ← hlead]
        have htake : (s.mapIdx (clrBut d c lead)).take (d + 1) = (x.take d).map (clr c lead) ++ [lead] := by
          apply List.ext_getElem
          · simp; omega
          · intro j h1 h2
            rw [List.length_take, hlen] at h1
            rw [List.getElem_take, hm]
            by_cases z : j = d
            · have hle : ((x.take d).map (clr c lead)).length ≤ j := by rw [List.length_map, List.length_take, z]; exact Nat.min_le_left _ _
              rw [if_pos z, List.getElem_append_right hle]
              simp
            · have hjd : j < d := by omega
              rw [if_neg z, List.getElem_append_left (by simp; omega), List.getElem_map, List.getElem_take, hg j (by omega), if_neg (by omega), if_neg (by omega)]
        obtain ⟨R, C', e, hR, hSp⟩ := ih (s.mapIdx (clrBut d c lead)) (d + 1) (by rw [hlen]; exact hl) (by rw [hlen]; omega)
          (by
            intro y hy
            obtain ⟨j, hj, ej⟩ := List.getElem_of_mem hy
            rw [hm j hj] at ej
            rw [← ej]
            split
            · exact llt
            · exact clr_lt llt (hb _ (hsm _ (List.getElem_mem _))))
          (by
            intro j hj h b hbc
            have hjs : j < s.length := by rw [hlen] at h; omega
            rw [hm j h, if_neg (by omega)]
            rcases Nat.lt_or_ge b c with z | z
            · rw [clr_low (llow b z), hg j hjs]
              split
              · exact hlow d (Nat.le_refl _) hdl b z
              · rw [if_neg (by omega)]; exact hlow j (by omega) (by omega) b z
            · rw [show b = c by omega]; exact clr_bit lbit)
          ⟨C ++ [c], by
            rw [htake]
            exact RED.snoc (hC.clr (fun e h => llow e (hCc e h)) (fun e h b hb' => llow b (Nat.lt_trans hb' (hCc e h)))) lbit llow hCc (by
              intro y hy
              obtain ⟨z, hz, rfl⟩ := List.mem_map.mp hy
              exact clr_bit lbit), by
            intro e h
            rcases List.mem_append.mp h with h | h
            · exact Nat.lt_succ_of_lt (hCc e h)
            · rw [List.mem_singleton] at h; omega⟩
        refine ⟨R, C', e, hR, fun v => (hSp v).trans ⟨fun h => h.sub fun r hr => ?_, fun h => h.sub fun r hr => ?_⟩⟩
        · have sl : Sp x lead := by rw [elead]; exact Sp.mem (List.getElem_mem _)
          obtain ⟨j, hj, ej⟩ := List.getElem_of_mem hr
          rw [hm j hj] at ej
          rw [← ej]
          split
          · exact sl
          · exact Sp.clr sl (Sp.mem (hsm _ (List.getElem_mem _)))
        · have hdn : d < (s.mapIdx (clrBut d c lead)).length := by rw [hlen]; exact hdl
          have sl : Sp (s.mapIdx (clrBut d c lead)) lead := by
            have := hm d hdn
            rw [if_pos rfl] at this
            have hmem := Sp.mem (List.getElem_mem hdn)
            rw [this] at hmem
            exact hmem
          have sj : ∀ j, (h : j < s.length) → Sp (s.mapIdx (clrBut d c lead)) s[j] := by
            intro j h
            by_cases z : j = d
            · have ez : s[j] = lead := by rw [hlead]; simp only [z]
              rw [ez]; exact sl
            · have hj' : j < (s.mapIdx (clrBut d c lead)).length := by rw [List.length_mapIdx]; exact h
              have := hm j hj'
              rw [if_neg z] at this
              refine Sp.of_clr (c := c) sl ?_
              rw [← this]; exact Sp.mem (List.getElem_mem hj')
          obtain ⟨j, hj, ej⟩ := List.getElem_of_mem hr
          rw [← ej]
          by_cases z : j = d
          · have hps : p < s.length := hsl.symm ▸ hp'
            have := sj p hps
            rw [hg p hps, if_pos rfl] at this
            have ez : x[j] = x[d] := by simp only [z]
            rw [ez]; exact this
          · by_cases z2 : j = p
            · have ez : x[j] = x[p] := by simp only [z2]
              rw [ez, ← elead]; exact sl
            · have hjs : j < s.length := hsl.symm ▸ hj
              have := sj j hjs
              rw [hg j hjs, if_neg (fun e => z2 e.symm), if_neg (fun e => z e.symm)] at this
              exact this
    · rw [decide_eq_false (by rw [up_length]; omega), i_ech_end hN hd]
      refine ⟨x.take d, C, rfl, hC, fun v => ?_⟩
      rw [List.take_of_length_le (by omega)]
theorem i_ech_v {N : Nat} (hN : N ≤ 62) {ln : List Nat} (hl : ln.length ≤ 1048576) (hb : ∀ x ∈ ln, x < 2 ^ N) :
    ∃ R C, impl_echelon.d (up ln) = some (up R) ∧ RED R C ∧ (∀ v, Sp R v ↔ Sp ln v) := by
  rw [impl_echelon.d_eq]
  unfold slices_Clone_int64_int64.f
  rw [if_pos (by rw [up_length]; omega), bind_some']
  exact i_ech_loop hN 0 (by omega) ln 0 (by omega) (by omega) hb (fun j _ h b hb => by omega) ⟨[], trivial, fun d hd => nomatch hd⟩
/-- both sides: the one list of reduced rows with these sums -/
theorem ech_v {N : Nat} (hN : N ≤ 62) {ln : List Nat} (hl : ln.length ≤ 1048576) (hb : ∀ x ∈ ln, x < 2 ^ N) :
    ∃ R C, spec_l02Echelon.d (N : Int) (up ln) = some (up R) ∧ impl_echelon.d (up ln) = some (up R) ∧ RED R C ∧ (∀ v, Sp R v ↔ Sp ln v) ∧ (∀ x ∈ R, x < 2 ^ N) ∧ R.length ≤ N ∧ (∀ d ∈ C, d < N) := by
  obtain ⟨R, C, e, h, hs, hb', hl', hd⟩ := s_ech_v hN hl hb
  obtain ⟨R', C', e', h', hs'⟩ := i_ech_v hN hl hb
  obtain ⟨rfl, rfl⟩ := h.unique h' fun v => (hs v).trans (hs' v).symm
  exact ⟨R, C, e, e', h, hs, hb', hl', hd⟩
end Go.Proofs.Ythjfilmdobkmlaa.P
end
section
namespace Go.Proofs.Ythjfilmdobkmlaa.P
open Go.RowKit Go.Proofs.YthjfilmdobkmlaaW.PrintWords Go.Proofs.YthjfilmdobkmlaaW.PrintLast Go.Proofs.YthjfilmdobkmlaaW.PrintMore
set_option linter.unusedVariables false
set_option linter.unusedSimpArgs false
def matB (c : Int) (l : List Int) : Bool := (decide (1 ≤ c) && decide (c ≤ 10)) && (decide (l.length ≤ 10) && l.all (elemB c))
theorem mat_up {c : Int} {l : List Int} (h : matB c l = true) : ∃ N : Nat, ∃ ln : List Nat, c = (N : Int) ∧ 1 ≤ N ∧ N ≤ 10 ∧ l = up ln ∧ ln.length ≤ 10 ∧ ∀ x ∈ ln, x < 2 ^ N := by
  unfold matB at h
  simp only [Bool.and_eq_true, decide_eq_true_eq] at h
  obtain ⟨⟨h1, h2⟩, h3, h4⟩ := h
  obtain ⟨N, rfl⟩ : ∃ N : Nat, c = (N : Int) := ⟨c.toNat, by omega⟩
  obtain ⟨ln, rfl, hb⟩ := elems_up h4
  exact ⟨N, ln, rfl, by omega, by omega, rfl, by rwa [up_length] at h3, hb⟩
theorem matB_of {N : Nat} {ln : List Nat} (h1 : 1 ≤ N) (h2 : N ≤ 10) (hl : ln.length ≤ 10) (hb : ∀ x ∈ ln, x < 2 ^ N) : matB (N : Int) (up ln) = true := by
  unfold matB
  simp only [Bool.and_eq_true, decide_eq_true_eq, List.all_eq_true]
  refine ⟨⟨by omega, by omega⟩, by rw [up_length]; exact hl, fun x hx => ?_⟩
  obtain ⟨y, hy, rfl⟩ := List.mem_map.mp hx
  have := hb y hy
  have e : ((2 ^ N : Nat) : Int) = (2 : Int) ^ N := by simp
  unfold elemB
  simp only [Bool.and_eq_true, decide_eq_true_eq, Int.toNat_natCast]
  omega
theorem one_shl {N : Nat} (h : N ≤ 60) : shl .i64 1 (N : Int) = ((2 ^ N : Nat) : Int) := by
  have h2 : 2 ^ N ≤ 2 ^ 60 := Nat.pow_le_pow_right (by omega) h
  have := shl_nat (a := 1) (c := N) (by omega) (by omega)
  rw [Nat.one_mul] at this
  exact this
theorem full_v {c : Int} (h1 : 1 ≤ c) (h2 : c ≤ 10) : wrap64 (shl .i64 1 c - 1) = 2 ^ c.toNat - 1 := by
  obtain ⟨N, rfl⟩ : ∃ N : Nat, c = (N : Int) := ⟨c.toNat, by omega⟩
  have h3 : 2 ^ N ≤ 2 ^ 10 := Nat.pow_le_pow_right (by omega) (by omega)
  have e : ((2 ^ N : Nat) : Int) = (2 : Int) ^ N := by simp
  rw [one_shl (by omega), Int.toNat_natCast, ← e]
  generalize 2 ^ N = G at h3
  rw [wr (by omega) (by omega)]
theorem within_v (x b : Int) : (if x ≥ 0 then some (decide (x ≤ b - 1)) else some false) = some (decide (0 ≤ x) && decide (x < b)) := by
  by_cases c : x ≥ 0
  · rw [if_pos c, decide_eq_true (show 0 ≤ x from c), Bool.true_and]
    congr 1; apply decide_eq_decide.mpr; omega
  · rw [if_neg c, decide_eq_false (show ¬ 0 ≤ x from c), Bool.false_and]
theorem i_mhas_v {c : Int} (h1 : 1 ≤ c) (h2 : c ≤ 10) (l : List Int) (x : Int) : impl_Matrix_has.f c l x = some (elemB c x) := by
  unfold impl_Matrix_has.f impl_within.f elemB
  rw [if_pos (by omega), full_v h1 h2, within_v, bind_some']
theorem i_ValidMatrix_v (c : Int) {l : List Int} (hl : l.length ≤ 17592186044416) : impl_ValidMatrix.d c l = some (matB c l) := by
  rw [impl_ValidMatrix.d_eq]
  unfold impl_within.f matB
  by_cases h1 : 1 ≤ c
  · rw [if_pos (by omega), bind_some']
    by_cases h2 : c ≤ 10
    · rw [if_pos (by simpa using h2)]
      by_cases h3 : l.length ≤ 10
      · rw [if_pos (by omega), slices_ContainsFunc_int64_int64_AT_impl_ValidMatrix_1.d_eq, slices_IndexFunc_int64_int64_AT_impl_ValidMatrix_1.d_eq]
        obtain ⟨v, e, d, _⟩ := index_gen (F := fun i => slices_IndexFunc_int64_int64_AT_impl_ValidMatrix_1.l0d l (l.length : Int) i c l) (n := l.length) (q := fun i => !(elemB c (rd l (i : Int))))
          (by show slices_IndexFunc_int64_int64_AT_impl_ValidMatrix_1.l0d l (l.length : Int) (l.length : Int) c l = _
              rw [slices_IndexFunc_int64_int64_AT_impl_ValidMatrix_1.l0d_eq, if_neg (by omega)])
          (by intro i hi
              show slices_IndexFunc_int64_int64_AT_impl_ValidMatrix_1.l0d l (l.length : Int) (i : Int) c l = _
              rw [slices_IndexFunc_int64_int64_AT_impl_ValidMatrix_1.l0d_eq, if_pos (by omega), if_pos (by omega), if_pos (by omega)]
              unfold impl_ValidMatrix_1.f
              rw [i_mhas_v h1 h2, bind_some', bind_some', wrS hi hl])
        have e' : slices_IndexFunc_int64_int64_AT_impl_ValidMatrix_1.l0d l (l.length : Int) 0 c l = some v := e
        rw [e', bind_some', bind_some', d, Bool.not_not, decide_eq_true h1, decide_eq_true h2, decide_eq_true h3]
        simp only [Bool.true_and]
        congr 1
        rw [← all_get]
        apply decide_eq_decide.mpr
        simp only [Bool.not_eq_false']
      · rw [if_neg (by omega), decide_eq_false h3]; simp
    · rw [if_neg (by simpa using h2), decide_eq_false h2]; simp
  · rw [if_neg (by omega), bind_some', if_neg (by decide), decide_eq_false h1]; simp
theorem s_l02Ok_v (c : Int) {l : List Int} (hl : l.length ≤ 17592186044416) : spec_l02Ok.d c l = some (matB c l) := by
  rw [spec_l02Ok.d_eq]
  unfold spec_l00In.f matB
  by_cases h1 : 1 ≤ c
  · rw [if_pos (by omega), bind_some']
    by_cases h2 : c ≤ 10
    · rw [if_pos (by simpa using h2), spec_l02Ok.j0d_eq]
      by_cases h3 : l.length ≤ 10
      · rw [if_neg (by simp; omega)]
        have := all_gen (F := fun i => spec_l02Ok.l0d i c l) (n := l.length) (q := fun i => elemB c (rd l (i : Int)))
          (by show spec_l02Ok.l0d (l.length : Int) c l = _
              rw [spec_l02Ok.l0d_eq, if_neg (by omega)])
          (by intro i hi
              show spec_l02Ok.l0d (i : Int) c l = _
              unfold elemB
              rw [spec_l02Ok.l0d_eq, if_pos (by omega), if_pos (by omega), u64_id (by omega) (by omega), if_pos (by omega), full_v h1 h2]
              unfold spec_l00In.f
              rw [within_v, bind_some', wrS hi hl])
        have this' : spec_l02Ok.l0d 0 c l = some (decide (∀ i, i < l.length → elemB c (rd l (i : Int)) = true)) := this
        rw [this', decide_eq_true h1, decide_eq_true h2, decide_eq_true h3]
        simp only [Bool.true_and]
        congr 1
        exact all_get
      · rw [if_pos (by simp; omega), decide_eq_false h3]; simp
    · rw [if_neg (by simpa using h2), spec_l02Ok.j0d_eq, if_pos rfl, decide_eq_false h2]; simp
  · rw [if_neg (by omega), bind_some', if_neg (by decide), spec_l02Ok.j0d_eq, if_pos rfl, decide_eq_false h1]; simp
end Go.Proofs.Ythjfilmdobkmlaa.P
end
section
namespace Go.Proofs.Ythjfilmdobkmlaa.P
open Go.RowKit Go.Proofs.YthjfilmdobkmlaaW.PrintWords Go.Proofs.YthjfilmdobkmlaaW.PrintLast Go.Proofs.YthjfilmdobkmlaaW.PrintMore
set_option linter.unusedVariables false
set_option linter.unusedSimpArgs false
theorem s_same_v {a b : List Int} (h : a.length ≤ 17592186044416) : spec_l00Same.d a b = some (decide (a = b)) := by
  rw [spec_l00Same.d_eq]
  by_cases hl : a.length = b.length
  · rw [if_pos (by omega)]
    have key : ∀ i, i ≤ a.length → spec_l00Same.l0d a b (i : Int) = some (decide (a.drop i = b.drop i)) := by
      apply down
      · rw [spec_l00Same.l0d_eq, if_neg (by omega)]; simp [hl]
      · intro i hi ih
        have hb : i < b.length := by omega
        rw [spec_l00Same.l0d_eq, if_pos (by omega), if_pos (by omega), if_pos (by omega), wrS hi h, rd_get hi, rd_get hb, ih]
        rw [List.drop_eq_getElem_cons hi, List.drop_eq_getElem_cons hb]
        by_cases c : a[i] = b[i]
        · rw [if_pos c]; simp only [List.cons.injEq, c, true_and]
        · rw [if_neg c]; simp only [List.cons.injEq, c, false_and, decide_false]
    have := key 0 (by omega)
    simpa using this
  · rw [if_neg (by omega)]
    have : a ≠ b := fun e => hl (by rw [e])
    simp [this]
theorem i_equal_v {a b : List Int} (h : a.length ≤ 17592186044416) : slices_Equal_int64_int64.d a b = some (decide (a = b)) := by
  rw [slices_Equal_int64_int64.d_eq]
  by_cases hl : a.length = b.length
  · rw [if_pos (by omega)]
    have key : ∀ i, i ≤ a.length → slices_Equal_int64_int64.l0d a b (a.length : Int) (i : Int) = some (decide (a.drop i = b.drop i)) := by
      apply down
      · rw [slices_Equal_int64_int64.l0d_eq, if_neg (by omega)]; simp [hl]
      · intro i hi ih
        have hb : i < b.length := by omega
        rw [slices_Equal_int64_int64.l0d_eq, if_pos (by omega), if_pos (by omega), if_pos (by omega), if_pos (by omega), wrS hi h, rd_get hi, rd_get hb, ih]
        rw [List.drop_eq_getElem_cons hi, List.drop_eq_getElem_cons hb]
        by_cases c : a[i] = b[i]
        · rw [if_pos c]; simp only [List.cons.injEq, c, true_and]
        · rw [if_neg c]; simp only [List.cons.injEq, c, false_and, decide_false]
    have := key 0 (by omega)
    simpa using this
  · rw [if_neg (by omega)]
    have : a ≠ b := fun e => hl (by rw [e])
    simp [this]
/-- a matrix in echelon form -/
noncomputable def spaceB (c : Int) (l : List Int) : Bool := matB c l && decide (impl_echelon.d l = some l)
theorem i_IsSpace_v (c : Int) {l : List Int} (hl : l.length ≤ 17592186044416) : impl_IsSpace.d c l = some (spaceB c l) := by
  rw [impl_IsSpace.d_eq, i_ValidMatrix_v c hl, bind_some']
  unfold spaceB
  by_cases h : matB c l = true
  · rw [if_pos h, h, Bool.true_and]
    obtain ⟨N, ln, rfl, hN1, hN, rfl, hlen, hb⟩ := mat_up h
    obtain ⟨R, C, e1, e2, _, _, _, hR, _⟩ := ech_v (N := N) (by omega) (ln := ln) (by omega) hb
    rw [e2, bind_some', i_equal_v (by rw [up_length]; omega), bind_some']
    congr 1; apply decide_eq_decide.mpr
    exact ⟨fun e => by rw [e], fun e => Option.some.inj e⟩
  · rw [if_neg h, Bool.eq_false_iff.mpr h]; rfl
theorem s_l02Space_v (c : Int) {l : List Int} (hl : l.length ≤ 17592186044416) : spec_l02Space.d c l = some (spaceB c l) := by
  rw [spec_l02Space.d_eq, s_l02Ok_v c hl, bind_some']
  unfold spaceB
  by_cases h : matB c l = true
  · rw [if_pos h, h, Bool.true_and]
    obtain ⟨N, ln, rfl, hN1, hN, rfl, hlen, hb⟩ := mat_up h
    obtain ⟨R, C, e1, e2, _, _, _, hR, _⟩ := ech_v (N := N) (by omega) (ln := ln) (by omega) hb
    rw [e1, bind_some', s_same_v (by rw [up_length]; omega), bind_some', e2]
    congr 1; apply decide_eq_decide.mpr
    exact ⟨fun e => by rw [e], fun e => Option.some.inj e⟩
  · rw [if_neg h, Bool.eq_false_iff.mpr h]; rfl
end Go.Proofs.Ythjfilmdobkmlaa.P
end
section
namespace Go.Proofs.Ythjfilmdobkmlaa.P
set_option linter.unusedVariables false
set_option linter.unusedSimpArgs false
/-- the sum of the rows that a list of yes and no tells -/
def sel : List Bool → List Nat → Nat
  | c :: s, r :: L => (if c = true then r else 0) ^^^ sel s L
  | _, _ => 0
theorem sel_append : ∀ (s : List Bool) (A : List Nat) (t : List Bool) (B : List Nat), s.length = A.length → sel (s ++ t) (A ++ B) = sel s A ^^^ sel t B
  | [], [], t, B, _ => by simp [sel]
  | c :: s, r :: A, t, B, h => by
    simp only [List.cons_append, sel]
    rw [sel_append s A t B (by simpa using h), Nat.xor_assoc]
  | [], _ :: _, _, _, h => by simp at h
  | _ :: _, [], _, _, h => by simp at h
theorem sel_sp (L : List Nat) : ∀ (s : List Bool) (R : List Nat), (∀ r ∈ R, Sp L r) → Sp L (sel s R)
  | c :: s, r :: R, h => by
    rw [sel]
    refine Sp.xor ?_ (sel_sp L s R fun x hx => h x (by simp [hx]))
    split
    · exact h r (by simp)
    · exact Sp.zero
  | [], R, _ => by rw [sel]; exact Sp.zero; intro _ _ _ _ e; cases e
  | _ :: _, [], _ => by rw [sel]; exact Sp.zero; intro _ _ _ _ _ e; cases e
theorem sel_none : ∀ (L : List Nat), sel (List.replicate L.length false) L = 0
  | [] => rfl
  | r :: L => by simp only [List.length_cons, List.replicate_succ, sel]; rw [sel_none L]; simp
/-- each sum is told by a list of yes and no -/
theorem sp_sel {L : List Nat} {v : Nat} (h : Sp L v) : ∃ s : List Bool, s.length = L.length ∧ sel s L = v := by
  induction L generalizing v with
  | nil => exact ⟨[], rfl, by rw [h.nil]; rfl⟩
  | cons r L ih =>
    rcases h.cons with h | h
    · obtain ⟨s, e1, e2⟩ := ih h
      exact ⟨false :: s, by simp [e1], by simp [sel, e2]⟩
    · obtain ⟨s, e1, e2⟩ := ih h
      refine ⟨true :: s, by simp [e1], ?_⟩
      simp only [sel, if_true]
      rw [e2, Nat.xor_comm, Nat.xor_assoc, Nat.xor_self, Nat.xor_zero]
/-- some of the rows have the sum 0 -/
def Dep (L : List Nat) : Prop := ∃ s : List Bool, s.length = L.length ∧ true ∈ s ∧ sel s L = 0
theorem sel_map {l0 : Nat} (f : Nat → Nat) (hf : ∀ l, f l = l ∨ f l = l ^^^ l0) : ∀ (s : List Bool) (L : List Nat), ∃ c : Bool, sel s (L.map f) = sel s L ^^^ (if c = true then l0 else 0)
  | b :: s, r :: L => by
    obtain ⟨c, e⟩ := sel_map f hf s L
    simp only [List.map_cons, sel]
    rw [e]
    by_cases hb : b = true
    · rw [if_pos hb, if_pos hb]
      rcases hf r with h | h
      · exact ⟨c, by rw [h, Nat.xor_assoc]⟩
      · rw [h]
        refine ⟨!c, ?_⟩
        cases c
        · simp only [Bool.not_false, if_true, Bool.false_eq_true, if_false, Nat.xor_zero]
          rw [Nat.xor_assoc, Nat.xor_comm l0, ← Nat.xor_assoc]
        · simp only [Bool.not_true, if_true, Bool.false_eq_true, if_false, Nat.xor_zero]
          rw [Nat.xor_assoc, Nat.xor_comm l0, Nat.xor_assoc, Nat.xor_self, Nat.xor_zero]
    · rw [if_neg hb, if_neg hb]
      exact ⟨c, by rw [Nat.xor_assoc]⟩
  | [], L => ⟨false, by simp [sel]⟩
  | _ :: _, [] => ⟨false, by simp [sel]⟩
theorem exch : ∀ (R L : List Nat), (∀ l ∈ L, Sp R l) → R.length < L.length → Dep L
  | [], L, h, hl => by
    cases L with
    | nil => simp at hl
    | cons l L =>
      have : l = 0 := (h l (by simp)).nil
      refine ⟨true :: List.replicate L.length false, by simp, by simp, ?_⟩
      simp only [sel]
      rw [sel_none, this]; rfl
  | r :: R, L, h, hl => by
    by_cases c : ∀ l ∈ L, Sp R l
    · exact exch R L c (by simp at hl; omega)
    · obtain ⟨l0, hl0, hn⟩ : ∃ l0 ∈ L, ¬ Sp R l0 := by
        apply Classical.byContradiction
        intro z
        exact c fun l hm => Classical.byContradiction fun w => z ⟨l, hm, w⟩
      have hr0 : Sp R (l0 ^^^ r) := by
        rcases (h l0 hl0).cons with w | w
        · exact absurd w hn
        · exact w
      obtain ⟨A, B, rfl⟩ := List.append_of_mem hl0
      have hf : ∀ l, ∃ y, (y = l ∨ y = l ^^^ l0) ∧ (Sp (r :: R) l → Sp R y) := by
        intro l
        by_cases w : Sp R l
        · exact ⟨l, .inl rfl, fun _ => w⟩
        · refine ⟨l ^^^ l0, .inr rfl, fun hs => ?_⟩
          rcases hs.cons with z | z
          · exact absurd z w
          · have := z.xor hr0
            rwa [Nat.xor_assoc, Nat.xor_comm l0 r, ← Nat.xor_assoc r r, Nat.xor_self, Nat.zero_xor] at this
      obtain ⟨f, hf⟩ := Classical.axiomOfChoice hf
      have hd : Dep ((A ++ B).map f) := by
        refine exch R _ ?_ (by simp at hl ⊢; omega)
        intro y hy
        obtain ⟨l, hm, rfl⟩ := List.mem_map.mp hy
        exact (hf l).2 (h l (by
          rcases List.mem_append.mp hm with z | z
          · simp [z]
          · simp [z]))
      obtain ⟨s, e1, e2, e3⟩ := hd
      obtain ⟨d, e4⟩ := sel_map (l0 := l0) f (fun l => (hf l).1) s (A ++ B)
      rw [e3] at e4
      simp only [List.length_map, List.length_append] at e1
      have es : s = s.take A.length ++ s.drop A.length := (List.take_append_drop ..).symm
      have el : (s.take A.length).length = A.length := by rw [List.length_take]; omega
      rw [es, sel_append _ _ _ _ el] at e4
      refine ⟨s.take A.length ++ d :: s.drop A.length, by simp; omega, ?_, ?_⟩
      · rw [es] at e2
        rcases List.mem_append.mp e2 with z | z
        · exact List.mem_append.mpr (.inl z)
        · exact List.mem_append.mpr (.inr (List.mem_cons_of_mem _ z))
      · rw [sel_append _ _ _ _ el, sel, Nat.xor_comm (if d = true then l0 else 0), ← Nat.xor_assoc]
        exact e4.symm
/-- reduced rows have no sum 0 but that of none -/
theorem RED.indep {R C : List Nat} (h : RED R C) : ∀ s : List Bool, s.length = R.length → sel s R = 0 → true ∉ s := by
  induction R generalizing C with
  | nil => intro s hs _; cases s with
    | nil => simp
    | cons => simp at hs
  | cons r R ih =>
    cases C with
    | nil => exact h.elim
    | cons c C =>
      intro s hs h0
      cases s with
      | nil => simp
      | cons b s =>
        have low : (sel s R).testBit c = false := (sel_sp R s R fun x hx => Sp.mem hx).bit (h.2.2.2.low fun d hd => (h.2.2.1 d hd).1)
        rw [sel] at h0
        have hb : b = false := by
          cases b with
          | false => rfl
          | true =>
            have := congrArg (fun x => x.testBit c) h0
            simp only [if_true, Nat.testBit_xor, Nat.zero_testBit, low, h.1] at this
            cases this
        subst hb
        simp only [Bool.false_eq_true, if_false, Nat.zero_xor] at h0
        have := ih h.2.2.2 s (by simpa using hs) h0
        simpa using this
/-- no more reduced rows than rows whose sums they are -/
theorem RED.le {R C : List Nat} (h : RED R C) {L : List Nat} (hs : ∀ r ∈ R, Sp L r) : R.length ≤ L.length := by
  apply Classical.byContradiction
  intro z
  obtain ⟨s, e1, e2, e3⟩ := exch L R hs (by omega)
  exact h.indep s e1 e3 e2
end Go.Proofs.Ythjfilmdobkmlaa.P
end
section
namespace Go.Proofs.Ythjfilmdobkmlaa.P
set_option linter.unusedVariables false
set_option linter.unusedSimpArgs false
/-- the place k of the rows, as one row -/
def trow (ln : List Nat) (k : Nat) : Nat → Nat
  | 0 => 0
  | i + 1 => trow ln k i ||| (if (ln.getD i 0).testBit k = true then 2 ^ i else 0)
theorem trow_lt (ln : List Nat) (k : Nat) : ∀ i, trow ln k i < 2 ^ i
  | 0 => by simp [trow]
  | i + 1 => by
    refine Nat.or_lt_two_pow (Nat.lt_of_lt_of_le (trow_lt ln k i) (Nat.pow_le_pow_right (by omega) (by omega))) ?_
    split
    · exact Nat.pow_lt_pow_right (by omega) (by omega)
    · exact Nat.two_pow_pos _
/-- the turned rows -/
def trows (n : Nat) (ln : List Nat) : List Nat := (List.range n).map fun k => trow ln k ln.length
theorem trows_length (n : Nat) (ln : List Nat) : (trows n ln).length = n := by simp [trows]
theorem trows_lt (n : Nat) (ln : List Nat) : ∀ x ∈ trows n ln, x < 2 ^ ln.length := by
  intro x hx
  obtain ⟨k, _, rfl⟩ := List.mem_map.mp hx
  exact trow_lt ln k ln.length
end Go.Proofs.Ythjfilmdobkmlaa.P
end
section
namespace Go.Proofs.Ythjfilmdobkmlaa.P
set_option linter.unusedVariables false
set_option linter.unusedSimpArgs false
theorem trow_bit (ln : List Nat) (k : Nat) : ∀ i j, (trow ln k i).testBit j = (decide (j < i) && (ln.getD j 0).testBit k)
  | 0, j => by simp [trow]
  | i + 1, j => by
    rw [trow, Nat.testBit_or, trow_bit ln k i j]
    by_cases c : (ln.getD i 0).testBit k = true
    · rw [if_pos c, Nat.testBit_two_pow]
      by_cases e : i = j
      · subst e; rw [c]; simp
      · have : decide (j < i + 1) = decide (j < i) := decide_eq_decide.mpr (by omega)
        simp [e, this]
    · rw [if_neg c, Nat.zero_testBit, Bool.or_false]
      by_cases e : i = j
      · subst e
        have c' := Bool.eq_false_iff.mpr c
        rw [c']; simp
      · have : decide (j < i + 1) = decide (j < i) := decide_eq_decide.mpr (by omega)
        rw [this]
/-- bits as a number -/
def colN (f : Nat → Bool) : Nat → Nat
  | 0 => 0
  | i + 1 => colN f i ||| (if f i = true then 2 ^ i else 0)
theorem colN_bit (f : Nat → Bool) : ∀ i j, (colN f i).testBit j = (decide (j < i) && f j)
  | 0, j => by simp [colN]
  | i + 1, j => by
    rw [colN, Nat.testBit_or, colN_bit f i j]
    by_cases c : f i = true
    · rw [if_pos c, Nat.testBit_two_pow]
      by_cases e : i = j
      · subst e; simp [c]
      · have : decide (j < i + 1) = decide (j < i) := decide_eq_decide.mpr (by omega)
        simp [e, this]
    · rw [if_neg c, Nat.zero_testBit, Bool.or_false]
      by_cases e : i = j
      · subst e
        have c' := Bool.eq_false_iff.mpr c
        rw [c']; simp
      · have : decide (j < i + 1) = decide (j < i) := decide_eq_decide.mpr (by omega)
        rw [this]
/-- the sum of products of bits -/
def bsum : List Bool → List Bool → Bool
  | a :: s, b :: t => xor (a && b) (bsum s t)
  | _, _ => false
theorem bsum_comm : ∀ s t : List Bool, bsum s t = bsum t s
  | a :: s, b :: t => by rw [bsum, bsum, bsum_comm s t, Bool.and_comm]
  | [], [] => rfl
  | [], _ :: _ => rfl
  | _ :: _, [] => rfl
theorem sel_bsum (k : Nat) : ∀ (s : List Bool) (R : List Nat), (sel s R).testBit k = bsum s (R.map fun r => r.testBit k)
  | c :: s, r :: R => by
    rw [sel, List.map_cons, bsum, Nat.testBit_xor, sel_bsum k s R]
    cases c <;> simp
  | [], [] => by simp [sel, bsum]
  | [], _ :: _ => by simp [sel, bsum]
  | _ :: _, [] => by simp [sel, bsum]
/-- the turned rows are sums of as many rows as tell the rows -/
theorem turn_sp {n : Nat} {ln R : List Nat} (h : ∀ r ∈ ln, Sp R r) : ∃ L : List Nat, L.length = R.length ∧ ∀ x ∈ trows n ln, Sp L x := by
  have hs : ∀ r : Nat, ∃ s : List Bool, r ∈ ln → s.length = R.length ∧ sel s R = r := by
    intro r
    by_cases m : r ∈ ln
    · obtain ⟨s, e1, e2⟩ := sp_sel (h r m)
      exact ⟨s, fun _ => ⟨e1, e2⟩⟩
    · exact ⟨[], fun z => absurd z m⟩
  obtain ⟨S, hS⟩ := Classical.axiomOfChoice hs
  refine ⟨(List.range R.length).map fun j => colN (fun i => (S (ln.getD i 0)).getD j false) ln.length, by simp, fun x hx => ?_⟩
  obtain ⟨k, hk, rfl⟩ := List.mem_map.mp hx
  have e : trow ln k ln.length = sel (R.map fun r => r.testBit k) ((List.range R.length).map fun j => colN (fun i => (S (ln.getD i 0)).getD j false) ln.length) := by
    apply Nat.eq_of_testBit_eq
    intro i
    rw [trow_bit, sel_bsum]
    by_cases c : i < ln.length
    · have hm : ln.getD i 0 ∈ ln := by
        have : ln.getD i 0 = ln[i] := by simp [List.getD, c]
        rw [this]; exact List.getElem_mem c
      obtain ⟨s1, s2⟩ := hS _ hm
      have : ((List.range R.length).map fun j => colN (fun i => (S (ln.getD i 0)).getD j false) ln.length).map (fun r => r.testBit i) = S (ln.getD i 0) := by
        apply List.ext_getElem
        · simp only [List.length_map, List.length_range]; exact s1.symm
        · intro j h1 h2
          simp only [List.getElem_map, List.getElem_range]
          rw [colN_bit, decide_eq_true c, Bool.true_and]
          generalize S (ln.getD i 0) = z at h2
          rw [List.getD_eq_getElem?_getD, List.getElem?_eq_getElem h2]
          rfl
      rw [this, bsum_comm, ← sel_bsum, s2]
      simp [c]
    · have hz : ∀ t : List Bool, bsum t (((List.range R.length).map fun j => colN (fun i => (S (ln.getD i 0)).getD j false) ln.length).map (fun r => r.testBit i)) = false := by
        intro t
        have : ∀ (t u : List Bool), (∀ b ∈ u, b = false) → bsum t u = false := by
          intro t
          induction t with
          | nil => intro u _; simp [bsum]
          | cons a t ih =>
            intro u hu
            cases u with
            | nil => simp [bsum]
            | cons b u => rw [bsum, hu b (by simp), ih u fun x hx => hu x (by simp [hx])]; simp
        refine this t _ fun b hb => ?_
        obtain ⟨y, hy, rfl⟩ := List.mem_map.mp hb
        obtain ⟨j, _, rfl⟩ := List.mem_map.mp hy
        rw [colN_bit]; simp [c]
      rw [hz]; simp [c]
  rw [e]
  exact sel_sp _ _ _ fun r hr => Sp.mem hr
theorem trows_trows {n : Nat} {ln : List Nat} (hb : ∀ r ∈ ln, r < 2 ^ n) : trows ln.length (trows n ln) = ln := by
  apply List.ext_getElem
  · rw [trows_length]
  · intro i h1 h2
    have e : (trows ln.length (trows n ln))[i] = trow (trows n ln) i (trows n ln).length := by simp [trows]
    rw [e, trows_length]
    apply Nat.eq_of_testBit_eq
    intro j
    rw [trow_bit]
    by_cases c : j < n
    · have : (trows n ln).getD j 0 = trow ln j ln.length := by simp [trows, List.getD, c]
      rw [this, trow_bit, decide_eq_true c, decide_eq_true h2]
      simp [List.getD, h2]
    · rw [Nat.testBit_lt_two_pow (Nat.lt_of_lt_of_le (hb _ (List.getElem_mem h2)) (Nat.pow_le_pow_right (by omega) (by omega)))]
      simp [c]
theorem turn_rank_le {n : Nat} {ln R T C : List Nat} (hs : ∀ r ∈ ln, Sp R r) (hT : RED T C) (ht : ∀ v, Sp T v ↔ Sp (trows n ln) v) : T.length ≤ R.length := by
  obtain ⟨L, e, h⟩ := turn_sp (n := n) hs
  rw [← e]
  exact hT.le fun r hr => ((ht r).mp (Sp.mem hr)).sub h
theorem turn_rank {n : Nat} {ln R D T C : List Nat} (hb : ∀ r ∈ ln, r < 2 ^ n) (hR : RED R D) (hs : ∀ v, Sp R v ↔ Sp ln v) (hT : RED T C) (ht : ∀ v, Sp T v ↔ Sp (trows n ln) v) : T.length = R.length := by
  refine Nat.le_antisymm (turn_rank_le (fun r hr => (hs r).mpr (Sp.mem hr)) hT ht) ?_
  refine turn_rank_le (n := ln.length) (ln := trows n ln) (fun r hr => (ht r).mpr (Sp.mem hr)) hR fun v => ?_
  rw [trows_trows hb]; exact hs v
end Go.Proofs.Ythjfilmdobkmlaa.P
end
section
namespace Go.Proofs.Ythjfilmdobkmlaa.P
open Go.RowKit Go.Proofs.YthjfilmdobkmlaaW.PrintWords Go.Proofs.YthjfilmdobkmlaaW.PrintLast Go.Proofs.YthjfilmdobkmlaaW.PrintMore
set_option linter.unusedVariables false
set_option linter.unusedSimpArgs false
theorem up_range (n : Nat) (f : Nat → Nat) : (List.range n).map (fun k => ((f k : Nat) : Int)) = up ((List.range n).map f) := by
  unfold up; rw [List.map_map]; rfl
theorem shl_bit {b : Bool} {i : Nat} (hi : i ≤ 60) : shl .i64 (if b = true then 1 else 0 : Int) (i : Int) = (((if b = true then 2 ^ i else 0 : Nat)) : Int) := by
  have h2 : 2 ^ i ≤ 2 ^ 60 := Nat.pow_le_pow_right (by omega) hi
  cases b
  · have := shl_nat (a := 0) (c := i) (by omega) (by omega)
    rw [Nat.zero_mul] at this
    simpa using this
  · have := shl_nat (a := 1) (c := i) (by omega) (by omega)
    rw [Nat.one_mul] at this
    rw [if_pos rfl, if_pos rfl]
    exact this
theorem i_turn_v {n : Nat} {ln : List Nat} (hn : n ≤ 60) (hl : ln.length ≤ 60) (hb : ∀ x ∈ ln, x < 4611686018427387904) : impl_Matrix_turned.d (n : Int) (up ln) = some ((ln.length : Int), up (trows n ln)) := by
  rw [impl_Matrix_turned.d_eq]
  unfold impl_size_int64.f
  rw [bind_some', up_length]
  refine build_gen (F := fun k acc => impl_Matrix_turned.l0d (n : Int) k (n : Int) (up ln) (ln.length : Int) acc) (n := n) (g := fun k => ((trow ln k ln.length : Nat) : Int)) ?_ ?_
  · intro k hk acc ha
    show impl_Matrix_turned.l0d (n : Int) (k : Int) (n : Int) (up ln) (ln.length : Int) acc = impl_Matrix_turned.l0d (n : Int) ((k + 1 : Nat) : Int) (n : Int) (up ln) (ln.length : Int) (acc ++ [((trow ln k ln.length : Nat) : Int)])
    have key : ∀ i, i ≤ ln.length → impl_Matrix_turned.l1d (k : Int) ((trow ln k i : Nat) : Int) (n : Int) (k : Int) (up ln) ((up ln).length : Int) (i : Int) (n : Int) (up ln) (ln.length : Int) acc = impl_Matrix_turned.l0d (n : Int) ((k + 1 : Nat) : Int) (n : Int) (up ln) (ln.length : Int) (acc ++ [((trow ln k ln.length : Nat) : Int)]) := by
      apply down
      · rw [impl_Matrix_turned.l1d_eq, if_neg (by rw [up_length]; omega), if_pos (by omega), wrS hk (by omega)]
      · intro i hi e
        have t1 := small62 (by omega) (trow_lt ln k i)
        have t2 : (if (ln.getD i 0).testBit k = true then 2 ^ i else 0) < 9223372036854775808 := by
          split
          · exact small62 (n := i + 1) (by omega) (Nat.pow_lt_pow_right (by omega) (by omega))
          · omega
        have t3 := hb _ (getD_mem hi)
        rw [impl_Matrix_turned.l1d_eq, if_pos (by rw [up_length]; omega), if_pos (by omega), if_pos (by rw [up_length]; omega), if_pos (by omega), up_getD hi, bit_test (by omega) (by omega), shl_bit (by omega), bor t1 t2, wrS hi (by omega), ← e]
        rfl
    rw [impl_Matrix_turned.l0d_eq, if_pos (by omega)]
    exact key 0 (by omega)
  · show impl_Matrix_turned.l0d (n : Int) (n : Int) (n : Int) (up ln) (ln.length : Int) _ = _
    rw [impl_Matrix_turned.l0d_eq, if_neg (by omega), up_range]; rfl
end Go.Proofs.Ythjfilmdobkmlaa.P
end
section
namespace Go.Proofs.Ythjfilmdobkmlaa.P
set_option linter.unusedVariables false
set_option linter.unusedSimpArgs false
/-- the sum of the rows that a number tells by its bits -/
def tmb (b : Nat) : List Nat → Nat
  | [] => 0
  | r :: L => (if b.testBit 0 = true then r else 0) ^^^ tmb (b / 2) L
def bitsOf : List Bool → Nat
  | [] => 0
  | c :: s => (if c = true then 1 else 0) + 2 * bitsOf s
theorem bitsOf_lt : ∀ s : List Bool, bitsOf s < 2 ^ s.length
  | [] => by simp [bitsOf]
  | c :: s => by
    have := bitsOf_lt s
    rw [bitsOf, List.length_cons, Nat.pow_succ]
    split <;> omega
theorem bitsOf_half (c : Bool) (s : List Bool) : bitsOf (c :: s) / 2 = bitsOf s := by rw [bitsOf]; split <;> omega
theorem bitsOf_bit (c : Bool) (s : List Bool) : (bitsOf (c :: s)).testBit 0 = c := by
  rw [bitsOf, Nat.testBit_zero]
  cases c <;> simp
theorem tmb_bitsOf : ∀ (s : List Bool) (L : List Nat), s.length = L.length → tmb (bitsOf s) L = sel s L
  | [], [], _ => rfl
  | c :: s, r :: L, h => by rw [tmb, sel, bitsOf_bit, bitsOf_half, tmb_bitsOf s L (by simpa using h)]
  | [], _ :: _, h => by simp at h
  | _ :: _, [], h => by simp at h
end Go.Proofs.Ythjfilmdobkmlaa.P
end
section
namespace Go.Proofs.Ythjfilmdobkmlaa.P
open Go.RowKit Go.Proofs.YthjfilmdobkmlaaW.PrintWords Go.Proofs.YthjfilmdobkmlaaW.PrintLast Go.Proofs.YthjfilmdobkmlaaW.PrintMore
set_option linter.unusedVariables false
set_option linter.unusedSimpArgs false
theorem tmb_lt {n : Nat} : ∀ (L : List Nat) (b : Nat), (∀ r ∈ L, r < 2 ^ n) → tmb b L < 2 ^ n
  | [], b, _ => Nat.two_pow_pos n
  | r :: L, b, h => by
    rw [tmb]
    refine Nat.xor_lt_two_pow ?_ (tmb_lt L _ fun r hr => h r (by simp [hr]))
    split
    · exact h r (by simp)
    · exact Nat.two_pow_pos n
end Go.Proofs.Ythjfilmdobkmlaa.P
end
section
namespace Go.Proofs.Ythjfilmdobkmlaa.P
open Go.RowKit Go.Proofs.YthjfilmdobkmlaaW.PrintWords Go.Proofs.YthjfilmdobkmlaaW.PrintLast Go.Proofs.YthjfilmdobkmlaaW.PrintMore
set_option linter.unusedVariables false
set_option linter.unusedSimpArgs false
theorem and255 (x : Int) : 0 ≤ Go.bits .and .u64 x 255 ∧ Go.bits .and .u64 x 255 ≤ 255 := by
  have e : Go.bits .and .u64 x 255 = IntKind.u64.wrap ((BitVec.ofInt IntKind.u64.bits x &&& BitVec.ofInt IntKind.u64.bits 255).toNat : Int) := rfl
  rw [e, BitVec.toNat_and]
  have h : (BitVec.ofInt IntKind.u64.bits x).toNat &&& (BitVec.ofInt IntKind.u64.bits 255).toNat ≤ 255 := Nat.and_le_right
  generalize (BitVec.ofInt IntKind.u64.bits x).toNat &&& (BitVec.ofInt IntKind.u64.bits 255).toNat = z at h
  rw [IntKind.wrap_u64]
  omega
def Bytes (l : List Int) : Prop := ∀ x ∈ l, 0 ≤ x ∧ x ≤ 255
theorem byte_at {l : List Int} (hb : Bytes l) {i : Int} : 0 ≤ rd l i ∧ rd l i ≤ 255 := by
  by_cases h : i.toNat < l.length
  · have : rd l i = l[i.toNat] := by simp [rd, List.getD, h]
    rw [this]; exact hb _ (List.getElem_mem h)
  · have : rd l i = 0 := by simp [rd, List.getD, h]
    rw [this]; omega
theorem next_v {l : List Int} (hb : Bytes l) (hl : l.length ≤ 4000) {a : Int} (h0 : 0 ≤ a) (h1 : a ≤ 1000000) (s : Int) : ∃ v t, spec_l00Src_next.f l a s = some (v, a + 1, t) ∧ 0 ≤ v ∧ v ≤ 255 := by
  unfold spec_l00Src_next.f
  have hby := byte_at hb (i := a)
  have ha : wrap64 (a + 1) = a + 1 := wr (by omega) (by omega)
  rw [ha]
  by_cases c : a < (l.length : Int)
  · rw [if_pos c, if_pos h0, if_pos (by omega), wr (x := rd l a) (by omega) (by omega)]
    exact ⟨_, _, rfl, hby.1, hby.2⟩
  · rw [if_neg c, if_neg (by omega)]
    have := and255 ((IntKind.u64.wrap ((IntKind.u64.wrap ((IntKind.u64.wrap (s * 6364136223846793005)))) + 1442695040888963407)) / 1099511627776)
    rw [wr (x := Go.bits .and .u64 _ 255) (by omega) (by omega)]
    exact ⟨_, _, rfl, this.1, this.2⟩
theorem tmod_pos {v n : Int} (h0 : 0 ≤ v) (hn : 0 < n) : 0 ≤ Int.tmod v n ∧ Int.tmod v n < n := ⟨Int.tmod_nonneg _ h0, Int.tmod_lt_of_pos _ hn⟩
theorem pick_v {l : List Int} (hb : Bytes l) (hl : l.length ≤ 4000) {a : Int} (h0 : 0 ≤ a) (h1 : a ≤ 900000) (s n : Int) (hn : n ≤ 100000) :
    ∃ v b t, spec_l00Src_pick.f l a s n = some (v, b, t) ∧ 0 ≤ v ∧ (1 ≤ n → v < n) ∧ v ≤ 100000 ∧ a ≤ b ∧ b ≤ a + 2 := by
  unfold spec_l00Src_pick.f
  by_cases c : n ≤ 1
  · rw [if_pos c]; exact ⟨0, a, s, rfl, by omega, fun _ => by omega, by omega, by omega, by omega⟩
  · rw [if_neg c]
    obtain ⟨v, t, e, v0, v1⟩ := next_v hb hl h0 (by omega) s
    rw [e, bind_some']
    by_cases d : n > 200
    · obtain ⟨v', t', e', v0', v1'⟩ := next_v hb hl (a := a + 1) (by omega) (by omega) t
      have e2 : spec_l00Src_next.f l (v, a + 1, t).2.1 (v, a + 1, t).2.2 = some (v', a + 1 + 1, t') := e'
      rw [if_pos d, e2, bind_some', if_neg (by omega)]
      have w : wrap64 (wrap64 ((v, a + 1, t).1 * 256) + (v', a + 1 + 1, t').1) = v * 256 + v' := by
        show wrap64 (wrap64 (v * 256) + v') = _
        rw [wr (x := v * 256) (by omega) (by omega), wr (by omega) (by omega)]
      rw [w]
      have := tmod_pos (v := v * 256 + v') (n := n) (by omega) (by omega)
      exact ⟨_, _, _, rfl, this.1, fun _ => this.2, by omega, by show a ≤ a + 1 + 1; omega, by show a + 1 + 1 ≤ a + 2; omega⟩
    · rw [if_neg d, if_neg (by omega)]
      have := tmod_pos (v := v) (n := n) v0 (by omega)
      exact ⟨_, _, _, rfl, this.1, fun _ => this.2, by show Int.tmod v n ≤ _; omega, by show a ≤ a + 1; omega, by show a + 1 ≤ a + 2; omega⟩
theorem bytes_of {l : List Int} (h : ∀ x ∈ l, (Lit.int .u8 x).wf = true) : Bytes l := by
  intro x hx
  have := h x hx
  have e1 : IntKind.u8.min = 0 := by decide
  have e2 : IntKind.u8.max = 255 := by decide
  simp [Lit.wf, e1, e2] at this
  omega
end Go.Proofs.Ythjfilmdobkmlaa.P
end
section
namespace Go.Proofs.Ythjfilmdobkmlaa.P
open Go.RowKit Go.Proofs.YthjfilmdobkmlaaW.PrintWords Go.Proofs.YthjfilmdobkmlaaW.PrintLast Go.Proofs.YthjfilmdobkmlaaW.PrintMore
set_option linter.unusedVariables false
set_option linter.unusedSimpArgs false
theorem a2At_v {l : List Int} (hb : Bytes l) (hl : l.length ≤ 4000) {a : Int} (h0 : 0 ≤ a) {n : Int} (hn : 1 ≤ n) (hn' : n ≤ 100000) : ∃ v, laws_a2At.f l a n = some v ∧ 0 ≤ v ∧ v < n := by
  unfold laws_a2At.f
  by_cases c : a ≥ (l.length : Int)
  · rw [if_pos c]; exact ⟨0, rfl, by omega, by omega⟩
  · have hby := byte_at hb (i := a)
    rw [if_neg c, if_neg (by omega), if_pos h0, if_pos (by omega), if_neg (by omega), wr (by omega) (by omega)]
    have := tmod_pos (v := rd l a) (n := n) hby.1 (by omega)
    exact ⟨_, rfl, this.1, this.2⟩
end Go.Proofs.Ythjfilmdobkmlaa.P
end
section
namespace Go.Proofs.Ythjfilmdobkmlaa.P
set_option linter.unusedVariables false
set_option linter.unusedSimpArgs false
/-- the sum of the n lowest bits -/
def par : Nat → Nat → Bool
  | 0, _ => false
  | n + 1, x => xor (x.testBit 0) (par n (x / 2))
theorem par_zero : ∀ n, par n 0 = false
  | 0 => rfl
  | n + 1 => by rw [par, Nat.zero_div, par_zero n]; simp
theorem xor_half (x y : Nat) : (x ^^^ y) / 2 = x / 2 ^^^ y / 2 := by
  apply Nat.eq_of_testBit_eq
  intro i
  rw [Nat.testBit_xor, Nat.testBit_div_two, Nat.testBit_div_two, Nat.testBit_div_two, Nat.testBit_xor]
theorem par_xor : ∀ n x y, par n (x ^^^ y) = xor (par n x) (par n y)
  | 0, _, _ => rfl
  | n + 1, x, y => by
    rw [par, par, par, xor_half, par_xor n, Nat.testBit_xor]
    cases x.testBit 0 <;> cases y.testBit 0 <;> cases par n (x / 2) <;> cases par n (y / 2) <;> rfl
/-- the product of two rows of n places -/
def dot (n a b : Nat) : Bool := par n (a &&& b)
theorem dot_xor (n a b c : Nat) : dot n a (b ^^^ c) = xor (dot n a b) (dot n a c) := by
  unfold dot
  rw [← par_xor]
  congr 1
  apply Nat.eq_of_testBit_eq
  intro i
  simp only [Nat.testBit_and, Nat.testBit_xor]
  cases a.testBit i <;> simp
theorem dot_zero (n a : Nat) : dot n a 0 = false := by unfold dot; rw [Nat.and_zero, par_zero]
/-- x has the product 0 with all rows -/
def Ker (n : Nat) (rows : List Nat) (x : Nat) : Prop := x < 2 ^ n ∧ ∀ r ∈ rows, dot n r x = false
theorem Ker.zero (n : Nat) (rows : List Nat) : Ker n rows 0 := ⟨Nat.two_pow_pos n, fun r _ => dot_zero n r⟩
theorem Ker.xor {n : Nat} {rows : List Nat} {x y : Nat} (hx : Ker n rows x) (hy : Ker n rows y) : Ker n rows (x ^^^ y) :=
  ⟨Nat.xor_lt_two_pow hx.1 hy.1, fun r hr => by rw [dot_xor, hx.2 r hr, hy.2 r hr]; rfl⟩
end Go.Proofs.Ythjfilmdobkmlaa.P
end
section
namespace Go.Proofs.Ythjfilmdobkmlaa.P
set_option linter.unusedVariables false
set_option linter.unusedSimpArgs false
theorem RED.at {R C : List Nat} (h : RED R C) : ∀ i, (hi : i < R.length) → ∃ hc : i < C.length, R[i].testBit C[i] = true ∧ ∀ b, b < C[i] → R[i].testBit b = false := by
  induction R generalizing C with
  | nil => intro i hi; simp at hi
  | cons r R ih => cases C with
    | nil => exact h.elim
    | cons c C =>
      intro i hi
      cases i with
      | zero => exact ⟨by simp, h.1, h.2.1⟩
      | succ i =>
        obtain ⟨hc, a, b⟩ := ih h.2.2.2 i (by simpa using hi)
        exact ⟨by simpa using hc, a, b⟩
end Go.Proofs.Ythjfilmdobkmlaa.P
end
section
namespace Go.Proofs.Ythjfilmdobkmlaa.P
set_option linter.unusedVariables false
set_option linter.unusedSimpArgs false
end Go.Proofs.Ythjfilmdobkmlaa.P
end
section
namespace Go.Proofs.Ythjfilmdobkmlaa.P
set_option linter.unusedVariables false
set_option linter.unusedSimpArgs false
theorem xx (a b : Nat) : a ^^^ b ^^^ b = a := by rw [Nat.xor_assoc, Nat.xor_self, Nat.xor_zero]
theorem Sp.left {A B : List Nat} {x : Nat} (h : Sp A x) : Sp (A ++ B) x := h.mono fun r hr => List.mem_append.mpr (.inl hr)
theorem Sp.right {A B : List Nat} {x : Nat} (h : Sp B x) : Sp (A ++ B) x := h.mono fun r hr => List.mem_append.mpr (.inr hr)
end Go.Proofs.Ythjfilmdobkmlaa.P
end
section
namespace Go.Proofs.Ythjfilmdobkmlaa.P
open Go.RowKit Go.Proofs.YthjfilmdobkmlaaW.PrintWords Go.Proofs.YthjfilmdobkmlaaW.PrintLast Go.Proofs.YthjfilmdobkmlaaW.PrintMore
set_option linter.unusedVariables false
set_option linter.unusedSimpArgs false
theorem one_v {l : List Int} (hb : Bytes l) (hl : l.length ≤ 4000) {a : Int} (h0 : 0 ≤ a) (h1 : a ≤ 900000) (s n : Int) (hn : n ≤ 100000) :
    ∃ v b t, spec_l00Src_one.f l a s n = some (v, b, t) ∧ a ≤ b ∧ b ≤ a + 2 := by
  unfold spec_l00Src_one.f
  obtain ⟨v, b, t, e, _, _, _, g1, g2⟩ := pick_v hb hl h0 h1 s n hn
  rw [e, bind_some']
  exact ⟨_, _, _, rfl, g1, g2⟩
theorem drawn_loop {N : Nat} (hN : N ≤ 16) {l : List Int} (hb : Bytes l) (hl : l.length ≤ 4000) : ∀ (k : Nat) (a s : Int) (ln : List Nat), 0 ≤ a → a + 100 * k ≤ 800000 → ln.length + k ≤ 1000 → (∀ x ∈ ln, x < 2 ^ N) →
    ∃ ln' b t, spec_l02Drawn.l0d (N : Int) (k : Int) l a s (N : Int) (up ln) = some ((N : Int), up ln', b, t) ∧ (∀ x ∈ ln', x < 2 ^ N) ∧ ln'.length = ln.length + k
  | 0, a, s, ln, h0, h1, h2, hln => ⟨ln, a, s, by rw [spec_l02Drawn.l0d_eq, if_neg (by omega)], hln, by omega⟩
  | k + 1, a, s, ln, h0, h1, h2, hln => by
    have h16 : 2 ^ N ≤ 2 ^ 16 := Nat.pow_le_pow_right (by omega) hN
    have hp := Nat.two_pow_pos N
    rw [spec_l02Drawn.l0d_eq, if_pos (by omega), u64_id (by omega) (by omega), if_pos (by omega), one_shl (by omega)]
    obtain ⟨x, b1, t1, e1, x0, x1, _, g1, g1'⟩ := pick_v hb hl h0 (by omega) s ((2 ^ N : Nat) : Int) (by omega)
    rw [e1, bind_some']
    obtain ⟨o, b2, t2, e2, g2, g2'⟩ := one_v hb hl (a := b1) (by omega) (by omega) t1 3 (by omega)
    have e2' : spec_l00Src_one.f l (x, b1, t1).2.1 (x, b1, t1).2.2 3 = some (o, b2, t2) := e2
    rw [e2', bind_some']
    have kk : wrap64 (((k + 1 : Nat) : Int) - 1) = (k : Int) := by rw [wr (by omega) (by omega)]; omega
    have go : ∀ (y : Nat) (b t : Int), y < 2 ^ N → 0 ≤ b → b + 100 * k ≤ 800000 → ∃ ln' b' t', (if (up ln).length < 17592186044416 then spec_l02Drawn.l0d (N : Int) (wrap64 (((k + 1 : Nat) : Int) - 1)) l b t (N : Int) (up ln ++ [(y : Int)]) else none) = some ((N : Int), up ln', b', t') ∧ (∀ x ∈ ln', x < 2 ^ N) ∧ ln'.length = ln.length + (k + 1) := by
      intro y b t hy hb0 hb1
      obtain ⟨ln', b', t', e, q1, q2⟩ := drawn_loop hN hb hl k b t (ln ++ [y]) hb0 hb1 (by simp; omega) (fun z hz => by
        rcases List.mem_append.mp hz with w | w
        · exact hln z w
        · rw [List.mem_singleton] at w; rw [w]; exact hy)
      refine ⟨ln', b', t', ?_, q1, by rw [q2]; simp; omega⟩
      rw [if_pos (by rw [up_length]; omega), kk, ← e, up_append]; rfl
    have plain : ∀ (b t : Int), 0 ≤ b → b + 100 * k ≤ 800000 → ∃ ln' b' t', spec_l02Drawn.j1d (N : Int) ((k + 1 : Nat) : Int) x false l b t (N : Int) (up ln) = some ((N : Int), up ln', b', t') ∧ (∀ x ∈ ln', x < 2 ^ N) ∧ ln'.length = ln.length + (k + 1) := by
      intro b t hb0 hb1
      obtain ⟨X, rfl⟩ : ∃ X : Nat, x = (X : Int) := ⟨x.toNat, by omega⟩
      rw [spec_l02Drawn.j1d_eq, if_neg (by decide)]
      exact go X b t (by have := x1 (by omega); omega) hb0 hb1
    show ∃ ln' b t, (if o = true then spec_l02Drawn.j1d (N : Int) ((k + 1 : Nat) : Int) x (decide (((up ln).length : Int) > 0)) l b2 t2 (N : Int) (up ln) else spec_l02Drawn.j1d (N : Int) ((k + 1 : Nat) : Int) x false l b2 t2 (N : Int) (up ln)) = some ((N : Int), up ln', b, t) ∧ _
    by_cases ho : o = true
    · rw [if_pos ho]
      by_cases hz : ((up ln).length : Int) > 0
      · rw [decide_eq_true hz, spec_l02Drawn.j1d_eq, if_pos rfl]
        rw [up_length] at hz
        obtain ⟨p, b3, t3, e3, p0, p1, _, g3, g3'⟩ := pick_v hb hl (a := b2) (by omega) (by omega) t2 ((up ln).length : Int) (by rw [up_length]; omega)
        have p2 := p1 (by rw [up_length]; omega)
        rw [up_length] at p2
        rw [e3, bind_some', if_pos p0, if_pos (by rw [up_length]; exact p2)]
        obtain ⟨o2, b4, t4, e4, g4, g4'⟩ := one_v hb hl (a := b3) (by omega) (by omega) t3 2 (by omega)
        have e4' : spec_l00Src_one.f l (p, b3, t3).2.1 (p, b3, t3).2.2 2 = some (o2, b4, t4) := e4
        rw [e4', bind_some']
        obtain ⟨p', rfl⟩ : ∃ p' : Nat, p = (p' : Int) := ⟨p.toNat, by omega⟩
        have hp' : p' < ln.length := by omega
        have r1 := hln _ (List.getElem_mem hp')
        by_cases ho2 : o2 = true
        · obtain ⟨q, b5, t5, e5, q0, q1, _, g5, g5'⟩ := pick_v hb hl (a := b4) (by omega) (by omega) t4 ((up ln).length : Int) (by rw [up_length]; omega)
          have q2 := q1 (by rw [up_length]; omega)
          rw [up_length] at q2
          have e5' : spec_l00Src_pick.f l (o2, b4, t4).2.1 (o2, b4, t4).2.2 ((up ln).length : Int) = some (q, b5, t5) := e5
          rw [if_pos ho2, e5', bind_some', if_pos q0, if_pos (by rw [up_length]; exact q2)]
          obtain ⟨q', rfl⟩ : ∃ q' : Nat, q = (q' : Int) := ⟨q.toNat, by omega⟩
          have hq' : q' < ln.length := by omega
          have r2 := hln _ (List.getElem_mem hq')
          have xx : Go.bits .xor .i64 (rd (up ln) ((p' : Int), b3, t3).1) (rd (up ln) ((q' : Int), b5, t5).1) = ((ln[p'] ^^^ ln[q'] : Nat) : Int) := by
            show Go.bits .xor .i64 (rd (up ln) (p' : Int)) (rd (up ln) (q' : Int)) = _
            rw [up_get hp', up_get hq', bxor (small62 (by omega) r1) (small62 (by omega) r2)]
          rw [xx]
          exact go _ b5 t5 (Nat.xor_lt_two_pow r1 r2) (by omega) (by omega)
        · rw [if_neg ho2]
          have xx : rd (up ln) ((p' : Int), b3, t3).1 = ((ln[p'] : Nat) : Int) := up_get hp'
          rw [xx]
          exact go _ b4 t4 r1 (by omega) (by omega)
      · rw [decide_eq_false hz]
        exact plain b2 t2 (by omega) (by omega)
    · rw [if_neg ho]
      exact plain b2 t2 (by omega) (by omega)
theorem drawn_v {N : Nat} (hN : N ≤ 16) {l : List Int} (hb : Bytes l) (hl : l.length ≤ 4000) {most : Nat} (hm : most ≤ 100) :
    ∃ ln b t, spec_l02Drawn.d l 0 0 (N : Int) (most : Int) = some ((N : Int), up ln, b, t) ∧ (∀ x ∈ ln, x < 2 ^ N) ∧ ln.length ≤ most := by
  rw [spec_l02Drawn.d_eq, wr (by omega) (by omega)]
  obtain ⟨v, b, t, e, v0, v1, _, g, g'⟩ := pick_v hb hl (a := 0) (by omega) (by omega) 0 ((most : Int) + 1) (by omega)
  have v2 := v1 (by omega)
  rw [e, bind_some']
  obtain ⟨k, rfl⟩ : ∃ k : Nat, v = (k : Int) := ⟨v.toNat, by omega⟩
  obtain ⟨ln, b', t', e', q1, q2⟩ := drawn_loop hN hb hl k b t [] (by omega) (by omega) (by simp; omega) (fun x hx => nomatch hx)
  exact ⟨ln, b', t', e', q1, by rw [q2]; simp; omega⟩
end Go.Proofs.Ythjfilmdobkmlaa.P
end
section
namespace Go.Proofs.Ythjfilmdobkmlaa.P
open Go.RowKit Go.Proofs.YthjfilmdobkmlaaW.PrintWords Go.Proofs.YthjfilmdobkmlaaW.PrintLast Go.Proofs.YthjfilmdobkmlaaW.PrintMore
set_option linter.unusedVariables false
set_option linter.unusedSimpArgs false
theorem div_bit0 (x k : Nat) : (x / 2 ^ k).testBit 0 = x.testBit k := by rw [Nat.testBit_div_two_pow, Nat.zero_add]
theorem div_half (x k : Nat) : x / 2 ^ k / 2 = x / 2 ^ (k + 1) := by rw [Nat.pow_succ, Nat.div_div_eq_div_mul]
theorem i_sumOf_v {n x : Nat} (hn : n ≤ 60) {L : List Nat} (hl : L.length ≤ 60) (hx : x < 4611686018427387904) (hb : ∀ r ∈ L, r < 2 ^ n) : impl_sumOf.d (up L) (x : Int) = some ((tmb x L : Nat) : Int) := by
  have key : ∀ k, k ≤ L.length → ∀ a : Nat, a < 2 ^ n → impl_sumOf.l0d (x : Int) (a : Int) (up L) ((up L).length : Int) (k : Int) = some ((a ^^^ tmb (x / 2 ^ k) (L.drop k) : Nat) : Int) := by
    apply down
    · intro a _
      rw [impl_sumOf.l0d_eq, if_neg (by rw [up_length]; omega), List.drop_length, tmb, Nat.xor_zero]
    · intro k hk ih a ha
      have hr := hb _ (List.getElem_mem hk)
      rw [impl_sumOf.l0d_eq, if_pos (by rw [up_length]; omega), if_pos (by omega), if_pos (by rw [up_length]; omega), bit_test (by omega) (by omega), wrS hk (by omega), List.drop_eq_getElem_cons hk, tmb, div_bit0, div_half]
      by_cases c : x.testBit k = true
      · rw [if_pos c, if_pos rfl, if_pos c, up_get hk, bxor (small62 (by omega) ha) (small62 (by omega) hr), ih _ (Nat.xor_lt_two_pow ha hr), Nat.xor_assoc]
      · rw [if_neg c, if_neg (by decide), if_neg c, ih a ha, Nat.zero_xor]
  have := key 0 (by omega) 0 (Nat.two_pow_pos n)
  rw [impl_sumOf.d_eq]
  rw [Nat.pow_zero, Nat.div_one, List.drop_zero, Nat.zero_xor] at this
  exact this
end Go.Proofs.Ythjfilmdobkmlaa.P
end
section
namespace Go.Proofs.Ythjfilmdobkmlaa.P
open Go.RowKit Go.Proofs.YthjfilmdobkmlaaW.PrintWords Go.Proofs.YthjfilmdobkmlaaW.PrintLast Go.Proofs.YthjfilmdobkmlaaW.PrintMore
set_option linter.unusedVariables false
set_option linter.unusedSimpArgs false
theorem elemB_nat {N x : Nat} (h : x < 2 ^ N) : elemB (N : Int) (x : Int) = true := by
  unfold elemB
  have e : ((2 ^ N : Nat) : Int) = (2 : Int) ^ N := by simp
  simp only [Bool.and_eq_true, decide_eq_true_eq, Int.toNat_natCast]
  omega
theorem space_of {N : Nat} (h1 : 1 ≤ N) (hN : N ≤ 10) {R C : List Nat} (h : RED R C) (hb : ∀ r ∈ R, r < 2 ^ N) (hl : R.length ≤ 10) : spaceB (N : Int) (up R) = true ∧ impl_echelon.d (up R) = some (up R) := by
  obtain ⟨S, D, _, e2, hS, hs, _, _, _⟩ := ech_v (N := N) (by omega) (ln := R) (by omega) hb
  have e := (hS.unique h hs).1
  rw [e] at e2
  unfold spaceB
  rw [matB_of h1 hN hl hb, e2]
  simp
theorem spaces_s {N : Nat} (h1 : 1 ≤ N) (hN : N ≤ 10) {R C : List Nat} (h : RED R C) (hb : ∀ r ∈ R, r < 2 ^ N) (hl : R.length ≤ 10) : spec_IsSpace.d (N : Int) (up R) = some true := by
  have e := s_l02Space_v (N : Int) (l := up R) (by rw [up_length]; omega)
  rw [(space_of h1 hN h hb hl).1] at e
  rw [spec_IsSpace.d_eq, e, bind_some']
theorem same_s (c : Int) {q : List Nat} (hq : q.length ≤ 10) : spec_SameMatrix.d c (up q) c (up q) = some true := by
  rw [spec_SameMatrix.d_eq, if_pos rfl, s_same_v (by rw [up_length]; omega), bind_some']; simp
end Go.Proofs.Ythjfilmdobkmlaa.P
end
section
namespace Go.Proofs.Ythjfilmdobkmlaa.P
open Go.RowKit Go.Proofs.YthjfilmdobkmlaaW.PrintWords Go.Proofs.YthjfilmdobkmlaaW.PrintLast Go.Proofs.YthjfilmdobkmlaaW.PrintMore
set_option linter.unusedVariables false
set_option linter.unusedSimpArgs false
theorem i_mmul_v {M N : Nat} (hM : M ≤ 10) (hN : N ≤ 10) {X R : List Nat} (hX : X.length ≤ 1048576) (bX : ∀ x ∈ X, x < 2 ^ M) (hR : R.length ≤ 60) (bR : ∀ x ∈ R, x < 2 ^ N) (c : Int) :
    impl_Matrix_mul.d (M : Int) (up X) c (up R) = some (c, up (X.map fun x => tmb x R)) := by
  have h10 : 2 ^ M ≤ 2 ^ 10 := Nat.pow_le_pow_right (by omega) hM
  rw [impl_Matrix_mul.d_eq]
  have key : ∀ i, i ≤ X.length → impl_Matrix_mul.l0d (up X) ((up X).length : Int) (i : Int) c (up R) c (up ((X.take i).map fun x => tmb x R)) = some (c, up (X.map fun x => tmb x R)) := by
    apply down
    · rw [impl_Matrix_mul.l0d_eq, if_neg (by rw [up_length]; omega), List.take_length]
    · intro i hi ih
      have hx := bX _ (List.getElem_mem hi)
      rw [impl_Matrix_mul.l0d_eq, if_pos (by rw [up_length]; omega), if_pos (by omega), if_pos (by rw [up_length]; omega), up_get hi, i_sumOf_v (n := N) (by omega) hR (by omega) bR, bind_some', if_pos (by rw [up_length]; simp; omega), wrS hi (by omega), ← ih]
      congr 1
      rw [List.take_succ_eq_append_getElem hi, List.map_append, up_append]; rfl
  exact key 0 (by omega)
end Go.Proofs.Ythjfilmdobkmlaa.P
end
section
namespace Go.Proofs.Ythjfilmdobkmlaa.P
set_option linter.unusedVariables false
set_option linter.unusedSimpArgs false
theorem half_xor (x y : Nat) : (x ^^^ y) / 2 = x / 2 ^^^ y / 2 := xor_half x y
theorem tmb_zero : ∀ L : List Nat, tmb 0 L = 0
  | [] => rfl
  | r :: L => by rw [tmb, Nat.zero_testBit, if_neg (by decide), Nat.zero_xor, Nat.zero_div, tmb_zero L]
theorem tmb_xor : ∀ (L : List Nat) (x y : Nat), tmb (x ^^^ y) L = tmb x L ^^^ tmb y L
  | [], x, y => by simp [tmb]
  | r :: L, x, y => by
    rw [tmb, tmb, tmb, Nat.testBit_xor, half_xor, tmb_xor L]
    have h : (if (x.testBit 0 ^^ y.testBit 0) = true then r else 0) = (if x.testBit 0 = true then r else 0) ^^^ (if y.testBit 0 = true then r else 0) := by
      cases x.testBit 0 <;> cases y.testBit 0 <;> simp
    rw [h]
    simp only [Nat.xor_assoc]
    congr 1
    rw [← Nat.xor_assoc, ← Nat.xor_assoc, Nat.xor_comm (if y.testBit 0 = true then r else 0)]
theorem tmb_sp : ∀ (L : List Nat) (x : Nat), Sp L (tmb x L)
  | [], x => .zero
  | r :: L, x => by
    rw [tmb, Nat.xor_comm]
    have h : Sp (r :: L) (tmb (x / 2) L) := (tmb_sp L (x / 2)).mono fun z hz => by simp [hz]
    split
    · exact h.xor (Sp.mem (by simp))
    · rw [Nat.xor_zero]; exact h
/-- products of sums are sums of products -/
theorem sp_map {L B : List Nat} {x : Nat} (h : Sp L x) : Sp (L.map fun z => tmb z B) (tmb x B) := by
  induction h with
  | zero => rw [tmb_zero]; exact .zero
  | @add r v hr _ ih => rw [tmb_xor]; exact ih.xor (Sp.mem (List.mem_map.mpr ⟨r, hr, rfl⟩))
theorem prod_rank {an R C B RB CB P CP RP : List Nat} (hs : ∀ v, Sp R v ↔ Sp an v) (hB : ∀ v, Sp RB v ↔ Sp B v) (hP : RED RP CP) (sP : ∀ v, Sp RP v ↔ Sp (an.map fun z => tmb z B) v) : RP.length ≤ R.length ∧ RP.length ≤ RB.length := by
  constructor
  · have : RP.length ≤ (R.map fun z => tmb z B).length := hP.le fun r hr => ((sP r).mp (Sp.mem hr)).sub fun z hz => by
      obtain ⟨y, hy, rfl⟩ := List.mem_map.mp hz
      exact sp_map ((hs y).mpr (Sp.mem hy))
    rwa [List.length_map] at this
  · exact hP.le fun r hr => ((sP r).mp (Sp.mem hr)).sub fun z hz => by
      obtain ⟨y, hy, rfl⟩ := List.mem_map.mp hz
      exact (hB _).mpr (tmb_sp B y)
theorem add_rank {an R K RK D RD CD : List Nat} (hs : ∀ v, Sp R v ↔ Sp an v) (hK : ∀ v, Sp RK v ↔ Sp K v) (hD : RED RD CD) (sD : ∀ v, Sp RD v ↔ Sp D v) (h : ∀ x ∈ D, ∃ a b, a ∈ an ∧ b ∈ K ∧ x = a ^^^ b) : RD.length ≤ R.length + RK.length := by
  have : RD.length ≤ (R ++ RK).length := hD.le fun r hr => ((sD r).mp (Sp.mem hr)).sub fun z hz => by
    obtain ⟨a, b, ha, hb, rfl⟩ := h z hz
    exact (((hs a).mpr (Sp.mem ha)).mono fun w hw => List.mem_append.mpr (.inl hw)).xor (((hK b).mpr (Sp.mem hb)).mono fun w hw => List.mem_append.mpr (.inr hw))
  rwa [List.length_append] at this
end Go.Proofs.Ythjfilmdobkmlaa.P
end
section
namespace Go.Proofs.Ythjfilmdobkmlaa.P
open Go.RowKit Go.Proofs.YthjfilmdobkmlaaW.PrintWords Go.Proofs.YthjfilmdobkmlaaW.PrintLast Go.Proofs.YthjfilmdobkmlaaW.PrintMore
set_option linter.unusedVariables false
set_option linter.unusedSimpArgs false
theorem mcode1_v {c : Int} {l : List Int} (h : matB c l = true) : impl_matricesCode_1.d c l = some false := by
  have hl : l.length ≤ 10 := by
    unfold matB at h
    simp only [Bool.and_eq_true, decide_eq_true_eq] at h
    exact h.2.1
  rw [impl_matricesCode_1.d_eq, i_ValidMatrix_v c (by omega), bind_some', h]; rfl
theorem one_ok {c : Int} {l : List Int} (h : matB c l = true) : impl_Matrix_AT_impl_matricesCode_1_89.d [(⟨c, l⟩ : S27)] = some false := by
  rw [impl_Matrix_AT_impl_matricesCode_1_89.d_eq, impl_Matrix_AT_impl_matricesCode_1_105.d_eq, impl_Matrix_AT_impl_matricesCode_1_105.l0d_eq, if_pos (by simp), if_pos (by omega), if_pos (by simp)]
  have e : impl_matricesCode_1.d (rd_T27 [(⟨c, l⟩ : S27)] 0).f0 (rd_T27 [(⟨c, l⟩ : S27)] 0).f1 = some false := mcode1_v h
  rw [e, bind_some', if_neg (by decide), show wrap64 ((0 : Int) + 1) = 1 by rw [wr (by omega) (by omega)]; rfl, impl_Matrix_AT_impl_matricesCode_1_105.l0d_eq, if_neg (by simp), bind_some']
  rfl
theorem two_ok {c : Int} {l : List Int} {d : Int} {k : List Int} (h : matB c l = true) (h' : matB d k = true) : impl_Matrix_AT_impl_matricesCode_1_89.d [(⟨c, l⟩ : S27), (⟨d, k⟩ : S27)] = some false := by
  rw [impl_Matrix_AT_impl_matricesCode_1_89.d_eq, impl_Matrix_AT_impl_matricesCode_1_105.d_eq, impl_Matrix_AT_impl_matricesCode_1_105.l0d_eq, if_pos (by simp), if_pos (by omega), if_pos (by simp)]
  have e : impl_matricesCode_1.d (rd_T27 [(⟨c, l⟩ : S27), (⟨d, k⟩ : S27)] 0).f0 (rd_T27 [(⟨c, l⟩ : S27), (⟨d, k⟩ : S27)] 0).f1 = some false := mcode1_v h
  have e' : impl_matricesCode_1.d (rd_T27 [(⟨c, l⟩ : S27), (⟨d, k⟩ : S27)] 1).f0 (rd_T27 [(⟨c, l⟩ : S27), (⟨d, k⟩ : S27)] 1).f1 = some false := mcode1_v h'
  rw [e, bind_some', if_neg (by decide), show wrap64 ((0 : Int) + 1) = 1 by rw [wr (by omega) (by omega)]; rfl, impl_Matrix_AT_impl_matricesCode_1_105.l0d_eq, if_pos (by simp), if_pos (by omega), if_pos (by simp), e', bind_some', if_neg (by decide), show wrap64 ((1 : Int) + 1) = 2 by rw [wr (by omega) (by omega)]; rfl, impl_Matrix_AT_impl_matricesCode_1_105.l0d_eq, if_neg (by simp), bind_some']
  rfl
theorem rank_i {n : Nat} (n1 : 1 ≤ n) (hn : n ≤ 10) {ln : List Nat} (hl : ln.length ≤ 10) (hb : ∀ r ∈ ln, r < 2 ^ n) {R C : List Nat} (hR : RED R C) (hs : ∀ v, Sp R v ↔ Sp ln v) : impl_RankOf.d (n : Int) (up ln) = some ((R.length : Int), 0) := by
  obtain ⟨S, D, _, e2, hS, sS, _⟩ := ech_v (N := n) (by omega) (ln := ln) (by omega) hb
  have e := (hS.unique hR fun v => (sS v).trans (hs v).symm).1
  subst e
  rw [impl_RankOf.d_eq, i_ValidMatrix_v _ (by rw [up_length]; omega), bind_some', matB_of n1 hn hl hb, if_pos rfl, e2, bind_some']
  unfold impl_size_int64.f
  rw [bind_some', up_length]
theorem solve_some {n x : Nat} (n1 : 1 ≤ n) (hn : n ≤ 10) {L : List Nat} (hl : L.length ≤ 10) (hb : ∀ r ∈ L, r < 2 ^ n) (hx : x < 2 ^ n) (h : Sp L x) :
    ∃ y : Nat, y < 2 ^ L.length ∧ tmb y L = x ∧ impl_SolveRows.d (n : Int) (up L) (x : Int) = some ((y : Int), 0) := by
  have hp : 2 ^ L.length ≤ 2 ^ 10 := Nat.pow_le_pow_right (by omega) hl
  obtain ⟨s, s1, s2⟩ := sp_sel h
  have hy : bitsOf s < 2 ^ L.length := by have := bitsOf_lt s; rwa [s1] at this
  have hyx : tmb (bitsOf s) L = x := by rw [tmb_bitsOf s L s1, s2]
  have key : ∀ b : Nat, b ≤ bitsOf s → ∃ y : Nat, y < 2 ^ L.length ∧ tmb y L = x ∧ impl_SolveRows.l0d ((2 ^ L.length : Nat) : Int) (b : Int) (n : Int) (up L) (x : Int) = some ((y : Int), 0) := by
    apply down
    · refine ⟨bitsOf s, hy, hyx, ?_⟩
      rw [impl_SolveRows.l0d_eq, if_pos (by omega), i_sumOf_v (n := n) (by omega) (by omega) (by omega) hb, bind_some', if_pos (by rw [hyx])]
    · intro b hb' ⟨y, y1, y2, e⟩
      by_cases c : tmb b L = x
      · exact ⟨b, by omega, c, by rw [impl_SolveRows.l0d_eq, if_pos (by omega), i_sumOf_v (n := n) (by omega) (by omega) (by omega) hb, bind_some', if_pos (by rw [c])]⟩
      · exact ⟨y, y1, y2, by rw [impl_SolveRows.l0d_eq, if_pos (by omega), i_sumOf_v (n := n) (by omega) (by omega) (by omega) hb, bind_some', if_neg (fun w => c (Int.ofNat_inj.mp w)), wrS hb' (by omega), e]⟩
  obtain ⟨y, y1, y2, e⟩ := key 0 (Nat.zero_le _)
  refine ⟨y, y1, y2, ?_⟩
  have hc : 1 ≤ (n : Int) ∧ (n : Int) ≤ 10 := by omega
  have code : impl_matricesCode_AT_impl_SolveRows_1.d (n : Int) (up L) (x : Int) [(⟨(n : Int), up L⟩ : S27)] = some 0 := by
    rw [impl_matricesCode_AT_impl_SolveRows_1.d_eq, one_ok (matB_of n1 hn hl hb), bind_some', if_neg (by decide)]
    unfold impl_SolveRows_1.f
    rw [i_mhas_v hc.1 hc.2, elemB_nat hx]
    rfl
  rw [impl_SolveRows.d_eq, code, bind_some', if_pos rfl, up_length, one_shl (by omega)]
  exact e
/-- one row is the sum that its number tells -/
theorem row_v {n y : Nat} (hn : n ≤ 10) {an R : List Nat} (hR : R.length ≤ 10) (bR : ∀ r ∈ R, r < 2 ^ n) (hy : y < 2 ^ 10) {i : Nat} (hi : i < an.length) (ha : an.length ≤ 10) (e : tmb y R = an[i]) (x1 : List Int) (x5 x7 N M : Int) :
    laws_FnRanks.l1d x1 x5 x7 (i : Int) (y : Int) 0 0 N (up an) M (up R) = laws_FnRanks.l0d x1 x5 x7 ((i + 1 : Nat) : Int) N (up an) M (up R) := by
  have key : ∀ k, k ≤ R.length → ∀ a : Nat, a < 2 ^ n → a ^^^ tmb (y / 2 ^ k) (R.drop k) = an[i] → laws_FnRanks.l1d x1 x5 x7 (i : Int) (y : Int) (a : Int) (k : Int) N (up an) M (up R) = laws_FnRanks.l0d x1 x5 x7 ((i + 1 : Nat) : Int) N (up an) M (up R) := by
    apply down
    · intro a _ h
      rw [List.drop_length, tmb, Nat.xor_zero] at h
      rw [laws_FnRanks.l1d_eq, if_neg (by rw [up_length]; omega), if_pos (by omega), if_pos (by rw [up_length]; omega), up_get hi, if_pos (by rw [h]), wrS hi (by omega)]
    · intro k hk ih a ha' h
      have hr := bR _ (List.getElem_mem hk)
      rw [List.drop_eq_getElem_cons hk, tmb, div_bit0, div_half] at h
      rw [laws_FnRanks.l1d_eq, if_pos (by rw [up_length]; omega), u64_id (by omega) (by omega), if_pos (by omega), bit_test (by omega) (by omega), wrS hk (by omega)]
      by_cases c : y.testBit k = true
      · rw [if_pos c] at h
        rw [if_pos c, if_pos rfl, if_pos (by omega), up_get hk, bxor (small62 (by omega) ha') (small62 (by omega) hr)]
        exact ih _ (Nat.xor_lt_two_pow ha' hr) (by rw [Nat.xor_assoc]; exact h)
      · rw [if_neg c, Nat.zero_xor] at h
        rw [if_neg c, if_neg (by decide)]
        exact ih a ha' h
  have := key 0 (by omega) 0 (Nat.two_pow_pos n) (by rw [Nat.zero_xor, Nat.pow_zero, Nat.div_one, List.drop_zero]; exact e)
  exact this
/-- all rows are sums of the reduced ones -/
theorem rows_v {n : Nat} (n1 : 1 ≤ n) (hn : n ≤ 10) {an R C : List Nat} (ha : an.length ≤ 10) (ba : ∀ r ∈ an, r < 2 ^ n) (hR : R.length ≤ 10) (bR : ∀ r ∈ R, r < 2 ^ n) (hs : ∀ v, Sp R v ↔ Sp an v) (x1 : List Int) (x5 x7 : Int) :
    laws_FnRanks.l0d x1 x5 x7 0 (n : Int) (up an) (n : Int) (up R) = laws_FnRanks.l2d x1 x5 x7 0 (n : Int) (up an) (n : Int) (up R) := by
  have h10 : 2 ^ R.length ≤ 2 ^ 10 := Nat.pow_le_pow_right (by omega) hR
  have key : ∀ i, i ≤ an.length → laws_FnRanks.l0d x1 x5 x7 (i : Int) (n : Int) (up an) (n : Int) (up R) = laws_FnRanks.l2d x1 x5 x7 0 (n : Int) (up an) (n : Int) (up R) := by
    apply down
    · rw [laws_FnRanks.l0d_eq, if_neg (by rw [up_length]; omega)]
    · intro i hi ih
      have hm := List.getElem_mem hi
      obtain ⟨y, y1, y2, e⟩ := solve_some n1 hn hR bR (ba _ hm) ((hs _).mpr (Sp.mem hm))
      rw [laws_FnRanks.l0d_eq, if_pos (by rw [up_length]; omega), if_pos (by omega), up_get hi, e, bind_some']
      dsimp only
      rw [if_pos rfl, if_neg (by omega), up_length, u64_id (by omega) (by omega), if_pos (by omega), one_shl (by omega), decide_eq_false (by omega), laws_FnRanks.j2d_eq, if_neg (by decide), row_v hn hR bR (by omega) hi ha y2, ih]
  exact key 0 (by omega)
theorem backs_v {n : Nat} (n1 : 1 ≤ n) (hn : n ≤ 10) {an R C : List Nat} (ha : an.length ≤ 10) (ba : ∀ r ∈ an, r < 2 ^ n) (hR : R.length ≤ 10) (bR : ∀ r ∈ R, r < 2 ^ n) (hs : ∀ v, Sp R v ↔ Sp an v) (x1 : List Int) (x5 x7 : Int) :
    laws_FnRanks.l2d x1 x5 x7 0 (n : Int) (up an) (n : Int) (up R) = laws_FnRanks.l2d x1 x5 x7 (R.length : Int) (n : Int) (up an) (n : Int) (up R) := by
  have key : ∀ i, i ≤ R.length → laws_FnRanks.l2d x1 x5 x7 (i : Int) (n : Int) (up an) (n : Int) (up R) = laws_FnRanks.l2d x1 x5 x7 (R.length : Int) (n : Int) (up an) (n : Int) (up R) := by
    apply down
    · rfl
    · intro i hi ih
      have hm := List.getElem_mem hi
      obtain ⟨y, y1, y2, e⟩ := solve_some n1 hn ha ba (bR _ hm) ((hs _).mp (Sp.mem hm))
      have st : laws_FnRanks.l2d x1 x5 x7 (i : Int) (n : Int) (up an) (n : Int) (up R) = laws_FnRanks.l2d x1 x5 x7 ((i + 1 : Nat) : Int) (n : Int) (up an) (n : Int) (up R) := by
        rw [laws_FnRanks.l2d_eq, if_pos (by rw [up_length]; omega), if_pos (by omega), up_get hi, e, bind_some']
        dsimp only
        rw [if_pos rfl, wrS hi (by omega)]
      rw [st, ih]
  exact key 0 (by omega)
theorem at_nat {l : List Int} (hb : Bytes l) (hl : l.length ≤ 4000) {a : Int} (h0 : 0 ≤ a) {n : Nat} (hn : n ≤ 10) : ∃ v : Nat, v < 2 ^ n ∧ laws_a2At.f l a (shl .i64 1 (n : Int)) = some (v : Int) := by
  have h10 : 2 ^ n ≤ 2 ^ 10 := Nat.pow_le_pow_right (by omega) hn
  have hp := Nat.two_pow_pos n
  rw [one_shl (by omega)]
  obtain ⟨v, e, v0, v1⟩ := a2At_v hb hl h0 (n := ((2 ^ n : Nat) : Int)) (by omega) (by omega)
  exact ⟨v.toNat, by omega, by rw [e]; congr 1; omega⟩
theorem draw3 {l : List Int} (hb : Bytes l) (hl : l.length ≤ 4000) {n : Nat} (hn : n ≤ 10) (x7 x22 x23 x24 N M : Int) (A : List Int) : ∀ (k : Nat) (acc : List Nat), acc.length + k = n → (∀ x ∈ acc, x < 2 ^ n) →
    ∃ B : List Nat, B.length = n ∧ (∀ x ∈ B, x < 2 ^ n) ∧ laws_FnRanks.l3d l (n : Int) x7 x22 x23 x24 (acc.length : Int) N A M (up acc) = laws_FnRanks.l3d l (n : Int) x7 x22 x23 x24 (n : Int) N A M (up B)
  | 0, acc, h, ha => ⟨acc, by omega, ha, by rw [show acc.length = n by omega]⟩
  | k + 1, acc, h, ha => by
    obtain ⟨v, hv, e⟩ := at_nat hb hl (a := 1 + (acc.length : Int)) (by omega) hn
    obtain ⟨B, b1, b2, b3⟩ := draw3 hb hl hn x7 x22 x23 x24 N M A k (acc ++ [v]) (by simp; omega) (fun x hx => by
      rcases List.mem_append.mp hx with z | z
      · exact ha x z
      · rw [List.mem_singleton] at z; rw [z]; exact hv)
    refine ⟨B, b1, b2, ?_⟩
    rw [laws_FnRanks.l3d_eq, if_pos (by omega), u64_id (by omega) (by omega), if_pos (by omega), wr (x := 1 + (acc.length : Int)) (by omega) (by omega), e, bind_some', if_pos (by rw [up_length]; omega), wr (x := (acc.length : Int) + 1) (by omega) (by omega), ← b3]
    rw [List.length_append, up_append]
    rfl
theorem draw4 {l : List Int} (hb : Bytes l) (hl : l.length ≤ 4000) {n : Nat} (hn : n ≤ 10) (x7 x22 x23 x24 x28 x29 x30 x31 x32 N M : Int) {an : List Nat} (hA : an.length ≤ 10) : ∀ (k : Nat) (acc : List Nat), acc.length + k = an.length → (∀ x ∈ acc, x < 2 ^ n) →
    ∃ B : List Nat, B.length = an.length ∧ (∀ x ∈ B, x < 2 ^ n) ∧ laws_FnRanks.l4d l (n : Int) x7 x22 x23 x24 x28 x29 x30 x31 x32 (acc.length : Int) N (up an) M (up acc) = laws_FnRanks.l4d l (n : Int) x7 x22 x23 x24 x28 x29 x30 x31 x32 (an.length : Int) N (up an) M (up B)
  | 0, acc, h, ha => ⟨acc, by omega, ha, by rw [show acc.length = an.length by omega]⟩
  | k + 1, acc, h, ha => by
    obtain ⟨v, hv, e⟩ := at_nat hb hl (a := 9 + (acc.length : Int)) (by omega) hn
    obtain ⟨B, b1, b2, b3⟩ := draw4 hb hl hn x7 x22 x23 x24 x28 x29 x30 x31 x32 N M hA k (acc ++ [v]) (by simp; omega) (fun x hx => by
      rcases List.mem_append.mp hx with z | z
      · exact ha x z
      · rw [List.mem_singleton] at z; rw [z]; exact hv)
    refine ⟨B, b1, b2, ?_⟩
    rw [laws_FnRanks.l4d_eq, if_pos (by rw [up_length]; omega), u64_id (by omega) (by omega), if_pos (by omega), wr (x := 9 + (acc.length : Int)) (by omega) (by omega), e, bind_some', if_pos (by rw [up_length]; omega), wr (x := (acc.length : Int) + 1) (by omega) (by omega), ← b3]
    rw [List.length_append, up_append]
    rfl
theorem mul_i {n : Nat} (n1 : 1 ≤ n) (hn : n ≤ 10) {an B : List Nat} (ha : an.length ≤ 10) (ba : ∀ r ∈ an, r < 2 ^ n) (hB : B.length = n) (bB : ∀ r ∈ B, r < 2 ^ n) : impl_MulMatrices.d (n : Int) (up an) (n : Int) (up B) = some ((n : Int), up (an.map fun x => tmb x B), 0) := by
  rw [impl_MulMatrices.d_eq, impl_matricesCode_AT_impl_MulMatrices_1.d_eq, two_ok (matB_of n1 hn ha ba) (matB_of n1 hn (by omega) bB), bind_some', if_neg (by decide)]
  unfold impl_MulMatrices_1.f impl_size_int64.f
  rw [bind_some', bind_some', if_pos (by rw [up_length, hB]; simp), bind_some', if_pos rfl, i_mmul_v (M := n) (N := n) hn hn (by omega) ba (by omega) bB, bind_some']
/-- the sums, row by row -/
def adds (an K : List Nat) (i : Nat) : List Nat := (List.range i).map fun j => an.getD j 0 ^^^ K.getD j 0
theorem add_i {n : Nat} (n1 : 1 ≤ n) (hn : n ≤ 10) {an K : List Nat} (ha : an.length ≤ 10) (ba : ∀ r ∈ an, r < 2 ^ n) (hK : K.length = an.length) (bK : ∀ r ∈ K, r < 2 ^ n) : impl_AddMatrices.d (n : Int) (up an) (n : Int) (up K) = some ((n : Int), up (adds an K an.length), 0) := by
  rw [impl_AddMatrices.d_eq, impl_matricesCode_AT_impl_AddMatrices_1.d_eq, two_ok (matB_of n1 hn ha ba) (matB_of n1 hn (by omega) bK), bind_some', if_neg (by decide)]
  unfold impl_AddMatrices_1.f
  rw [if_pos rfl, bind_some', if_pos (by rw [up_length, up_length, hK]; simp), bind_some', if_pos rfl]
  have key : ∀ i, i ≤ an.length → impl_AddMatrices.l0d (up an) ((up an).length : Int) (i : Int) (n : Int) (up K) (n : Int) (up (adds an K i)) = some ((n : Int), up (adds an K an.length), 0) := by
    apply down
    · rw [impl_AddMatrices.l0d_eq, if_neg (by rw [up_length]; omega)]
    · intro i hi ih
      have hi' : i < K.length := by omega
      have ha' := ba _ (getD_mem hi)
      have hk' := bK _ (getD_mem hi')
      rw [impl_AddMatrices.l0d_eq, if_pos (by rw [up_length]; omega), if_pos (by omega), if_pos (by rw [up_length]; omega), if_pos (by rw [up_length]; omega), if_pos (by rw [up_length]; simp [adds]; omega), up_getD hi, up_getD hi', bxor (small62 (by omega) ha') (small62 (by omega) hk'), wrS hi (by omega), ← ih]
      congr 1
      unfold adds
      rw [List.range_succ, List.map_append, up_append]; rfl
  exact key 0 (by omega)
theorem turn_i {n : Nat} (n1 : 1 ≤ n) (hn : n ≤ 10) {an : List Nat} (h0 : 0 < an.length) (ha : an.length ≤ 10) (ba : ∀ r ∈ an, r < 2 ^ n) : impl_TurnMatrix.d (n : Int) (up an) = some ((an.length : Int), up (trows n an), 0) := by
  have h10 : 2 ^ n ≤ 2 ^ 10 := Nat.pow_le_pow_right (by omega) hn
  rw [impl_TurnMatrix.d_eq, impl_matricesCode_AT_impl_TurnMatrix_1.d_eq, one_ok (matB_of n1 hn ha ba), bind_some', if_neg (by decide)]
  unfold impl_TurnMatrix_1.f
  rw [bind_some', if_pos (by rw [up_length]; simp; omega), bind_some', if_pos rfl, i_turn_v (by omega) (by omega) (fun x hx => by have := ba x hx; omega), bind_some']
theorem FnRanks_law (l0 l1 : List Int) (h1 : ∀ x ∈ l0, (Lit.int .u8 x).wf = true) (h3 : ∀ x ∈ l1, (Lit.int .u8 x).wf = true) : laws_FnRanks.d l0 l1 = some true := by
  rw [laws_FnRanks.d_eq]
  unfold laws_a2Long.f
  by_cases c0 : (l0.length : Int) > 3000
  · rw [if_pos c0, bind_some', if_pos rfl]
  · rw [if_neg c0, bind_some']
    by_cases c1 : (l1.length : Int) > 3000
    · rw [if_pos (by simpa using c1)]
    · rw [if_neg (by simpa using c1)]
      have b0 := bytes_of h1
      have b1 := bytes_of h3
      obtain ⟨v, e, v0, v1⟩ := a2At_v b1 (by omega) (a := 0) (by omega) (n := 5) (by omega) (by omega)
      rw [e, bind_some']
      obtain ⟨n, hn⟩ : ∃ n : Nat, wrap64 (1 + v) = (n : Int) := ⟨(1 + v).toNat, by rw [wr (by omega) (by omega)]; omega⟩
      have hv : 1 + v = (n : Int) := by rw [wr (by omega) (by omega)] at hn; exact hn
      have n1 : 1 ≤ n := by omega
      have n10 : n ≤ 10 := by omega
      rw [hn]
      obtain ⟨an, b, t, ed, ba, hl⟩ := drawn_v (N := n) (by omega) b0 (by omega) (most := 5) (by omega)
      have ea : spec_A2Matrix.d l0 (n : Int) 5 = some ((n : Int), up an) := by
        rw [spec_A2Matrix.d_eq]
        unfold spec_l00From.f
        rw [bind_some']
        show (spec_l02Drawn.d l0 0 0 (n : Int) 5).bind _ = _
        have ed' : spec_l02Drawn.d l0 0 0 (n : Int) 5 = some ((n : Int), up an, b, t) := ed
        rw [ed', bind_some']
      have ha : an.length ≤ 10 := by omega
      obtain ⟨R, C, _, e4, hR, hs, bR, lR, hC⟩ := ech_v (N := n) (by omega) (ln := an) (by omega) ba
      have er := rank_i n1 n10 ha ba hR hs
      have vm : impl_ValidMatrix.d (n : Int) (up an) = some true := by rw [i_ValidMatrix_v _ (by rw [up_length]; omega), matB_of n1 n10 ha ba]
      have ee : impl_EchelonOf.d (n : Int) (up an) = some ((n : Int), up R, 0) := by
        rw [impl_EchelonOf.d_eq, vm, bind_some', if_pos rfl, impl_Matrix_form.d_eq, e4, bind_some', bind_some']
      have es : impl_SpaceOf.d (n : Int) (up an) = some ((n : Int), up R, 0) := by rw [impl_SpaceOf.d_eq, ee, bind_some']
      have sp1 := spaces_s n1 n10 hR bR (by omega)
      have sp2 : impl_IsSpace.d (n : Int) (up R) = some true := by
        have q := i_IsSpace_v (n : Int) (l := up R) (by rw [up_length]; omega)
        rwa [(space_of n1 n10 hR bR (by omega)).1] at q
      have sm := same_s (n : Int) (q := R) (by omega)
      have lr : ((up R).length : Int) = (R.length : Int) := by rw [up_length]
      have lR' : R.length ≤ 10 := by omega
      have cont : laws_FnRanks.l2d l1 (n : Int) (R.length : Int) (R.length : Int) (n : Int) (up an) (n : Int) (up R) = some true := by
        have s2 := laws_FnRanks.l2d_eq l1 (n : Int) (R.length : Int) (R.length : Int) (n : Int) (up an) (n : Int) (up R)
        rw [if_neg (by rw [up_length]; omega)] at s2
        rw [s2]
        by_cases z : an.length = 0
        · have hz : an = [] := List.length_eq_zero_iff.1 z
          have rz : R.length = 0 := by
            have : R.length ≤ an.length := hR.le fun r hr => (hs r).mp (Sp.mem hr)
            omega
          rw [if_pos (by rw [up_length]; omega), rz]
          rfl
        · obtain ⟨T, D, _, _, hT, sT, _⟩ := ech_v (N := an.length) (by omega) (ln := trows n an) (by rw [trows_length]; omega) (trows_lt n an)
          have tr := turn_rank ba hR hs hT sT
          have rt := rank_i (n := an.length) (by omega) ha (by rw [trows_length]; omega) (trows_lt n an) hT sT
          rw [if_neg (by rw [up_length]; omega), turn_i n1 n10 (by omega) ha ba, bind_some']
          dsimp only
          rw [rt, bind_some']
          dsimp only
          obtain ⟨B, lB, bB, e3⟩ := draw3 b1 (by omega) n10 (R.length : Int) 0 (T.length : Int) 0 (n : Int) (n : Int) (up an) n [] (by simp) (fun x hx => nomatch hx)
          have e3' : laws_FnRanks.l3d l1 (n : Int) (R.length : Int) 0 (T.length : Int) 0 0 (n : Int) (up an) (n : Int) ([] : List Int) = _ := e3
          rw [e3', laws_FnRanks.l3d_eq, if_neg (by omega), mul_i n1 n10 ha ba lB bB, bind_some']
          dsimp only
          have bP : ∀ x ∈ an.map (fun x => tmb x B), x < 2 ^ n := by
            intro x hx
            obtain ⟨y, _, rfl⟩ := List.mem_map.mp hx
            exact tmb_lt B y bB
          obtain ⟨RP, CP, _, _, hP, sP, _⟩ := ech_v (N := n) (by omega) (ln := an.map fun x => tmb x B) (by rw [List.length_map]; omega) bP
          obtain ⟨RB, CB, _, _, hB, sB, _, lRB, _⟩ := ech_v (N := n) (by omega) (ln := B) (by omega) bB
          have pr := prod_rank (C := C) (CB := CB) (P := []) hs sB hP sP
          rw [rank_i n1 n10 (by rw [List.length_map]; exact ha) bP hP sP, bind_some', rank_i n1 n10 (by omega) bB hB sB, bind_some']
          dsimp only
          obtain ⟨K, lK, bK, e5⟩ := draw4 b1 (by omega) n10 (R.length : Int) 0 (T.length : Int) 0 0 (RP.length : Int) 0 (RB.length : Int) 0 (n : Int) (n : Int) (an := an) ha an.length [] (by simp) (fun x hx => nomatch hx)
          have e5' : laws_FnRanks.l4d l1 (n : Int) (R.length : Int) 0 (T.length : Int) 0 0 (RP.length : Int) 0 (RB.length : Int) 0 0 (n : Int) (up an) (n : Int) ([] : List Int) = _ := e5
          have bD : ∀ x ∈ adds an K an.length, ∃ a b, a ∈ an ∧ b ∈ K ∧ x = a ^^^ b := by
            intro x hx
            obtain ⟨j, hj, rfl⟩ := List.mem_map.mp hx
            have hj' := List.mem_range.mp hj
            exact ⟨_, _, getD_mem hj', getD_mem (by omega), rfl⟩
          have bD' : ∀ x ∈ adds an K an.length, x < 2 ^ n := fun x hx => by
            obtain ⟨a, b, h1, h2, rfl⟩ := bD x hx
            exact Nat.xor_lt_two_pow (ba a h1) (bK b h2)
          have lD : (adds an K an.length).length ≤ 10 := by simp [adds]; omega
          obtain ⟨RD, CD, _, _, hD, sD, _, lRD, _⟩ := ech_v (N := n) (by omega) (ln := adds an K an.length) (by omega) bD'
          obtain ⟨RK, CK, _, _, hK, sK, _, lRK, _⟩ := ech_v (N := n) (by omega) (ln := K) (by omega) bK
          have ar := add_rank hs sK hD sD bD
          rw [e5', laws_FnRanks.l4d_eq, if_neg (by rw [up_length]; omega), add_i n1 n10 ha ba lK bK, bind_some']
          dsimp only
          rw [rank_i n1 n10 lD bD' hD sD, bind_some', rank_i n1 n10 (by omega) bK hK sK, bind_some']
          dsimp only
          rw [if_pos rfl, if_pos rfl, if_pos (by omega), if_pos rfl, if_pos rfl, if_pos rfl, if_pos (by omega), if_pos (by omega), if_pos rfl, if_pos rfl, if_pos rfl, wr (by omega) (by omega)]
          congr 1
          exact decide_eq_true (by omega)
      rw [ea, bind_some', er, bind_some', ee, bind_some', es, bind_some']
      dsimp only
      rw [if_pos rfl, if_pos rfl, if_pos rfl, sp2, bind_some', if_pos rfl, sp1, bind_some', if_pos rfl, if_pos lr, sm, bind_some', laws_FnRanks.j0d_eq, if_neg (by decide), rows_v (C := C) n1 n10 ha ba lR' bR hs, backs_v (C := C) n1 n10 ha ba lR' bR hs]
      exact cont
end Go.Proofs.Ythjfilmdobkmlaa.P
end
section
namespace Go.Proofs.Ythjfilmdobkmlaa.P
open Go.RowKit Go.Proofs.YthjfilmdobkmlaaW.PrintWords Go.Proofs.YthjfilmdobkmlaaW.PrintLast Go.Proofs.YthjfilmdobkmlaaW.PrintMore
/-- The one pure statement of laws_FnRanks. -/
def laws_FnRanks.Pure : Prop := ∀ (l0 : List Int) (l1 : List Int), (l0.length ≤ maxLen) → (∀ x ∈ l0, (Lit.int .u8 x).wf = true) → (l1.length ≤ maxLen) → (∀ x ∈ l1, (Lit.int .u8 x).wf = true) → ∃ k, laws_FnRanks.f k l0 l1 = some true
end Go.Proofs.Ythjfilmdobkmlaa.P
end
section
namespace Go.Proofs.Ythjfilmdobkmlaa.Pure
theorem FnRanks : P.laws_FnRanks.Pure := fun l0 l1 _ h1_ _ h3_ => P.IsLim.some_ (P.laws_FnRanks.lim l0 l1) (P.FnRanks_law l0 l1 h1_ h3_)
end Go.Proofs.Ythjfilmdobkmlaa.Pure
end
