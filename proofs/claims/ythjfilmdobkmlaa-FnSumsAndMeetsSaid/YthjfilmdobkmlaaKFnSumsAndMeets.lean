/- What the functions of the law FnSumsAndMeets tell without rounds, and its pure statement. -/
import Derived.Test.YthjfilmdobkmlaaPx0
import Derived.Test.YthjfilmdobkmlaaPx1
import Derived.Test.YthjfilmdobkmlaaPx7
import Derived.Test.YthjfilmdobkmlaaPx8
import Derived.Test.YthjfilmdobkmlaaPx2
import Derived.Test.YthjfilmdobkmlaaPx3
import Derived.Test.YthjfilmdobkmlaaPx4
import Derived.Test.YthjfilmdobkmlaaPx5
import Derived.Test.YthjfilmdobkmlaaPx6
import Derived.Test.YthjfilmdobkmlaaPx9
import Derived.Test.YthjfilmdobkmlaaPx11
import Derived.Test.YthjfilmdobkmlaaPx20
import Derived.Test.YthjfilmdobkmlaaPx21
import Derived.Test.YthjfilmdobkmlaaPx22
import Derived.Test.YthjfilmdobkmlaaPx23
import Derived.Test.YthjfilmdobkmlaaPx24
import Derived.Test.YthjfilmdobkmlaaPx41
import Derived.ProofKit
section
namespace Go.Proofs.Ythjfilmdobkmlaa.P
open Go.RowKit Go.Proofs.YthjfilmdobkmlaaW.PrintWords Go.Proofs.YthjfilmdobkmlaaW.PrintLast Go.Proofs.YthjfilmdobkmlaaW.PrintMore
def IsLim {α : Type} (g : Nat → Option α) (v : Option α) : Prop := (∀ k, LeO (g k) (g (k + 1))) ∧ ∀ r, v = some r ↔ ∃ k, g k = some r
theorem leO_le {α : Type} {g : Nat → Option α} (h : ∀ k, LeO (g k) (g (k + 1))) {j k : Nat} (hjk : j ≤ k) : LeO (g j) (g k) := by
  induction hjk with
  | refl => exact fun _ e => e
  | step _ ih => exact fun r e => h _ r (ih r e)
open Classical in
noncomputable def lim {α : Type} (g : Nat → Option α) : Option α := if h : ∃ r, ∃ k, g k = some r then some h.choose else none
theorem lim_spec {α : Type} {g : Nat → Option α} (h : ∀ k, LeO (g k) (g (k + 1))) : IsLim g (lim g) := by
  refine ⟨h, fun r => ?_⟩
  unfold lim
  by_cases hx : ∃ r, ∃ k, g k = some r
  · rw [dif_pos hx]
    obtain ⟨k, hk⟩ := hx.choose_spec
    constructor
    · intro e; exact ⟨k, by rw [hk]; exact e⟩
    · rintro ⟨j, hj⟩
      have a := leO_le h (Nat.le_max_left j k) _ hj
      have b := leO_le h (Nat.le_max_right j k) _ hk
      rw [a] at b; exact b.symm
  · rw [dif_neg hx]
    constructor
    · intro e; cases e
    · rintro ⟨k, hk⟩; exact absurd ⟨r, k, hk⟩ hx
theorem IsLim.unique {α : Type} {g : Nat → Option α} {v v' : Option α} (h : IsLim g v) (h' : IsLim g v') : v = v' :=
  Option.ext fun r => (h.2 r).trans (h'.2 r).symm
theorem IsLim.const {α : Type} (v : Option α) : IsLim (fun _ => v) v := ⟨fun _ _ e => e, fun _ => ⟨fun e => ⟨0, e⟩, fun ⟨_, e⟩ => e⟩⟩
theorem IsLim.ite {α : Type} {c : Prop} [Decidable c] {g g' : Nat → Option α} {v v' : Option α} (h : IsLim g v) (h' : IsLim g' v') :
    IsLim (fun k => if c then g k else g' k) (if c then v else v') := by
  by_cases hc : c
  · simp only [if_pos hc]; exact h
  · simp only [if_neg hc]; exact h'
theorem IsLim.bind {α β : Type} {g : Nat → Option α} {v : Option α} {q : Nat → α → Option β} {w : α → Option β}
    (h : IsLim g v) (hq : ∀ x, IsLim (fun k => q k x) (w x)) : IsLim (fun k => (g k).bind (q k)) (v.bind w) := by
  refine ⟨fun k r e => ?_, fun r => ?_⟩
  · obtain ⟨x, hx, hr⟩ := Option.bind_eq_some_iff.mp e
    exact Option.bind_eq_some_iff.mpr ⟨x, h.1 k x hx, (hq x).1 k r hr⟩
  · constructor
    · intro e
      obtain ⟨x, hx, hr⟩ := Option.bind_eq_some_iff.mp e
      obtain ⟨j, hj⟩ := (h.2 x).mp hx
      obtain ⟨k, hk⟩ := ((hq x).2 r).mp hr
      exact ⟨max j k, Option.bind_eq_some_iff.mpr ⟨x, leO_le h.1 (Nat.le_max_left j k) _ hj, leO_le (hq x).1 (Nat.le_max_right j k) _ hk⟩⟩
    · rintro ⟨k, e⟩
      obtain ⟨x, hx, hr⟩ := Option.bind_eq_some_iff.mp e
      exact Option.bind_eq_some_iff.mpr ⟨x, (h.2 x).mpr ⟨k, hx⟩, ((hq x).2 r).mpr ⟨k, hr⟩⟩
theorem IsLim.shift {α : Type} {g : Nat → Option α} {v : Option α} (h0 : g 0 = none) (h : IsLim (fun k => g (k + 1)) v) : IsLim g v := by
  refine ⟨fun k => ?_, fun r => ?_⟩
  · cases k with
    | zero => intro r e; rw [h0] at e; cases e
    | succ k => exact h.1 k
  · rw [h.2 r]
    constructor
    · rintro ⟨k, e⟩; exact ⟨k + 1, e⟩
    · rintro ⟨k, e⟩
      cases k with
      | zero => rw [h0] at e; cases e
      | succ k => exact ⟨k, e⟩
theorem IsLim.some_ {α : Type} {g : Nat → Option α} {v : Option α} {r : α} (h : IsLim g v) (e : v = some r) : ∃ k, g k = some r := (h.2 r).mp e
end Go.Proofs.Ythjfilmdobkmlaa.P
end
section
namespace Go.Proofs.Ythjfilmdobkmlaa.P
open Go.RowKit Go.Proofs.YthjfilmdobkmlaaW.PrintWords Go.Proofs.YthjfilmdobkmlaaW.PrintLast Go.Proofs.YthjfilmdobkmlaaW.PrintMore
set_option linter.unusedVariables false
set_option linter.unusedSimpArgs false
end Go.Proofs.Ythjfilmdobkmlaa.P
end
section
namespace Go.Proofs.Ythjfilmdobkmlaa.P
open Go.RowKit Go.Proofs.YthjfilmdobkmlaaW.PrintWords Go.Proofs.YthjfilmdobkmlaaW.PrintLast Go.Proofs.YthjfilmdobkmlaaW.PrintMore
set_option linter.unusedVariables false
set_option linter.unusedSimpArgs false
end Go.Proofs.Ythjfilmdobkmlaa.P
end
section
namespace Go.Proofs.Ythjfilmdobkmlaa.P
open Go.RowKit Go.Proofs.YthjfilmdobkmlaaW.PrintWords Go.Proofs.YthjfilmdobkmlaaW.PrintLast Go.Proofs.YthjfilmdobkmlaaW.PrintMore
set_option linter.unusedVariables false
set_option linter.unusedSimpArgs false
noncomputable def spec_l02Drawn.l0d (x1 : Int) (x8 : Int) (x1000 : List Int) (x1001 : Int) (x1002 : Int) (x114000 : Int) (x114001 : List Int) : Option (Int × List Int × Int × Int) := lim (fun k => spec_l02Drawn.l0 k x1 x8 x1000 x1001 x1002 x114000 x114001)
theorem spec_l02Drawn.l0lim (x1 : Int) (x8 : Int) (x1000 : List Int) (x1001 : Int) (x1002 : Int) (x114000 : Int) (x114001 : List Int) : IsLim (fun k => spec_l02Drawn.l0 k x1 x8 x1000 x1001 x1002 x114000 x114001) (spec_l02Drawn.l0d x1 x8 x1000 x1001 x1002 x114000 x114001) := lim_spec (fun k => (spec_l02Drawn.mono_l k).1 x1 x8 x1000 x1001 x1002 x114000 x114001)
noncomputable def spec_l02Drawn.j1d (x1 : Int) (x8 : Int) (x9 : Int) (x32 : Bool) (x1000 : List Int) (x1001 : Int) (x1002 : Int) (x114000 : Int) (x114001 : List Int) : Option (Int × List Int × Int × Int) := lim (fun k => spec_l02Drawn.j1 k x1 x8 x9 x32 x1000 x1001 x1002 x114000 x114001)
theorem spec_l02Drawn.j1lim (x1 : Int) (x8 : Int) (x9 : Int) (x32 : Bool) (x1000 : List Int) (x1001 : Int) (x1002 : Int) (x114000 : Int) (x114001 : List Int) : IsLim (fun k => spec_l02Drawn.j1 k x1 x8 x9 x32 x1000 x1001 x1002 x114000 x114001) (spec_l02Drawn.j1d x1 x8 x9 x32 x1000 x1001 x1002 x114000 x114001) := lim_spec (fun k => (spec_l02Drawn.mono_l k).2 x1 x8 x9 x32 x1000 x1001 x1002 x114000 x114001)
theorem spec_l02Drawn.l0d_eq (x1 : Int) (x8 : Int) (x1000 : List Int) (x1001 : Int) (x1002 : Int) (x114000 : Int) (x114001 : List Int) : spec_l02Drawn.l0d x1 x8 x1000 x1001 x1002 x114000 x114001 = if x8 > 0 then (if 0 ≤ (IntKind.u64.wrap (x1)) then ((spec_l00Src_pick.f x1000 x1001 x1002 (shl .i64 1 (IntKind.u64.wrap (x1)))).bind fun bt117 => ((spec_l00Src_one.f x1000 bt117.2.1 bt117.2.2 3).bind fun bt120 => (if bt120.1 = true then (spec_l02Drawn.j1d x1 x8 bt117.1 (decide ((x114001.length : Int) > 0)) x1000 bt120.2.1 bt120.2.2 x114000 x114001) else (spec_l02Drawn.j1d x1 x8 bt117.1 false x1000 bt120.2.1 bt120.2.2 x114000 x114001)))) else (none)) else (some (x114000, x114001, x1001, x1002)) := by
  refine IsLim.unique (spec_l02Drawn.l0lim _ _ _ _ _ _ _) ?_
  refine IsLim.shift (by rfl) ?_
  simp only [spec_l02Drawn.l0]
  repeat' (first | exact IsLim.const _ | refine IsLim.ite ?_ ?_ | refine IsLim.bind ?_ (fun _ => ?_) | exact spec_l02Drawn.j1lim ..)
theorem spec_l02Drawn.j1d_eq (x1 : Int) (x8 : Int) (x9 : Int) (x32 : Bool) (x1000 : List Int) (x1001 : Int) (x1002 : Int) (x114000 : Int) (x114001 : List Int) : spec_l02Drawn.j1d x1 x8 x9 x32 x1000 x1001 x1002 x114000 x114001 = if x32 = true then ((spec_l00Src_pick.f x1000 x1001 x1002 (x114001.length : Int)).bind fun bt123 => (if 0 ≤ bt123.1 then (if bt123.1 < (x114001.length : Int) then ((spec_l00Src_one.f x1000 bt123.2.1 bt123.2.2 2).bind fun bt127 => (if bt127.1 = true then ((spec_l00Src_pick.f x1000 bt127.2.1 bt127.2.2 (x114001.length : Int)).bind fun bt130 => (if 0 ≤ bt130.1 then (if bt130.1 < (x114001.length : Int) then (if x114001.length < 17592186044416 then (spec_l02Drawn.l0d x1 (wrap64 (x8 - 1)) x1000 bt130.2.1 bt130.2.2 x114000 (x114001 ++ [Go.bits .xor .i64 (rd x114001 bt123.1) (rd x114001 bt130.1)])) else (none)) else (none)) else (none))) else (if x114001.length < 17592186044416 then (spec_l02Drawn.l0d x1 (wrap64 (x8 - 1)) x1000 bt127.2.1 bt127.2.2 x114000 (x114001 ++ [rd x114001 bt123.1])) else (none)))) else (none)) else (none))) else (if x114001.length < 17592186044416 then (spec_l02Drawn.l0d x1 (wrap64 (x8 - 1)) x1000 x1001 x1002 x114000 (x114001 ++ [x9])) else (none)) := by
  refine IsLim.unique (spec_l02Drawn.j1lim _ _ _ _ _ _ _ _ _) ?_
  refine IsLim.shift (by rfl) ?_
  simp only [spec_l02Drawn.j1]
  repeat' (first | exact IsLim.const _ | refine IsLim.ite ?_ ?_ | refine IsLim.bind ?_ (fun _ => ?_) | exact spec_l02Drawn.l0lim ..)
noncomputable def spec_l02Drawn.d (s0_0 : List Int) (s0_1 : Int) (s0_2 : Int) (a1 : Int) (a2 : Int) : Option (Int × List Int × Int × Int) := lim (fun k => spec_l02Drawn.f k s0_0 s0_1 s0_2 a1 a2)
theorem spec_l02Drawn.lim (s0_0 : List Int) (s0_1 : Int) (s0_2 : Int) (a1 : Int) (a2 : Int) : IsLim (fun k => spec_l02Drawn.f k s0_0 s0_1 s0_2 a1 a2) (spec_l02Drawn.d s0_0 s0_1 s0_2 a1 a2) := lim_spec (fun k => spec_l02Drawn.mono s0_0 s0_1 s0_2 a1 a2 k)
theorem spec_l02Drawn.d_eq (s0_0 : List Int) (s0_1 : Int) (s0_2 : Int) (a1 : Int) (a2 : Int) : spec_l02Drawn.d s0_0 s0_1 s0_2 a1 a2 = (spec_l00Src_pick.f s0_0 s0_1 s0_2 (wrap64 (a2 + 1))).bind fun bt114 => (spec_l02Drawn.l0d a1 bt114.1 s0_0 bt114.2.1 bt114.2.2 a1 ([] : List Int)) := by
  refine IsLim.unique (spec_l02Drawn.lim _ _ _ _ _) ?_
  unfold spec_l02Drawn.f
  repeat' (first | exact IsLim.const _ | refine IsLim.ite ?_ ?_ | refine IsLim.bind ?_ (fun _ => ?_) | exact spec_l02Drawn.l0lim ..)
end Go.Proofs.Ythjfilmdobkmlaa.P
end
section
namespace Go.Proofs.Ythjfilmdobkmlaa.P
open Go.RowKit Go.Proofs.YthjfilmdobkmlaaW.PrintWords Go.Proofs.YthjfilmdobkmlaaW.PrintLast Go.Proofs.YthjfilmdobkmlaaW.PrintMore
set_option linter.unusedVariables false
set_option linter.unusedSimpArgs false
noncomputable def slices_IndexFunc_int64_int64_AT_impl_ValidMatrix_1.l0d (x0 : List Int) (x7 : Int) (x8 : Int) (x49000 : Int) (x49001 : List Int) : Option (Int) := lim (fun k => slices_IndexFunc_int64_int64_AT_impl_ValidMatrix_1.l0 k x0 x7 x8 x49000 x49001)
theorem slices_IndexFunc_int64_int64_AT_impl_ValidMatrix_1.l0lim (x0 : List Int) (x7 : Int) (x8 : Int) (x49000 : Int) (x49001 : List Int) : IsLim (fun k => slices_IndexFunc_int64_int64_AT_impl_ValidMatrix_1.l0 k x0 x7 x8 x49000 x49001) (slices_IndexFunc_int64_int64_AT_impl_ValidMatrix_1.l0d x0 x7 x8 x49000 x49001) := lim_spec (fun k => (slices_IndexFunc_int64_int64_AT_impl_ValidMatrix_1.mono_l k) x0 x7 x8 x49000 x49001)
theorem slices_IndexFunc_int64_int64_AT_impl_ValidMatrix_1.l0d_eq (x0 : List Int) (x7 : Int) (x8 : Int) (x49000 : Int) (x49001 : List Int) : slices_IndexFunc_int64_int64_AT_impl_ValidMatrix_1.l0d x0 x7 x8 x49000 x49001 = if x8 < x7 then (if 0 ≤ x8 then (if x8 < (x0.length : Int) then ((impl_ValidMatrix_1.f (rd x0 x8) x49000 x49001).bind fun t159 => (if t159 = true then (some x8) else (slices_IndexFunc_int64_int64_AT_impl_ValidMatrix_1.l0d x0 x7 (wrap64 (x8 + 1)) x49000 x49001))) else (none)) else (none)) else (some (-1)) := by
  refine IsLim.unique (slices_IndexFunc_int64_int64_AT_impl_ValidMatrix_1.l0lim _ _ _ _ _) ?_
  refine IsLim.shift (by rfl) ?_
  simp only [slices_IndexFunc_int64_int64_AT_impl_ValidMatrix_1.l0]
  repeat' (first | exact IsLim.const _ | refine IsLim.ite ?_ ?_ | refine IsLim.bind ?_ (fun _ => ?_) | exact slices_IndexFunc_int64_int64_AT_impl_ValidMatrix_1.l0lim ..)
noncomputable def slices_IndexFunc_int64_int64_AT_impl_ValidMatrix_1.d (l0 : List Int) (a1_0 : Int) (l1_1 : List Int) : Option (Int) := lim (fun k => slices_IndexFunc_int64_int64_AT_impl_ValidMatrix_1.f k l0 a1_0 l1_1)
theorem slices_IndexFunc_int64_int64_AT_impl_ValidMatrix_1.lim (l0 : List Int) (a1_0 : Int) (l1_1 : List Int) : IsLim (fun k => slices_IndexFunc_int64_int64_AT_impl_ValidMatrix_1.f k l0 a1_0 l1_1) (slices_IndexFunc_int64_int64_AT_impl_ValidMatrix_1.d l0 a1_0 l1_1) := lim_spec (fun k => slices_IndexFunc_int64_int64_AT_impl_ValidMatrix_1.mono l0 a1_0 l1_1 k)
theorem slices_IndexFunc_int64_int64_AT_impl_ValidMatrix_1.d_eq (l0 : List Int) (a1_0 : Int) (l1_1 : List Int) : slices_IndexFunc_int64_int64_AT_impl_ValidMatrix_1.d l0 a1_0 l1_1 = slices_IndexFunc_int64_int64_AT_impl_ValidMatrix_1.l0d l0 (l0.length : Int) 0 a1_0 l1_1 := by
  refine IsLim.unique (slices_IndexFunc_int64_int64_AT_impl_ValidMatrix_1.lim _ _ _) ?_
  unfold slices_IndexFunc_int64_int64_AT_impl_ValidMatrix_1.f
  repeat' (first | exact IsLim.const _ | refine IsLim.ite ?_ ?_ | refine IsLim.bind ?_ (fun _ => ?_) | exact slices_IndexFunc_int64_int64_AT_impl_ValidMatrix_1.l0lim ..)
noncomputable def slices_ContainsFunc_int64_int64_AT_impl_ValidMatrix_1.d (l0 : List Int) (a1_0 : Int) (l1_1 : List Int) : Option (Bool) := lim (fun k => slices_ContainsFunc_int64_int64_AT_impl_ValidMatrix_1.f k l0 a1_0 l1_1)
theorem slices_ContainsFunc_int64_int64_AT_impl_ValidMatrix_1.lim (l0 : List Int) (a1_0 : Int) (l1_1 : List Int) : IsLim (fun k => slices_ContainsFunc_int64_int64_AT_impl_ValidMatrix_1.f k l0 a1_0 l1_1) (slices_ContainsFunc_int64_int64_AT_impl_ValidMatrix_1.d l0 a1_0 l1_1) := lim_spec (fun k => slices_ContainsFunc_int64_int64_AT_impl_ValidMatrix_1.mono l0 a1_0 l1_1 k)
theorem slices_ContainsFunc_int64_int64_AT_impl_ValidMatrix_1.d_eq (l0 : List Int) (a1_0 : Int) (l1_1 : List Int) : slices_ContainsFunc_int64_int64_AT_impl_ValidMatrix_1.d l0 a1_0 l1_1 = (slices_IndexFunc_int64_int64_AT_impl_ValidMatrix_1.d l0 a1_0 l1_1).bind fun t160 => (some (decide (t160 ≥ 0))) := by
  refine IsLim.unique (slices_ContainsFunc_int64_int64_AT_impl_ValidMatrix_1.lim _ _ _) ?_
  unfold slices_ContainsFunc_int64_int64_AT_impl_ValidMatrix_1.f
  repeat' (first | exact IsLim.const _ | refine IsLim.ite ?_ ?_ | refine IsLim.bind ?_ (fun _ => ?_) | exact slices_IndexFunc_int64_int64_AT_impl_ValidMatrix_1.lim ..)
noncomputable def impl_ValidMatrix.d (a0_0 : Int) (l0_1 : List Int) : Option (Bool) := lim (fun k => impl_ValidMatrix.f k a0_0 l0_1)
theorem impl_ValidMatrix.lim (a0_0 : Int) (l0_1 : List Int) : IsLim (fun k => impl_ValidMatrix.f k a0_0 l0_1) (impl_ValidMatrix.d a0_0 l0_1) := lim_spec (fun k => impl_ValidMatrix.mono a0_0 l0_1 k)
theorem impl_ValidMatrix.d_eq (a0_0 : Int) (l0_1 : List Int) : impl_ValidMatrix.d a0_0 l0_1 = (impl_within.f a0_0 1 10).bind fun t162 => (if t162 = true then (if (l0_1.length : Int) ≤ 10 then ((slices_ContainsFunc_int64_int64_AT_impl_ValidMatrix_1.d l0_1 a0_0 l0_1).bind fun t163 => (some (!t163))) else (some false)) else (some false)) := by
  refine IsLim.unique (impl_ValidMatrix.lim _ _) ?_
  unfold impl_ValidMatrix.f
  repeat' (first | exact IsLim.const _ | refine IsLim.ite ?_ ?_ | refine IsLim.bind ?_ (fun _ => ?_) | exact slices_ContainsFunc_int64_int64_AT_impl_ValidMatrix_1.lim ..)
noncomputable def slices_IndexFunc_int64_int64_AT_impl_echelon_1.l0d (x0 : List Int) (x7 : Int) (x8 : Int) (x49000 : Int) : Option (Int) := lim (fun k => slices_IndexFunc_int64_int64_AT_impl_echelon_1.l0 k x0 x7 x8 x49000)
theorem slices_IndexFunc_int64_int64_AT_impl_echelon_1.l0lim (x0 : List Int) (x7 : Int) (x8 : Int) (x49000 : Int) : IsLim (fun k => slices_IndexFunc_int64_int64_AT_impl_echelon_1.l0 k x0 x7 x8 x49000) (slices_IndexFunc_int64_int64_AT_impl_echelon_1.l0d x0 x7 x8 x49000) := lim_spec (fun k => (slices_IndexFunc_int64_int64_AT_impl_echelon_1.mono_l k) x0 x7 x8 x49000)
theorem slices_IndexFunc_int64_int64_AT_impl_echelon_1.l0d_eq (x0 : List Int) (x7 : Int) (x8 : Int) (x49000 : Int) : slices_IndexFunc_int64_int64_AT_impl_echelon_1.l0d x0 x7 x8 x49000 = if x8 < x7 then (if 0 ≤ x8 then (if x8 < (x0.length : Int) then ((impl_echelon_1.f (rd x0 x8) x49000).bind fun t165 => (if t165 = true then (some x8) else (slices_IndexFunc_int64_int64_AT_impl_echelon_1.l0d x0 x7 (wrap64 (x8 + 1)) x49000))) else (none)) else (none)) else (some (-1)) := by
  refine IsLim.unique (slices_IndexFunc_int64_int64_AT_impl_echelon_1.l0lim _ _ _ _) ?_
  refine IsLim.shift (by rfl) ?_
  simp only [slices_IndexFunc_int64_int64_AT_impl_echelon_1.l0]
  repeat' (first | exact IsLim.const _ | refine IsLim.ite ?_ ?_ | refine IsLim.bind ?_ (fun _ => ?_) | exact slices_IndexFunc_int64_int64_AT_impl_echelon_1.l0lim ..)
noncomputable def slices_IndexFunc_int64_int64_AT_impl_echelon_1.d (l0 : List Int) (a1_0 : Int) : Option (Int) := lim (fun k => slices_IndexFunc_int64_int64_AT_impl_echelon_1.f k l0 a1_0)
theorem slices_IndexFunc_int64_int64_AT_impl_echelon_1.lim (l0 : List Int) (a1_0 : Int) : IsLim (fun k => slices_IndexFunc_int64_int64_AT_impl_echelon_1.f k l0 a1_0) (slices_IndexFunc_int64_int64_AT_impl_echelon_1.d l0 a1_0) := lim_spec (fun k => slices_IndexFunc_int64_int64_AT_impl_echelon_1.mono l0 a1_0 k)
theorem slices_IndexFunc_int64_int64_AT_impl_echelon_1.d_eq (l0 : List Int) (a1_0 : Int) : slices_IndexFunc_int64_int64_AT_impl_echelon_1.d l0 a1_0 = slices_IndexFunc_int64_int64_AT_impl_echelon_1.l0d l0 (l0.length : Int) 0 a1_0 := by
  refine IsLim.unique (slices_IndexFunc_int64_int64_AT_impl_echelon_1.lim _ _) ?_
  unfold slices_IndexFunc_int64_int64_AT_impl_echelon_1.f
  repeat' (first | exact IsLim.const _ | refine IsLim.ite ?_ ?_ | refine IsLim.bind ?_ (fun _ => ?_) | exact slices_IndexFunc_int64_int64_AT_impl_echelon_1.l0lim ..)
end Go.Proofs.Ythjfilmdobkmlaa.P
end
section
namespace Go.Proofs.Ythjfilmdobkmlaa.P
open Go.RowKit Go.Proofs.YthjfilmdobkmlaaW.PrintWords Go.Proofs.YthjfilmdobkmlaaW.PrintLast Go.Proofs.YthjfilmdobkmlaaW.PrintMore
set_option linter.unusedVariables false
set_option linter.unusedSimpArgs false
noncomputable def impl_echelon.l0d (x0 : List Int) (x3 : Int) (x170000 : Int) : Option (List Int) := lim (fun k => impl_echelon.l0 k x0 x3 x170000)
theorem impl_echelon.l0lim (x0 : List Int) (x3 : Int) (x170000 : Int) : IsLim (fun k => impl_echelon.l0 k x0 x3 x170000) (impl_echelon.l0d x0 x3 x170000) := lim_spec (fun k => (impl_echelon.mono_l k).1 x0 x3 x170000)
noncomputable def impl_echelon.j1d (x0 : List Int) (x3 : Int) (x16 : Bool) (x170000 : Int) : Option (List Int) := lim (fun k => impl_echelon.j1 k x0 x3 x16 x170000)
theorem impl_echelon.j1lim (x0 : List Int) (x3 : Int) (x16 : Bool) (x170000 : Int) : IsLim (fun k => impl_echelon.j1 k x0 x3 x16 x170000) (impl_echelon.j1d x0 x3 x16 x170000) := lim_spec (fun k => (impl_echelon.mono_l k).2.1 x0 x3 x16 x170000)
noncomputable def impl_echelon.l1d (x0 : List Int) (x3 : Int) (x45 : Int) (x46 : Int) (x170000 : Int) : Option (List Int) := lim (fun k => impl_echelon.l1 k x0 x3 x45 x46 x170000)
theorem impl_echelon.l1lim (x0 : List Int) (x3 : Int) (x45 : Int) (x46 : Int) (x170000 : Int) : IsLim (fun k => impl_echelon.l1 k x0 x3 x45 x46 x170000) (impl_echelon.l1d x0 x3 x45 x46 x170000) := lim_spec (fun k => (impl_echelon.mono_l k).2.2 x0 x3 x45 x46 x170000)
theorem impl_echelon.l0d_eq (x0 : List Int) (x3 : Int) (x170000 : Int) : impl_echelon.l0d x0 x3 x170000 = if x170000 < 62 then (impl_echelon.j1d x0 x3 (decide (x3 < (x0.length : Int))) x170000) else (impl_echelon.j1d x0 x3 false x170000) := by
  refine IsLim.unique (impl_echelon.l0lim _ _ _) ?_
  refine IsLim.shift (by rfl) ?_
  simp only [impl_echelon.l0]
  repeat' (first | exact IsLim.const _ | refine IsLim.ite ?_ ?_ | refine IsLim.bind ?_ (fun _ => ?_) | exact impl_echelon.j1lim ..)
theorem impl_echelon.j1d_eq (x0 : List Int) (x3 : Int) (x16 : Bool) (x170000 : Int) : impl_echelon.j1d x0 x3 x16 x170000 = if x16 = true then (if 0 ≤ x3 then (if x3 ≤ (x0.length : Int) then ((slices_IndexFunc_int64_int64_AT_impl_echelon_1.d (x0.drop (x3 : Int).toNat) x170000).bind fun t177 => (if t177 < 0 then (impl_echelon.l0d x0 x3 (wrap64 (x170000 + 1))) else (if 0 ≤ (wrap64 (x3 + t177)) then (if (wrap64 (x3 + t177)) < (x0.length : Int) then (if x3 < (x0.length : Int) then (impl_echelon.l1d ((x0.set (x3 : Int).toNat (rd x0 (wrap64 (x3 + t177)))).set ((wrap64 (x3 + t177)) : Int).toNat (rd x0 x3)) x3 (x0.length : Int) 0 x170000) else (none)) else (none)) else (none)))) else (none)) else (none)) else (if 0 ≤ x3 then (if x3 ≤ (x0.length : Int) then (some (x0.take (x3 : Int).toNat)) else (none)) else (none)) := by
  refine IsLim.unique (impl_echelon.j1lim _ _ _ _) ?_
  refine IsLim.shift (by rfl) ?_
  simp only [impl_echelon.j1]
  repeat' (first | exact IsLim.const _ | refine IsLim.ite ?_ ?_ | refine IsLim.bind ?_ (fun _ => ?_) | exact slices_IndexFunc_int64_int64_AT_impl_echelon_1.lim .. | exact impl_echelon.l0lim .. | exact impl_echelon.l1lim ..)
theorem impl_echelon.l1d_eq (x0 : List Int) (x3 : Int) (x45 : Int) (x46 : Int) (x170000 : Int) : impl_echelon.l1d x0 x3 x45 x46 x170000 = if x46 < x45 then (if x46 = x3 then (impl_echelon.l1d x0 x3 x45 (wrap64 (x46 + 1)) x170000) else (if 0 ≤ x46 then (if x46 < (x0.length : Int) then (if 0 ≤ x170000 then (if (Go.bits .and .i64 (shr .i64 (rd x0 x46) x170000) 1) = 1 then (if 0 ≤ x3 then (if x3 < (x0.length : Int) then (impl_echelon.l1d (x0.set (x46 : Int).toNat (Go.bits .xor .i64 (rd x0 x46) (rd x0 x3))) x3 x45 (wrap64 (x46 + 1)) x170000) else (none)) else (none)) else (impl_echelon.l1d x0 x3 x45 (wrap64 (x46 + 1)) x170000)) else (none)) else (none)) else (none))) else (impl_echelon.l0d x0 (wrap64 (x3 + 1)) (wrap64 (x170000 + 1))) := by
  refine IsLim.unique (impl_echelon.l1lim _ _ _ _ _) ?_
  refine IsLim.shift (by rfl) ?_
  simp only [impl_echelon.l1]
  repeat' (first | exact IsLim.const _ | refine IsLim.ite ?_ ?_ | refine IsLim.bind ?_ (fun _ => ?_) | exact impl_echelon.l1lim .. | exact impl_echelon.l0lim ..)
noncomputable def impl_echelon.d (l0 : List Int) : Option (List Int) := lim (fun k => impl_echelon.f k l0)
theorem impl_echelon.lim (l0 : List Int) : IsLim (fun k => impl_echelon.f k l0) (impl_echelon.d l0) := lim_spec (fun k => impl_echelon.mono l0 k)
theorem impl_echelon.d_eq (l0 : List Int) : impl_echelon.d l0 = (slices_Clone_int64_int64.f l0).bind fun t166 => (impl_echelon.l0d t166 0 0) := by
  refine IsLim.unique (impl_echelon.lim _) ?_
  unfold impl_echelon.f
  repeat' (first | exact IsLim.const _ | refine IsLim.ite ?_ ?_ | refine IsLim.bind ?_ (fun _ => ?_) | exact impl_echelon.l0lim ..)
end Go.Proofs.Ythjfilmdobkmlaa.P
end
section
namespace Go.Proofs.Ythjfilmdobkmlaa.P
open Go.RowKit Go.Proofs.YthjfilmdobkmlaaW.PrintWords Go.Proofs.YthjfilmdobkmlaaW.PrintLast Go.Proofs.YthjfilmdobkmlaaW.PrintMore
set_option linter.unusedVariables false
set_option linter.unusedSimpArgs false
noncomputable def impl_Matrix_form.d (a0_0 : Int) (l0_1 : List Int) : Option (Int × List Int) := lim (fun k => impl_Matrix_form.f k a0_0 l0_1)
theorem impl_Matrix_form.lim (a0_0 : Int) (l0_1 : List Int) : IsLim (fun k => impl_Matrix_form.f k a0_0 l0_1) (impl_Matrix_form.d a0_0 l0_1) := lim_spec (fun k => impl_Matrix_form.mono a0_0 l0_1 k)
theorem impl_Matrix_form.d_eq (a0_0 : Int) (l0_1 : List Int) : impl_Matrix_form.d a0_0 l0_1 = (impl_echelon.d l0_1).bind fun t196 => (some (a0_0, t196)) := by
  refine IsLim.unique (impl_Matrix_form.lim _ _) ?_
  unfold impl_Matrix_form.f
  repeat' (first | exact IsLim.const _ | refine IsLim.ite ?_ ?_ | refine IsLim.bind ?_ (fun _ => ?_) | exact impl_echelon.lim ..)
noncomputable def slices_Equal_int64_int64.l0d (x0 : List Int) (x1 : List Int) (x12 : Int) (x13 : Int) : Option (Bool) := lim (fun k => slices_Equal_int64_int64.l0 k x0 x1 x12 x13)
theorem slices_Equal_int64_int64.l0lim (x0 : List Int) (x1 : List Int) (x12 : Int) (x13 : Int) : IsLim (fun k => slices_Equal_int64_int64.l0 k x0 x1 x12 x13) (slices_Equal_int64_int64.l0d x0 x1 x12 x13) := lim_spec (fun k => (slices_Equal_int64_int64.mono_l k) x0 x1 x12 x13)
theorem slices_Equal_int64_int64.l0d_eq (x0 : List Int) (x1 : List Int) (x12 : Int) (x13 : Int) : slices_Equal_int64_int64.l0d x0 x1 x12 x13 = if x13 < x12 then (if 0 ≤ x13 then (if x13 < (x0.length : Int) then (if x13 < (x1.length : Int) then (if (rd x0 x13) = (rd x1 x13) then (slices_Equal_int64_int64.l0d x0 x1 x12 (wrap64 (x13 + 1))) else (some false)) else (none)) else (none)) else (none)) else (some true) := by
  refine IsLim.unique (slices_Equal_int64_int64.l0lim _ _ _ _) ?_
  refine IsLim.shift (by rfl) ?_
  simp only [slices_Equal_int64_int64.l0]
  repeat' (first | exact IsLim.const _ | refine IsLim.ite ?_ ?_ | refine IsLim.bind ?_ (fun _ => ?_) | exact slices_Equal_int64_int64.l0lim ..)
noncomputable def slices_Equal_int64_int64.d (l0 : List Int) (l1 : List Int) : Option (Bool) := lim (fun k => slices_Equal_int64_int64.f k l0 l1)
theorem slices_Equal_int64_int64.lim (l0 : List Int) (l1 : List Int) : IsLim (fun k => slices_Equal_int64_int64.f k l0 l1) (slices_Equal_int64_int64.d l0 l1) := lim_spec (fun k => slices_Equal_int64_int64.mono l0 l1 k)
theorem slices_Equal_int64_int64.d_eq (l0 : List Int) (l1 : List Int) : slices_Equal_int64_int64.d l0 l1 = if (l0.length : Int) = (l1.length : Int) then (slices_Equal_int64_int64.l0d l0 l1 (l0.length : Int) 0) else (some false) := by
  refine IsLim.unique (slices_Equal_int64_int64.lim _ _) ?_
  unfold slices_Equal_int64_int64.f
  repeat' (first | exact IsLim.const _ | refine IsLim.ite ?_ ?_ | refine IsLim.bind ?_ (fun _ => ?_) | exact slices_Equal_int64_int64.l0lim ..)
noncomputable def impl_IsSpace.d (a0_0 : Int) (l0_1 : List Int) : Option (Bool) := lim (fun k => impl_IsSpace.f k a0_0 l0_1)
theorem impl_IsSpace.lim (a0_0 : Int) (l0_1 : List Int) : IsLim (fun k => impl_IsSpace.f k a0_0 l0_1) (impl_IsSpace.d a0_0 l0_1) := lim_spec (fun k => impl_IsSpace.mono a0_0 l0_1 k)
theorem impl_IsSpace.d_eq (a0_0 : Int) (l0_1 : List Int) : impl_IsSpace.d a0_0 l0_1 = (impl_ValidMatrix.d a0_0 l0_1).bind fun t216 => (if t216 = true then ((impl_echelon.d l0_1).bind fun t217 => ((slices_Equal_int64_int64.d t217 l0_1).bind fun t220 => (some t220))) else (some false)) := by
  refine IsLim.unique (impl_IsSpace.lim _ _) ?_
  unfold impl_IsSpace.f
  repeat' (first | exact IsLim.const _ | refine IsLim.ite ?_ ?_ | refine IsLim.bind ?_ (fun _ => ?_) | exact impl_ValidMatrix.lim .. | exact impl_echelon.lim .. | exact slices_Equal_int64_int64.lim ..)
noncomputable def spec_l00Same.l0d (x0 : List Int) (x1 : List Int) (x5 : Int) : Option (Bool) := lim (fun k => spec_l00Same.l0 k x0 x1 x5)
theorem spec_l00Same.l0lim (x0 : List Int) (x1 : List Int) (x5 : Int) : IsLim (fun k => spec_l00Same.l0 k x0 x1 x5) (spec_l00Same.l0d x0 x1 x5) := lim_spec (fun k => (spec_l00Same.mono_l k) x0 x1 x5)
theorem spec_l00Same.l0d_eq (x0 : List Int) (x1 : List Int) (x5 : Int) : spec_l00Same.l0d x0 x1 x5 = if x5 < (x0.length : Int) then (if 0 ≤ x5 then (if x5 < (x1.length : Int) then (if (rd x0 x5) = (rd x1 x5) then (spec_l00Same.l0d x0 x1 (wrap64 (x5 + 1))) else (some false)) else (none)) else (none)) else (some true) := by
  refine IsLim.unique (spec_l00Same.l0lim _ _ _) ?_
  refine IsLim.shift (by rfl) ?_
  simp only [spec_l00Same.l0]
  repeat' (first | exact IsLim.const _ | refine IsLim.ite ?_ ?_ | refine IsLim.bind ?_ (fun _ => ?_) | exact spec_l00Same.l0lim ..)
noncomputable def spec_l00Same.d (l0 : List Int) (l1 : List Int) : Option (Bool) := lim (fun k => spec_l00Same.f k l0 l1)
theorem spec_l00Same.lim (l0 : List Int) (l1 : List Int) : IsLim (fun k => spec_l00Same.f k l0 l1) (spec_l00Same.d l0 l1) := lim_spec (fun k => spec_l00Same.mono l0 l1 k)
theorem spec_l00Same.d_eq (l0 : List Int) (l1 : List Int) : spec_l00Same.d l0 l1 = if (l0.length : Int) = (l1.length : Int) then (spec_l00Same.l0d l0 l1 0) else (some false) := by
  refine IsLim.unique (spec_l00Same.lim _ _) ?_
  unfold spec_l00Same.f
  repeat' (first | exact IsLim.const _ | refine IsLim.ite ?_ ?_ | refine IsLim.bind ?_ (fun _ => ?_) | exact spec_l00Same.l0lim ..)
end Go.Proofs.Ythjfilmdobkmlaa.P
end
section
namespace Go.Proofs.Ythjfilmdobkmlaa.P
open Go.RowKit Go.Proofs.YthjfilmdobkmlaaW.PrintWords Go.Proofs.YthjfilmdobkmlaaW.PrintLast Go.Proofs.YthjfilmdobkmlaaW.PrintMore
set_option linter.unusedVariables false
set_option linter.unusedSimpArgs false
noncomputable def spec_l02Echelon.l0d (x0 : Int) (x5 : List Int) (x6 : List Int) (x7 : Int) : Option (List Int) := lim (fun k => spec_l02Echelon.l0 k x0 x5 x6 x7)
theorem spec_l02Echelon.l0lim (x0 : Int) (x5 : List Int) (x6 : List Int) (x7 : Int) : IsLim (fun k => spec_l02Echelon.l0 k x0 x5 x6 x7) (spec_l02Echelon.l0d x0 x5 x6 x7) := lim_spec (fun k => (spec_l02Echelon.mono_l k).1 x0 x5 x6 x7)
noncomputable def spec_l02Echelon.l1d (x0 : Int) (x5 : List Int) (x6 : List Int) (x7 : Int) (x8 : Int) (x9 : Int) : Option (List Int) := lim (fun k => spec_l02Echelon.l1 k x0 x5 x6 x7 x8 x9)
theorem spec_l02Echelon.l1lim (x0 : Int) (x5 : List Int) (x6 : List Int) (x7 : Int) (x8 : Int) (x9 : Int) : IsLim (fun k => spec_l02Echelon.l1 k x0 x5 x6 x7 x8 x9) (spec_l02Echelon.l1d x0 x5 x6 x7 x8 x9) := lim_spec (fun k => (spec_l02Echelon.mono_l k).2.1 x0 x5 x6 x7 x8 x9)
noncomputable def spec_l02Echelon.j2d (x0 : Int) (x5 : List Int) (x6 : List Int) (x7 : Int) (x8 : Int) (x9 : Int) (x28 : Bool) : Option (List Int) := lim (fun k => spec_l02Echelon.j2 k x0 x5 x6 x7 x8 x9 x28)
theorem spec_l02Echelon.j2lim (x0 : Int) (x5 : List Int) (x6 : List Int) (x7 : Int) (x8 : Int) (x9 : Int) (x28 : Bool) : IsLim (fun k => spec_l02Echelon.j2 k x0 x5 x6 x7 x8 x9 x28) (spec_l02Echelon.j2d x0 x5 x6 x7 x8 x9 x28) := lim_spec (fun k => (spec_l02Echelon.mono_l k).2.2.1 x0 x5 x6 x7 x8 x9 x28)
noncomputable def spec_l02Echelon.l2d (x0 : Int) (x5 : List Int) (x6 : List Int) (x7 : Int) (x10 : Int) (x11 : Int) : Option (List Int) := lim (fun k => spec_l02Echelon.l2 k x0 x5 x6 x7 x10 x11)
theorem spec_l02Echelon.l2lim (x0 : Int) (x5 : List Int) (x6 : List Int) (x7 : Int) (x10 : Int) (x11 : Int) : IsLim (fun k => spec_l02Echelon.l2 k x0 x5 x6 x7 x10 x11) (spec_l02Echelon.l2d x0 x5 x6 x7 x10 x11) := lim_spec (fun k => (spec_l02Echelon.mono_l k).2.2.2.1 x0 x5 x6 x7 x10 x11)
noncomputable def spec_l02Echelon.l3d (x0 : Int) (x5 : List Int) (x6 : List Int) (x7 : Int) (x10 : Int) (x12 : Int) : Option (List Int) := lim (fun k => spec_l02Echelon.l3 k x0 x5 x6 x7 x10 x12)
theorem spec_l02Echelon.l3lim (x0 : Int) (x5 : List Int) (x6 : List Int) (x7 : Int) (x10 : Int) (x12 : Int) : IsLim (fun k => spec_l02Echelon.l3 k x0 x5 x6 x7 x10 x12) (spec_l02Echelon.l3d x0 x5 x6 x7 x10 x12) := lim_spec (fun k => (spec_l02Echelon.mono_l k).2.2.2.2 x0 x5 x6 x7 x10 x12)
theorem spec_l02Echelon.l0d_eq (x0 : Int) (x5 : List Int) (x6 : List Int) (x7 : Int) : spec_l02Echelon.l0d x0 x5 x6 x7 = if x7 < x0 then (spec_l02Echelon.l1d x0 x5 x6 x7 (-1) 0) else (some x6) := by
  refine IsLim.unique (spec_l02Echelon.l0lim _ _ _ _) ?_
  refine IsLim.shift (by rfl) ?_
  simp only [spec_l02Echelon.l0]
  repeat' (first | exact IsLim.const _ | refine IsLim.ite ?_ ?_ | refine IsLim.bind ?_ (fun _ => ?_) | exact spec_l02Echelon.l1lim ..)
theorem spec_l02Echelon.l1d_eq (x0 : Int) (x5 : List Int) (x6 : List Int) (x7 : Int) (x8 : Int) (x9 : Int) : spec_l02Echelon.l1d x0 x5 x6 x7 x8 x9 = if x9 < (x5.length : Int) then (spec_l02Echelon.j2d x0 x5 x6 x7 x8 x9 (decide (x8 < 0))) else (spec_l02Echelon.j2d x0 x5 x6 x7 x8 x9 false) := by
  refine IsLim.unique (spec_l02Echelon.l1lim _ _ _ _ _ _) ?_
  refine IsLim.shift (by rfl) ?_
  simp only [spec_l02Echelon.l1]
  repeat' (first | exact IsLim.const _ | refine IsLim.ite ?_ ?_ | refine IsLim.bind ?_ (fun _ => ?_) | exact spec_l02Echelon.j2lim ..)
theorem spec_l02Echelon.j2d_eq (x0 : Int) (x5 : List Int) (x6 : List Int) (x7 : Int) (x8 : Int) (x9 : Int) (x28 : Bool) : spec_l02Echelon.j2d x0 x5 x6 x7 x8 x9 x28 = if x28 = true then (if 0 ≤ x9 then (if x9 < (x5.length : Int) then ((spec_l02Bit.f (rd x5 x9) x7).bind fun t236 => (if t236 = 1 then (spec_l02Echelon.l1d x0 x5 x6 x7 x9 (wrap64 (x9 + 1))) else (spec_l02Echelon.l1d x0 x5 x6 x7 x8 (wrap64 (x9 + 1))))) else (none)) else (none)) else (if x8 < 0 then (spec_l02Echelon.l0d x0 x5 x6 (wrap64 (x7 + 1))) else (if 0 ≤ x8 then (if x8 < (x5.length : Int) then (spec_l02Echelon.l2d x0 (x5.set (x8 : Int).toNat 0) x6 x7 (rd x5 x8) 0) else (none)) else (none))) := by
  refine IsLim.unique (spec_l02Echelon.j2lim _ _ _ _ _ _ _) ?_
  refine IsLim.shift (by rfl) ?_
  simp only [spec_l02Echelon.j2]
  repeat' (first | exact IsLim.const _ | refine IsLim.ite ?_ ?_ | refine IsLim.bind ?_ (fun _ => ?_) | exact spec_l02Echelon.l1lim .. | exact spec_l02Echelon.l0lim .. | exact spec_l02Echelon.l2lim ..)
theorem spec_l02Echelon.l2d_eq (x0 : Int) (x5 : List Int) (x6 : List Int) (x7 : Int) (x10 : Int) (x11 : Int) : spec_l02Echelon.l2d x0 x5 x6 x7 x10 x11 = if x11 < (x5.length : Int) then (if 0 ≤ x11 then ((spec_l02Bit.f (rd x5 x11) x7).bind fun t240 => (if t240 = 1 then (spec_l02Echelon.l2d x0 (x5.set (x11 : Int).toNat (Go.bits .xor .i64 (rd x5 x11) x10)) x6 x7 x10 (wrap64 (x11 + 1))) else (spec_l02Echelon.l2d x0 x5 x6 x7 x10 (wrap64 (x11 + 1))))) else (none)) else (spec_l02Echelon.l3d x0 x5 x6 x7 x10 0) := by
  refine IsLim.unique (spec_l02Echelon.l2lim _ _ _ _ _ _) ?_
  refine IsLim.shift (by rfl) ?_
  simp only [spec_l02Echelon.l2]
  repeat' (first | exact IsLim.const _ | refine IsLim.ite ?_ ?_ | refine IsLim.bind ?_ (fun _ => ?_) | exact spec_l02Echelon.l2lim .. | exact spec_l02Echelon.l3lim ..)
theorem spec_l02Echelon.l3d_eq (x0 : Int) (x5 : List Int) (x6 : List Int) (x7 : Int) (x10 : Int) (x12 : Int) : spec_l02Echelon.l3d x0 x5 x6 x7 x10 x12 = if x12 < (x6.length : Int) then (if 0 ≤ x12 then ((spec_l02Bit.f (rd x6 x12) x7).bind fun t244 => (if t244 = 1 then (spec_l02Echelon.l3d x0 x5 (x6.set (x12 : Int).toNat (Go.bits .xor .i64 (rd x6 x12) x10)) x7 x10 (wrap64 (x12 + 1))) else (spec_l02Echelon.l3d x0 x5 x6 x7 x10 (wrap64 (x12 + 1))))) else (none)) else (if x6.length < 17592186044416 then (spec_l02Echelon.l0d x0 x5 (x6 ++ [x10]) (wrap64 (x7 + 1))) else (none)) := by
  refine IsLim.unique (spec_l02Echelon.l3lim _ _ _ _ _ _) ?_
  refine IsLim.shift (by rfl) ?_
  simp only [spec_l02Echelon.l3]
  repeat' (first | exact IsLim.const _ | refine IsLim.ite ?_ ?_ | refine IsLim.bind ?_ (fun _ => ?_) | exact spec_l02Echelon.l3lim .. | exact spec_l02Echelon.l0lim ..)
noncomputable def spec_l02Echelon.d (a0 : Int) (l1 : List Int) : Option (List Int) := lim (fun k => spec_l02Echelon.f k a0 l1)
theorem spec_l02Echelon.lim (a0 : Int) (l1 : List Int) : IsLim (fun k => spec_l02Echelon.f k a0 l1) (spec_l02Echelon.d a0 l1) := lim_spec (fun k => spec_l02Echelon.mono a0 l1 k)
theorem spec_l02Echelon.d_eq (a0 : Int) (l1 : List Int) : spec_l02Echelon.d a0 l1 = (spec_l00Own.f l1).bind fun t229 => (spec_l02Echelon.l0d a0 t229 (([] : List Int)) 0) := by
  refine IsLim.unique (spec_l02Echelon.lim _ _) ?_
  unfold spec_l02Echelon.f
  repeat' (first | exact IsLim.const _ | refine IsLim.ite ?_ ?_ | refine IsLim.bind ?_ (fun _ => ?_) | exact spec_l02Echelon.l0lim ..)
end Go.Proofs.Ythjfilmdobkmlaa.P
end
section
namespace Go.Proofs.Ythjfilmdobkmlaa.P
open Go.RowKit Go.Proofs.YthjfilmdobkmlaaW.PrintWords Go.Proofs.YthjfilmdobkmlaaW.PrintLast Go.Proofs.YthjfilmdobkmlaaW.PrintMore
set_option linter.unusedVariables false
set_option linter.unusedSimpArgs false
noncomputable def spec_l02Ok.j0d (x17 : Bool) (x41000 : Int) (x41001 : List Int) : Option (Bool) := lim (fun k => spec_l02Ok.j0 k x17 x41000 x41001)
theorem spec_l02Ok.j0lim (x17 : Bool) (x41000 : Int) (x41001 : List Int) : IsLim (fun k => spec_l02Ok.j0 k x17 x41000 x41001) (spec_l02Ok.j0d x17 x41000 x41001) := lim_spec (fun k => (spec_l02Ok.mono_l k).1 x17 x41000 x41001)
noncomputable def spec_l02Ok.l0d (x3 : Int) (x41000 : Int) (x41001 : List Int) : Option (Bool) := lim (fun k => spec_l02Ok.l0 k x3 x41000 x41001)
theorem spec_l02Ok.l0lim (x3 : Int) (x41000 : Int) (x41001 : List Int) : IsLim (fun k => spec_l02Ok.l0 k x3 x41000 x41001) (spec_l02Ok.l0d x3 x41000 x41001) := lim_spec (fun k => (spec_l02Ok.mono_l k).2 x3 x41000 x41001)
theorem spec_l02Ok.j0d_eq (x17 : Bool) (x41000 : Int) (x41001 : List Int) : spec_l02Ok.j0d x17 x41000 x41001 = if x17 = true then (some false) else (spec_l02Ok.l0d 0 x41000 x41001) := by
  refine IsLim.unique (spec_l02Ok.j0lim _ _ _) ?_
  refine IsLim.shift (by rfl) ?_
  simp only [spec_l02Ok.j0]
  repeat' (first | exact IsLim.const _ | refine IsLim.ite ?_ ?_ | refine IsLim.bind ?_ (fun _ => ?_) | exact spec_l02Ok.l0lim ..)
theorem spec_l02Ok.l0d_eq (x3 : Int) (x41000 : Int) (x41001 : List Int) : spec_l02Ok.l0d x3 x41000 x41001 = if x3 < (x41001.length : Int) then (if 0 ≤ x3 then (if 0 ≤ (IntKind.u64.wrap (x41000)) then ((spec_l00In.f (rd x41001 x3) 0 (wrap64 ((shl .i64 1 (IntKind.u64.wrap (x41000))) - 1))).bind fun t252 => (if t252 = true then (spec_l02Ok.l0d (wrap64 (x3 + 1)) x41000 x41001) else (some false))) else (none)) else (none)) else (some true) := by
  refine IsLim.unique (spec_l02Ok.l0lim _ _ _) ?_
  refine IsLim.shift (by rfl) ?_
  simp only [spec_l02Ok.l0]
  repeat' (first | exact IsLim.const _ | refine IsLim.ite ?_ ?_ | refine IsLim.bind ?_ (fun _ => ?_) | exact spec_l02Ok.l0lim ..)
noncomputable def spec_l02Ok.d (a0_0 : Int) (l0_1 : List Int) : Option (Bool) := lim (fun k => spec_l02Ok.f k a0_0 l0_1)
theorem spec_l02Ok.lim (a0_0 : Int) (l0_1 : List Int) : IsLim (fun k => spec_l02Ok.f k a0_0 l0_1) (spec_l02Ok.d a0_0 l0_1) := lim_spec (fun k => spec_l02Ok.mono a0_0 l0_1 k)
theorem spec_l02Ok.d_eq (a0_0 : Int) (l0_1 : List Int) : spec_l02Ok.d a0_0 l0_1 = (spec_l00In.f a0_0 1 10).bind fun t250 => (if t250 = true then (spec_l02Ok.j0d (decide ((l0_1.length : Int) > 10)) a0_0 l0_1) else (spec_l02Ok.j0d true a0_0 l0_1)) := by
  refine IsLim.unique (spec_l02Ok.lim _ _) ?_
  unfold spec_l02Ok.f
  repeat' (first | exact IsLim.const _ | refine IsLim.ite ?_ ?_ | refine IsLim.bind ?_ (fun _ => ?_) | exact spec_l02Ok.j0lim ..)
noncomputable def spec_l02Space.d (a0_0 : Int) (l0_1 : List Int) : Option (Bool) := lim (fun k => spec_l02Space.f k a0_0 l0_1)
theorem spec_l02Space.lim (a0_0 : Int) (l0_1 : List Int) : IsLim (fun k => spec_l02Space.f k a0_0 l0_1) (spec_l02Space.d a0_0 l0_1) := lim_spec (fun k => spec_l02Space.mono a0_0 l0_1 k)
theorem spec_l02Space.d_eq (a0_0 : Int) (l0_1 : List Int) : spec_l02Space.d a0_0 l0_1 = (spec_l02Ok.d a0_0 l0_1).bind fun t253 => (if t253 = true then ((spec_l02Echelon.d a0_0 l0_1).bind fun t254 => ((spec_l00Same.d t254 l0_1).bind fun t257 => (some t257))) else (some false)) := by
  refine IsLim.unique (spec_l02Space.lim _ _) ?_
  unfold spec_l02Space.f
  repeat' (first | exact IsLim.const _ | refine IsLim.ite ?_ ?_ | refine IsLim.bind ?_ (fun _ => ?_) | exact spec_l02Ok.lim .. | exact spec_l02Echelon.lim .. | exact spec_l00Same.lim ..)
end Go.Proofs.Ythjfilmdobkmlaa.P
end
section
namespace Go.Proofs.Ythjfilmdobkmlaa.P
open Go.RowKit Go.Proofs.YthjfilmdobkmlaaW.PrintWords Go.Proofs.YthjfilmdobkmlaaW.PrintLast Go.Proofs.YthjfilmdobkmlaaW.PrintMore
set_option linter.unusedVariables false
set_option linter.unusedSimpArgs false
noncomputable def spec_IsSpace.d (a0_0 : Int) (l0_1 : List Int) : Option (Bool) := lim (fun k => spec_IsSpace.f k a0_0 l0_1)
theorem spec_IsSpace.lim (a0_0 : Int) (l0_1 : List Int) : IsLim (fun k => spec_IsSpace.f k a0_0 l0_1) (spec_IsSpace.d a0_0 l0_1) := lim_spec (fun k => spec_IsSpace.mono a0_0 l0_1 k)
theorem spec_IsSpace.d_eq (a0_0 : Int) (l0_1 : List Int) : spec_IsSpace.d a0_0 l0_1 = (spec_l02Space.d a0_0 l0_1).bind fun t259 => (some t259) := by
  refine IsLim.unique (spec_IsSpace.lim _ _) ?_
  unfold spec_IsSpace.f
  repeat' (first | exact IsLim.const _ | refine IsLim.ite ?_ ?_ | refine IsLim.bind ?_ (fun _ => ?_) | exact spec_l02Space.lim ..)
noncomputable def spec_SameMatrix.d (a0_0 : Int) (l0_1 : List Int) (a1_0 : Int) (l1_1 : List Int) : Option (Bool) := lim (fun k => spec_SameMatrix.f k a0_0 l0_1 a1_0 l1_1)
theorem spec_SameMatrix.lim (a0_0 : Int) (l0_1 : List Int) (a1_0 : Int) (l1_1 : List Int) : IsLim (fun k => spec_SameMatrix.f k a0_0 l0_1 a1_0 l1_1) (spec_SameMatrix.d a0_0 l0_1 a1_0 l1_1) := lim_spec (fun k => spec_SameMatrix.mono a0_0 l0_1 a1_0 l1_1 k)
theorem spec_SameMatrix.d_eq (a0_0 : Int) (l0_1 : List Int) (a1_0 : Int) (l1_1 : List Int) : spec_SameMatrix.d a0_0 l0_1 a1_0 l1_1 = if a0_0 = a1_0 then ((spec_l00Same.d l0_1 l1_1).bind fun t262 => (some t262)) else (some false) := by
  refine IsLim.unique (spec_SameMatrix.lim _ _ _ _) ?_
  unfold spec_SameMatrix.f
  repeat' (first | exact IsLim.const _ | refine IsLim.ite ?_ ?_ | refine IsLim.bind ?_ (fun _ => ?_) | exact spec_l00Same.lim ..)
end Go.Proofs.Ythjfilmdobkmlaa.P
end
section
namespace Go.Proofs.Ythjfilmdobkmlaa.P
open Go.RowKit Go.Proofs.YthjfilmdobkmlaaW.PrintWords Go.Proofs.YthjfilmdobkmlaaW.PrintLast Go.Proofs.YthjfilmdobkmlaaW.PrintMore
set_option linter.unusedVariables false
set_option linter.unusedSimpArgs false
noncomputable def impl_Matrix_sum.d (a0_0 : Int) (l0_1 : List Int) (a1_0 : Int) (l1_1 : List Int) : Option (Int × List Int) := lim (fun k => impl_Matrix_sum.f k a0_0 l0_1 a1_0 l1_1)
theorem impl_Matrix_sum.lim (a0_0 : Int) (l0_1 : List Int) (a1_0 : Int) (l1_1 : List Int) : IsLim (fun k => impl_Matrix_sum.f k a0_0 l0_1 a1_0 l1_1) (impl_Matrix_sum.d a0_0 l0_1 a1_0 l1_1) := lim_spec (fun k => impl_Matrix_sum.mono a0_0 l0_1 a1_0 l1_1 k)
theorem impl_Matrix_sum.d_eq (a0_0 : Int) (l0_1 : List Int) (a1_0 : Int) (l1_1 : List Int) : impl_Matrix_sum.d a0_0 l0_1 a1_0 l1_1 = (slices_Concat_int64_int64.f (([l0_1, l1_1] : List (List Int)))).bind fun t432 => ((impl_echelon.d t432).bind fun t435 => (some (a0_0, t435))) := by
  refine IsLim.unique (impl_Matrix_sum.lim _ _ _ _) ?_
  unfold impl_Matrix_sum.f
  repeat' (first | exact IsLim.const _ | refine IsLim.ite ?_ ?_ | refine IsLim.bind ?_ (fun _ => ?_) | exact impl_echelon.lim ..)
end Go.Proofs.Ythjfilmdobkmlaa.P
end
section
namespace Go.Proofs.Ythjfilmdobkmlaa.P
open Go.RowKit Go.Proofs.YthjfilmdobkmlaaW.PrintWords Go.Proofs.YthjfilmdobkmlaaW.PrintLast Go.Proofs.YthjfilmdobkmlaaW.PrintMore
set_option linter.unusedVariables false
set_option linter.unusedSimpArgs false
noncomputable def spec_A2Space.d (l0 : List Int) (a1 : Int) : Option (Int × List Int) := lim (fun k => spec_A2Space.f k l0 a1)
theorem spec_A2Space.lim (l0 : List Int) (a1 : Int) : IsLim (fun k => spec_A2Space.f k l0 a1) (spec_A2Space.d l0 a1) := lim_spec (fun k => spec_A2Space.mono l0 a1 k)
theorem spec_A2Space.d_eq (l0 : List Int) (a1 : Int) : spec_A2Space.d l0 a1 = (spec_l00From.f l0).bind fun bt408 => ((spec_l02Drawn.d bt408.1 bt408.2.1 bt408.2.2 a1 4).bind fun bt412 => ((spec_l02Echelon.d a1 bt412.2.1).bind fun t419 => (some (a1, t419)))) := by
  refine IsLim.unique (spec_A2Space.lim _ _) ?_
  unfold spec_A2Space.f
  repeat' (first | exact IsLim.const _ | refine IsLim.ite ?_ ?_ | refine IsLim.bind ?_ (fun _ => ?_) | exact spec_l02Drawn.lim .. | exact spec_l02Echelon.lim ..)
noncomputable def impl_spacesCode.j0d (x5 : Bool) (x423000 : Int) (x423001 : List Int) (x424000 : Int) (x424001 : List Int) : Option (Int) := lim (fun k => impl_spacesCode.j0 k x5 x423000 x423001 x424000 x424001)
theorem impl_spacesCode.j0lim (x5 : Bool) (x423000 : Int) (x423001 : List Int) (x424000 : Int) (x424001 : List Int) : IsLim (fun k => impl_spacesCode.j0 k x5 x423000 x423001 x424000 x424001) (impl_spacesCode.j0d x5 x423000 x423001 x424000 x424001) := lim_spec (fun k => (impl_spacesCode.mono_l k) x5 x423000 x423001 x424000 x424001)
theorem impl_spacesCode.j0d_eq (x5 : Bool) (x423000 : Int) (x423001 : List Int) (x424000 : Int) (x424001 : List Int) : impl_spacesCode.j0d x5 x423000 x423001 x424000 x424001 = if x5 = true then (some 1) else (if x423000 = x424000 then (some 0) else (some 2)) := by
  refine IsLim.unique (impl_spacesCode.j0lim _ _ _ _ _) ?_
  refine IsLim.shift (by rfl) ?_
  simp only [impl_spacesCode.j0]
  repeat' (first | exact IsLim.const _ | refine IsLim.ite ?_ ?_ | refine IsLim.bind ?_ (fun _ => ?_))
noncomputable def impl_spacesCode.d (a0_0 : Int) (l0_1 : List Int) (a1_0 : Int) (l1_1 : List Int) : Option (Int) := lim (fun k => impl_spacesCode.f k a0_0 l0_1 a1_0 l1_1)
theorem impl_spacesCode.lim (a0_0 : Int) (l0_1 : List Int) (a1_0 : Int) (l1_1 : List Int) : IsLim (fun k => impl_spacesCode.f k a0_0 l0_1 a1_0 l1_1) (impl_spacesCode.d a0_0 l0_1 a1_0 l1_1) := lim_spec (fun k => impl_spacesCode.mono a0_0 l0_1 a1_0 l1_1 k)
theorem impl_spacesCode.d_eq (a0_0 : Int) (l0_1 : List Int) (a1_0 : Int) (l1_1 : List Int) : impl_spacesCode.d a0_0 l0_1 a1_0 l1_1 = (impl_IsSpace.d a0_0 l0_1).bind fun t424 => (if t424 = true then ((impl_IsSpace.d a1_0 l1_1).bind fun t425 => (impl_spacesCode.j0d (!t425) a0_0 l0_1 a1_0 l1_1)) else (impl_spacesCode.j0d true a0_0 l0_1 a1_0 l1_1)) := by
  refine IsLim.unique (impl_spacesCode.lim _ _ _ _) ?_
  unfold impl_spacesCode.f
  repeat' (first | exact IsLim.const _ | refine IsLim.ite ?_ ?_ | refine IsLim.bind ?_ (fun _ => ?_) | exact impl_IsSpace.lim .. | exact impl_spacesCode.j0lim ..)
noncomputable def impl_SumOf.d (a0_0 : Int) (l0_1 : List Int) (a1_0 : Int) (l1_1 : List Int) : Option (Int × List Int × Int) := lim (fun k => impl_SumOf.f k a0_0 l0_1 a1_0 l1_1)
theorem impl_SumOf.lim (a0_0 : Int) (l0_1 : List Int) (a1_0 : Int) (l1_1 : List Int) : IsLim (fun k => impl_SumOf.f k a0_0 l0_1 a1_0 l1_1) (impl_SumOf.d a0_0 l0_1 a1_0 l1_1) := lim_spec (fun k => impl_SumOf.mono a0_0 l0_1 a1_0 l1_1 k)
theorem impl_SumOf.d_eq (a0_0 : Int) (l0_1 : List Int) (a1_0 : Int) (l1_1 : List Int) : impl_SumOf.d a0_0 l0_1 a1_0 l1_1 = (impl_spacesCode.d a0_0 l0_1 a1_0 l1_1).bind fun t441 => (if t441 = 0 then ((impl_Matrix_sum.d a0_0 l0_1 a1_0 l1_1).bind fun bt442 => (some (bt442.1, bt442.2, 0))) else (some (0, ([] : List Int), t441))) := by
  refine IsLim.unique (impl_SumOf.lim _ _ _ _) ?_
  unfold impl_SumOf.f
  repeat' (first | exact IsLim.const _ | refine IsLim.ite ?_ ?_ | refine IsLim.bind ?_ (fun _ => ?_) | exact impl_spacesCode.lim .. | exact impl_Matrix_sum.lim ..)
noncomputable def impl_lead.l0d (x0 : Int) (x3 : Int) : Option (Int) := lim (fun k => impl_lead.l0 k x0 x3)
theorem impl_lead.l0lim (x0 : Int) (x3 : Int) : IsLim (fun k => impl_lead.l0 k x0 x3) (impl_lead.l0d x0 x3) := lim_spec (fun k => (impl_lead.mono_l k) x0 x3)
theorem impl_lead.l0d_eq (x0 : Int) (x3 : Int) : impl_lead.l0d x0 x3 = if 0 ≤ x3 then (if (Go.bits .and .i64 (shr .i64 x0 x3) 1) = 0 then (impl_lead.l0d x0 (wrap64 (x3 + 1))) else (some x3)) else (none) := by
  refine IsLim.unique (impl_lead.l0lim _ _) ?_
  refine IsLim.shift (by rfl) ?_
  simp only [impl_lead.l0]
  repeat' (first | exact IsLim.const _ | refine IsLim.ite ?_ ?_ | refine IsLim.bind ?_ (fun _ => ?_) | exact impl_lead.l0lim ..)
noncomputable def impl_lead.d (a0 : Int) : Option (Int) := lim (fun k => impl_lead.f k a0)
theorem impl_lead.lim (a0 : Int) : IsLim (fun k => impl_lead.f k a0) (impl_lead.d a0) := lim_spec (fun k => impl_lead.mono a0 k)
theorem impl_lead.d_eq (a0 : Int) : impl_lead.d a0 = impl_lead.l0d a0 0 := by
  refine IsLim.unique (impl_lead.lim _) ?_
  unfold impl_lead.f
  repeat' (first | exact IsLim.const _ | refine IsLim.ite ?_ ?_ | refine IsLim.bind ?_ (fun _ => ?_) | exact impl_lead.l0lim ..)
end Go.Proofs.Ythjfilmdobkmlaa.P
end
section
namespace Go.Proofs.Ythjfilmdobkmlaa.P
open Go.RowKit Go.Proofs.YthjfilmdobkmlaaW.PrintWords Go.Proofs.YthjfilmdobkmlaaW.PrintLast Go.Proofs.YthjfilmdobkmlaaW.PrintMore
set_option linter.unusedVariables false
set_option linter.unusedSimpArgs false
noncomputable def impl_Matrix_kernel.l0d (x3 : List Int) (x4 : Int) (x15 : List Int) (x16 : Int) (x17 : Int) (x447000 : Int) (x447001 : List Int) : Option (Int × List Int) := lim (fun k => impl_Matrix_kernel.l0 k x3 x4 x15 x16 x17 x447000 x447001)
theorem impl_Matrix_kernel.l0lim (x3 : List Int) (x4 : Int) (x15 : List Int) (x16 : Int) (x17 : Int) (x447000 : Int) (x447001 : List Int) : IsLim (fun k => impl_Matrix_kernel.l0 k x3 x4 x15 x16 x17 x447000 x447001) (impl_Matrix_kernel.l0d x3 x4 x15 x16 x17 x447000 x447001) := lim_spec (fun k => (impl_Matrix_kernel.mono_l k).1 x3 x4 x15 x16 x17 x447000 x447001)
noncomputable def impl_Matrix_kernel.l1d (x3 : List Int) (x4 : Int) (x31 : Int) (x32 : Int) (x454000 : Int) (x454001 : List Int) : Option (Int × List Int) := lim (fun k => impl_Matrix_kernel.l1 k x3 x4 x31 x32 x454000 x454001)
theorem impl_Matrix_kernel.l1lim (x3 : List Int) (x4 : Int) (x31 : Int) (x32 : Int) (x454000 : Int) (x454001 : List Int) : IsLim (fun k => impl_Matrix_kernel.l1 k x3 x4 x31 x32 x454000 x454001) (impl_Matrix_kernel.l1d x3 x4 x31 x32 x454000 x454001) := lim_spec (fun k => (impl_Matrix_kernel.mono_l k).2.1 x3 x4 x31 x32 x454000 x454001)
noncomputable def impl_Matrix_kernel.l2d (x3 : List Int) (x4 : Int) (x8 : Int) (x9 : Int) (x31 : Int) (x32 : Int) (x42 : List Int) (x43 : Int) (x44 : Int) (x454000 : Int) (x454001 : List Int) : Option (Int × List Int) := lim (fun k => impl_Matrix_kernel.l2 k x3 x4 x8 x9 x31 x32 x42 x43 x44 x454000 x454001)
theorem impl_Matrix_kernel.l2lim (x3 : List Int) (x4 : Int) (x8 : Int) (x9 : Int) (x31 : Int) (x32 : Int) (x42 : List Int) (x43 : Int) (x44 : Int) (x454000 : Int) (x454001 : List Int) : IsLim (fun k => impl_Matrix_kernel.l2 k x3 x4 x8 x9 x31 x32 x42 x43 x44 x454000 x454001) (impl_Matrix_kernel.l2d x3 x4 x8 x9 x31 x32 x42 x43 x44 x454000 x454001) := lim_spec (fun k => (impl_Matrix_kernel.mono_l k).2.2 x3 x4 x8 x9 x31 x32 x42 x43 x44 x454000 x454001)
theorem impl_Matrix_kernel.l0d_eq (x3 : List Int) (x4 : Int) (x15 : List Int) (x16 : Int) (x17 : Int) (x447000 : Int) (x447001 : List Int) : impl_Matrix_kernel.l0d x3 x4 x15 x16 x17 x447000 x447001 = if x17 < x16 then (if 0 ≤ x17 then (if x17 < (x15.length : Int) then ((impl_lead.d (rd x15 x17)).bind fun t452 => (if 0 ≤ t452 then (impl_Matrix_kernel.l0d x3 (Go.bits .or .i64 x4 (shl .i64 1 t452)) x15 x16 (wrap64 (x17 + 1)) x447000 x447001) else (none))) else (none)) else (none)) else (impl_Matrix_kernel.l1d x3 x4 x447000 0 x447000 ([] : List Int)) := by
  refine IsLim.unique (impl_Matrix_kernel.l0lim _ _ _ _ _ _ _) ?_
  refine IsLim.shift (by rfl) ?_
  simp only [impl_Matrix_kernel.l0]
  repeat' (first | exact IsLim.const _ | refine IsLim.ite ?_ ?_ | refine IsLim.bind ?_ (fun _ => ?_) | exact impl_lead.lim .. | exact impl_Matrix_kernel.l0lim .. | exact impl_Matrix_kernel.l1lim ..)
theorem impl_Matrix_kernel.l1d_eq (x3 : List Int) (x4 : Int) (x31 : Int) (x32 : Int) (x454000 : Int) (x454001 : List Int) : impl_Matrix_kernel.l1d x3 x4 x31 x32 x454000 x454001 = if x32 < x31 then (if 0 ≤ x32 then (if (Go.bits .and .i64 (shr .i64 x4 x32) 1) = 1 then (impl_Matrix_kernel.l1d x3 x4 x31 (wrap64 (x32 + 1)) x454000 x454001) else (impl_Matrix_kernel.l2d x3 x4 x32 (shl .i64 1 x32) x31 x32 x3 (x3.length : Int) 0 x454000 x454001)) else (none)) else ((impl_Matrix_form.d x454000 x454001).bind fun bt454 => (some (bt454.1, bt454.2))) := by
  refine IsLim.unique (impl_Matrix_kernel.l1lim _ _ _ _ _ _) ?_
  refine IsLim.shift (by rfl) ?_
  simp only [impl_Matrix_kernel.l1]
  repeat' (first | exact IsLim.const _ | refine IsLim.ite ?_ ?_ | refine IsLim.bind ?_ (fun _ => ?_) | exact impl_Matrix_form.lim .. | exact impl_Matrix_kernel.l1lim .. | exact impl_Matrix_kernel.l2lim ..)
theorem impl_Matrix_kernel.l2d_eq (x3 : List Int) (x4 : Int) (x8 : Int) (x9 : Int) (x31 : Int) (x32 : Int) (x42 : List Int) (x43 : Int) (x44 : Int) (x454000 : Int) (x454001 : List Int) : impl_Matrix_kernel.l2d x3 x4 x8 x9 x31 x32 x42 x43 x44 x454000 x454001 = if x44 < x43 then (if 0 ≤ x44 then (if x44 < (x42.length : Int) then (if 0 ≤ x8 then (if (Go.bits .and .i64 (shr .i64 (rd x42 x44) x8) 1) = 1 then ((impl_lead.d (rd x42 x44)).bind fun t459 => (if 0 ≤ t459 then (impl_Matrix_kernel.l2d x3 x4 x8 (Go.bits .or .i64 x9 (shl .i64 1 t459)) x31 x32 x42 x43 (wrap64 (x44 + 1)) x454000 x454001) else (none))) else (impl_Matrix_kernel.l2d x3 x4 x8 x9 x31 x32 x42 x43 (wrap64 (x44 + 1)) x454000 x454001)) else (none)) else (none)) else (none)) else (if x454001.length < 17592186044416 then (impl_Matrix_kernel.l1d x3 x4 x31 (wrap64 (x32 + 1)) x454000 (x454001 ++ [x9])) else (none)) := by
  refine IsLim.unique (impl_Matrix_kernel.l2lim _ _ _ _ _ _ _ _ _ _ _) ?_
  refine IsLim.shift (by rfl) ?_
  simp only [impl_Matrix_kernel.l2]
  repeat' (first | exact IsLim.const _ | refine IsLim.ite ?_ ?_ | refine IsLim.bind ?_ (fun _ => ?_) | exact impl_lead.lim .. | exact impl_Matrix_kernel.l2lim .. | exact impl_Matrix_kernel.l1lim ..)
noncomputable def impl_Matrix_kernel.d (a0_0 : Int) (l0_1 : List Int) : Option (Int × List Int) := lim (fun k => impl_Matrix_kernel.f k a0_0 l0_1)
theorem impl_Matrix_kernel.lim (a0_0 : Int) (l0_1 : List Int) : IsLim (fun k => impl_Matrix_kernel.f k a0_0 l0_1) (impl_Matrix_kernel.d a0_0 l0_1) := lim_spec (fun k => impl_Matrix_kernel.mono a0_0 l0_1 k)
theorem impl_Matrix_kernel.d_eq (a0_0 : Int) (l0_1 : List Int) : impl_Matrix_kernel.d a0_0 l0_1 = (impl_echelon.d l0_1).bind fun t448 => (impl_Matrix_kernel.l0d t448 0 t448 (t448.length : Int) 0 a0_0 l0_1) := by
  refine IsLim.unique (impl_Matrix_kernel.lim _ _) ?_
  unfold impl_Matrix_kernel.f
  repeat' (first | exact IsLim.const _ | refine IsLim.ite ?_ ?_ | refine IsLim.bind ?_ (fun _ => ?_) | exact impl_echelon.lim .. | exact impl_Matrix_kernel.l0lim ..)
end Go.Proofs.Ythjfilmdobkmlaa.P
end
section
namespace Go.Proofs.Ythjfilmdobkmlaa.P
open Go.RowKit Go.Proofs.YthjfilmdobkmlaaW.PrintWords Go.Proofs.YthjfilmdobkmlaaW.PrintLast Go.Proofs.YthjfilmdobkmlaaW.PrintMore
set_option linter.unusedVariables false
set_option linter.unusedSimpArgs false
noncomputable def impl_Matrix_meet.d (a0_0 : Int) (l0_1 : List Int) (a1_0 : Int) (l1_1 : List Int) : Option (Int × List Int) := lim (fun k => impl_Matrix_meet.f k a0_0 l0_1 a1_0 l1_1)
theorem impl_Matrix_meet.lim (a0_0 : Int) (l0_1 : List Int) (a1_0 : Int) (l1_1 : List Int) : IsLim (fun k => impl_Matrix_meet.f k a0_0 l0_1 a1_0 l1_1) (impl_Matrix_meet.d a0_0 l0_1 a1_0 l1_1) := lim_spec (fun k => impl_Matrix_meet.mono a0_0 l0_1 a1_0 l1_1 k)
theorem impl_Matrix_meet.d_eq (a0_0 : Int) (l0_1 : List Int) (a1_0 : Int) (l1_1 : List Int) : impl_Matrix_meet.d a0_0 l0_1 a1_0 l1_1 = (impl_Matrix_kernel.d a0_0 l0_1).bind fun bt466 => ((impl_Matrix_kernel.d a1_0 l1_1).bind fun bt470 => ((impl_Matrix_sum.d bt466.1 bt466.2 bt470.1 bt470.2).bind fun bt474 => ((impl_Matrix_kernel.d bt474.1 bt474.2).bind fun bt478 => (some (bt478.1, bt478.2))))) := by
  refine IsLim.unique (impl_Matrix_meet.lim _ _ _ _) ?_
  unfold impl_Matrix_meet.f
  repeat' (first | exact IsLim.const _ | refine IsLim.ite ?_ ?_ | refine IsLim.bind ?_ (fun _ => ?_) | exact impl_Matrix_kernel.lim .. | exact impl_Matrix_sum.lim ..)
noncomputable def impl_MeetOf.d (a0_0 : Int) (l0_1 : List Int) (a1_0 : Int) (l1_1 : List Int) : Option (Int × List Int × Int) := lim (fun k => impl_MeetOf.f k a0_0 l0_1 a1_0 l1_1)
theorem impl_MeetOf.lim (a0_0 : Int) (l0_1 : List Int) (a1_0 : Int) (l1_1 : List Int) : IsLim (fun k => impl_MeetOf.f k a0_0 l0_1 a1_0 l1_1) (impl_MeetOf.d a0_0 l0_1 a1_0 l1_1) := lim_spec (fun k => impl_MeetOf.mono a0_0 l0_1 a1_0 l1_1 k)
theorem impl_MeetOf.d_eq (a0_0 : Int) (l0_1 : List Int) (a1_0 : Int) (l1_1 : List Int) : impl_MeetOf.d a0_0 l0_1 a1_0 l1_1 = (impl_spacesCode.d a0_0 l0_1 a1_0 l1_1).bind fun t485 => (if t485 = 0 then ((impl_Matrix_meet.d a0_0 l0_1 a1_0 l1_1).bind fun bt486 => (some (bt486.1, bt486.2, 0))) else (some (0, ([] : List Int), t485))) := by
  refine IsLim.unique (impl_MeetOf.lim _ _ _ _) ?_
  unfold impl_MeetOf.f
  repeat' (first | exact IsLim.const _ | refine IsLim.ite ?_ ?_ | refine IsLim.bind ?_ (fun _ => ?_) | exact impl_spacesCode.lim .. | exact impl_Matrix_meet.lim ..)
end Go.Proofs.Ythjfilmdobkmlaa.P
end
section
namespace Go.Proofs.Ythjfilmdobkmlaa.P
open Go.RowKit Go.Proofs.YthjfilmdobkmlaaW.PrintWords Go.Proofs.YthjfilmdobkmlaaW.PrintLast Go.Proofs.YthjfilmdobkmlaaW.PrintMore
set_option linter.unusedVariables false
set_option linter.unusedSimpArgs false
noncomputable def impl_Matrix_contains.d (a0_0 : Int) (l0_1 : List Int) (a1_0 : Int) (l1_1 : List Int) : Option (Bool) := lim (fun k => impl_Matrix_contains.f k a0_0 l0_1 a1_0 l1_1)
theorem impl_Matrix_contains.lim (a0_0 : Int) (l0_1 : List Int) (a1_0 : Int) (l1_1 : List Int) : IsLim (fun k => impl_Matrix_contains.f k a0_0 l0_1 a1_0 l1_1) (impl_Matrix_contains.d a0_0 l0_1 a1_0 l1_1) := lim_spec (fun k => impl_Matrix_contains.mono a0_0 l0_1 a1_0 l1_1 k)
theorem impl_Matrix_contains.d_eq (a0_0 : Int) (l0_1 : List Int) (a1_0 : Int) (l1_1 : List Int) : impl_Matrix_contains.d a0_0 l0_1 a1_0 l1_1 = (impl_Matrix_sum.d a0_0 l0_1 a1_0 l1_1).bind fun bt492 => (some ((bt492.2.length : Int) == (l0_1.length : Int))) := by
  refine IsLim.unique (impl_Matrix_contains.lim _ _ _ _) ?_
  unfold impl_Matrix_contains.f
  repeat' (first | exact IsLim.const _ | refine IsLim.ite ?_ ?_ | refine IsLim.bind ?_ (fun _ => ?_) | exact impl_Matrix_sum.lim ..)
noncomputable def impl_Contains.d (a0_0 : Int) (l0_1 : List Int) (a1_0 : Int) (l1_1 : List Int) : Option (Bool × Int) := lim (fun k => impl_Contains.f k a0_0 l0_1 a1_0 l1_1)
theorem impl_Contains.lim (a0_0 : Int) (l0_1 : List Int) (a1_0 : Int) (l1_1 : List Int) : IsLim (fun k => impl_Contains.f k a0_0 l0_1 a1_0 l1_1) (impl_Contains.d a0_0 l0_1 a1_0 l1_1) := lim_spec (fun k => impl_Contains.mono a0_0 l0_1 a1_0 l1_1 k)
theorem impl_Contains.d_eq (a0_0 : Int) (l0_1 : List Int) (a1_0 : Int) (l1_1 : List Int) : impl_Contains.d a0_0 l0_1 a1_0 l1_1 = (impl_spacesCode.d a0_0 l0_1 a1_0 l1_1).bind fun t498 => (if t498 = 0 then ((impl_Matrix_contains.d a0_0 l0_1 a1_0 l1_1).bind fun t499 => (some (t499, 0))) else (some (false, t498))) := by
  refine IsLim.unique (impl_Contains.lim _ _ _ _) ?_
  unfold impl_Contains.f
  repeat' (first | exact IsLim.const _ | refine IsLim.ite ?_ ?_ | refine IsLim.bind ?_ (fun _ => ?_) | exact impl_spacesCode.lim .. | exact impl_Matrix_contains.lim ..)
noncomputable def impl_DualSpace.d (a0_0 : Int) (l0_1 : List Int) : Option (Int × List Int × Int) := lim (fun k => impl_DualSpace.f k a0_0 l0_1)
theorem impl_DualSpace.lim (a0_0 : Int) (l0_1 : List Int) : IsLim (fun k => impl_DualSpace.f k a0_0 l0_1) (impl_DualSpace.d a0_0 l0_1) := lim_spec (fun k => impl_DualSpace.mono a0_0 l0_1 k)
theorem impl_DualSpace.d_eq (a0_0 : Int) (l0_1 : List Int) : impl_DualSpace.d a0_0 l0_1 = (impl_IsSpace.d a0_0 l0_1).bind fun t502 => (if t502 = true then ((impl_Matrix_kernel.d a0_0 l0_1).bind fun bt503 => (some (bt503.1, bt503.2, 0))) else (some (0, ([] : List Int), 1))) := by
  refine IsLim.unique (impl_DualSpace.lim _ _) ?_
  unfold impl_DualSpace.f
  repeat' (first | exact IsLim.const _ | refine IsLim.ite ?_ ?_ | refine IsLim.bind ?_ (fun _ => ?_) | exact impl_IsSpace.lim .. | exact impl_Matrix_kernel.lim ..)
end Go.Proofs.Ythjfilmdobkmlaa.P
end
section
namespace Go.Proofs.Ythjfilmdobkmlaa.P
open Go.RowKit Go.Proofs.YthjfilmdobkmlaaW.PrintWords Go.Proofs.YthjfilmdobkmlaaW.PrintLast Go.Proofs.YthjfilmdobkmlaaW.PrintMore
set_option linter.unusedVariables false
set_option linter.unusedSimpArgs false
noncomputable def impl_Matrix_distance.d (a0_0 : Int) (l0_1 : List Int) (a1_0 : Int) (l1_1 : List Int) : Option (Int) := lim (fun k => impl_Matrix_distance.f k a0_0 l0_1 a1_0 l1_1)
theorem impl_Matrix_distance.lim (a0_0 : Int) (l0_1 : List Int) (a1_0 : Int) (l1_1 : List Int) : IsLim (fun k => impl_Matrix_distance.f k a0_0 l0_1 a1_0 l1_1) (impl_Matrix_distance.d a0_0 l0_1 a1_0 l1_1) := lim_spec (fun k => impl_Matrix_distance.mono a0_0 l0_1 a1_0 l1_1 k)
theorem impl_Matrix_distance.d_eq (a0_0 : Int) (l0_1 : List Int) (a1_0 : Int) (l1_1 : List Int) : impl_Matrix_distance.d a0_0 l0_1 a1_0 l1_1 = (impl_Matrix_sum.d a0_0 l0_1 a1_0 l1_1).bind fun bt509 => ((impl_size_int64.f bt509.2).bind fun t513 => ((impl_size_int64.f l0_1).bind fun t514 => ((impl_size_int64.f l1_1).bind fun t515 => (some (wrap64 ((wrap64 ((wrap64 (2 * t513)) - t514)) - t515)))))) := by
  refine IsLim.unique (impl_Matrix_distance.lim _ _ _ _) ?_
  unfold impl_Matrix_distance.f
  repeat' (first | exact IsLim.const _ | refine IsLim.ite ?_ ?_ | refine IsLim.bind ?_ (fun _ => ?_) | exact impl_Matrix_sum.lim ..)
noncomputable def impl_DistanceOf.d (a0_0 : Int) (l0_1 : List Int) (a1_0 : Int) (l1_1 : List Int) : Option (Int × Int) := lim (fun k => impl_DistanceOf.f k a0_0 l0_1 a1_0 l1_1)
theorem impl_DistanceOf.lim (a0_0 : Int) (l0_1 : List Int) (a1_0 : Int) (l1_1 : List Int) : IsLim (fun k => impl_DistanceOf.f k a0_0 l0_1 a1_0 l1_1) (impl_DistanceOf.d a0_0 l0_1 a1_0 l1_1) := lim_spec (fun k => impl_DistanceOf.mono a0_0 l0_1 a1_0 l1_1 k)
theorem impl_DistanceOf.d_eq (a0_0 : Int) (l0_1 : List Int) (a1_0 : Int) (l1_1 : List Int) : impl_DistanceOf.d a0_0 l0_1 a1_0 l1_1 = (impl_spacesCode.d a0_0 l0_1 a1_0 l1_1).bind fun t518 => (if t518 = 0 then ((impl_Matrix_distance.d a0_0 l0_1 a1_0 l1_1).bind fun t519 => (some (t519, 0))) else (some (0, t518))) := by
  refine IsLim.unique (impl_DistanceOf.lim _ _ _ _) ?_
  unfold impl_DistanceOf.f
  repeat' (first | exact IsLim.const _ | refine IsLim.ite ?_ ?_ | refine IsLim.bind ?_ (fun _ => ?_) | exact impl_spacesCode.lim .. | exact impl_Matrix_distance.lim ..)
end Go.Proofs.Ythjfilmdobkmlaa.P
end
section
namespace Go.Proofs.Ythjfilmdobkmlaa.P
open Go.RowKit Go.Proofs.YthjfilmdobkmlaaW.PrintWords Go.Proofs.YthjfilmdobkmlaaW.PrintLast Go.Proofs.YthjfilmdobkmlaaW.PrintMore
set_option linter.unusedVariables false
set_option linter.unusedSimpArgs false
noncomputable def laws_FnSumsAndMeets.j0d (x98 : Bool) (x527000 : Int) (x527001 : List Int) (x532000 : Int) (x532001 : List Int) (x543000 : Int) (x543001 : List Int) (x549000 : Int) (x549001 : List Int) (x555000 : Int) (x555001 : List Int) : Option (Bool) := lim (fun k => laws_FnSumsAndMeets.j0 k x98 x527000 x527001 x532000 x532001 x543000 x543001 x549000 x549001 x555000 x555001)
theorem laws_FnSumsAndMeets.j0lim (x98 : Bool) (x527000 : Int) (x527001 : List Int) (x532000 : Int) (x532001 : List Int) (x543000 : Int) (x543001 : List Int) (x549000 : Int) (x549001 : List Int) (x555000 : Int) (x555001 : List Int) : IsLim (fun k => laws_FnSumsAndMeets.j0 k x98 x527000 x527001 x532000 x532001 x543000 x543001 x549000 x549001 x555000 x555001) (laws_FnSumsAndMeets.j0d x98 x527000 x527001 x532000 x532001 x543000 x543001 x549000 x549001 x555000 x555001) := lim_spec (fun k => (laws_FnSumsAndMeets.mono_l k).1 x98 x527000 x527001 x532000 x532001 x543000 x543001 x549000 x549001 x555000 x555001)
noncomputable def laws_FnSumsAndMeets.j1d (x181 : Bool) (x527000 : Int) (x527001 : List Int) (x532000 : Int) (x532001 : List Int) (x543000 : Int) (x543001 : List Int) (x549000 : Int) (x549001 : List Int) (x555000 : Int) (x555001 : List Int) (x569000 : Int) (x569001 : List Int) (x575000 : Int) (x575001 : List Int) : Option (Bool) := lim (fun k => laws_FnSumsAndMeets.j1 k x181 x527000 x527001 x532000 x532001 x543000 x543001 x549000 x549001 x555000 x555001 x569000 x569001 x575000 x575001)
theorem laws_FnSumsAndMeets.j1lim (x181 : Bool) (x527000 : Int) (x527001 : List Int) (x532000 : Int) (x532001 : List Int) (x543000 : Int) (x543001 : List Int) (x549000 : Int) (x549001 : List Int) (x555000 : Int) (x555001 : List Int) (x569000 : Int) (x569001 : List Int) (x575000 : Int) (x575001 : List Int) : IsLim (fun k => laws_FnSumsAndMeets.j1 k x181 x527000 x527001 x532000 x532001 x543000 x543001 x549000 x549001 x555000 x555001 x569000 x569001 x575000 x575001) (laws_FnSumsAndMeets.j1d x181 x527000 x527001 x532000 x532001 x543000 x543001 x549000 x549001 x555000 x555001 x569000 x569001 x575000 x575001) := lim_spec (fun k => (laws_FnSumsAndMeets.mono_l k).2 x181 x527000 x527001 x532000 x532001 x543000 x543001 x549000 x549001 x555000 x555001 x569000 x569001 x575000 x575001)
theorem laws_FnSumsAndMeets.j0d_eq (x98 : Bool) (x527000 : Int) (x527001 : List Int) (x532000 : Int) (x532001 : List Int) (x543000 : Int) (x543001 : List Int) (x549000 : Int) (x549001 : List Int) (x555000 : Int) (x555001 : List Int) : laws_FnSumsAndMeets.j0d x98 x527000 x527001 x532000 x532001 x543000 x543001 x549000 x549001 x555000 x555001 = if x98 = true then (some false) else ((impl_Contains.d x549000 x549001 x527000 x527001).bind fun bt557 => ((impl_Contains.d x527000 x527001 x555000 x555001).bind fun bt559 => ((impl_Contains.d x532000 x532001 x555000 x555001).bind fun bt561 => ((impl_DualSpace.d x527000 x527001).bind fun bt563 => ((impl_DualSpace.d x532000 x532001).bind fun bt569 => ((impl_DualSpace.d x549000 x549001).bind fun bt575 => ((impl_MeetOf.d bt563.1 bt563.2.1 bt569.1 bt569.2.1).bind fun bt581 => (if bt557.2 = 0 then (if bt559.2 = 0 then (if bt561.2 = 0 then (if bt557.1 = true then (if bt559.1 = true then (if bt561.1 = true then (if bt563.2.2 = 0 then (if bt569.2.2 = 0 then (if bt575.2.2 = 0 then (if bt581.2.2 = 0 then ((spec_SameMatrix.d bt575.1 bt575.2.1 bt581.1 bt581.2.1).bind fun t587 => (laws_FnSumsAndMeets.j1d (!t587) x527000 x527001 x532000 x532001 x543000 x543001 x549000 x549001 x555000 x555001 bt563.1 bt563.2.1 bt569.1 bt569.2.1)) else (laws_FnSumsAndMeets.j1d true x527000 x527001 x532000 x532001 x543000 x543001 x549000 x549001 x555000 x555001 bt563.1 bt563.2.1 bt569.1 bt569.2.1)) else (laws_FnSumsAndMeets.j1d true x527000 x527001 x532000 x532001 x543000 x543001 x549000 x549001 x555000 x555001 bt563.1 bt563.2.1 bt569.1 bt569.2.1)) else (laws_FnSumsAndMeets.j1d true x527000 x527001 x532000 x532001 x543000 x543001 x549000 x549001 x555000 x555001 bt563.1 bt563.2.1 bt569.1 bt569.2.1)) else (laws_FnSumsAndMeets.j1d true x527000 x527001 x532000 x532001 x543000 x543001 x549000 x549001 x555000 x555001 bt563.1 bt563.2.1 bt569.1 bt569.2.1)) else (laws_FnSumsAndMeets.j1d true x527000 x527001 x532000 x532001 x543000 x543001 x549000 x549001 x555000 x555001 bt563.1 bt563.2.1 bt569.1 bt569.2.1)) else (laws_FnSumsAndMeets.j1d true x527000 x527001 x532000 x532001 x543000 x543001 x549000 x549001 x555000 x555001 bt563.1 bt563.2.1 bt569.1 bt569.2.1)) else (laws_FnSumsAndMeets.j1d true x527000 x527001 x532000 x532001 x543000 x543001 x549000 x549001 x555000 x555001 bt563.1 bt563.2.1 bt569.1 bt569.2.1)) else (laws_FnSumsAndMeets.j1d true x527000 x527001 x532000 x532001 x543000 x543001 x549000 x549001 x555000 x555001 bt563.1 bt563.2.1 bt569.1 bt569.2.1)) else (laws_FnSumsAndMeets.j1d true x527000 x527001 x532000 x532001 x543000 x543001 x549000 x549001 x555000 x555001 bt563.1 bt563.2.1 bt569.1 bt569.2.1)) else (laws_FnSumsAndMeets.j1d true x527000 x527001 x532000 x532001 x543000 x543001 x549000 x549001 x555000 x555001 bt563.1 bt563.2.1 bt569.1 bt569.2.1))))))))) := by
  refine IsLim.unique (laws_FnSumsAndMeets.j0lim _ _ _ _ _ _ _ _ _ _ _) ?_
  refine IsLim.shift (by rfl) ?_
  simp only [laws_FnSumsAndMeets.j0]
  repeat' (first | exact IsLim.const _ | refine IsLim.ite ?_ ?_ | refine IsLim.bind ?_ (fun _ => ?_) | exact impl_Contains.lim .. | exact impl_DualSpace.lim .. | exact impl_MeetOf.lim .. | exact spec_SameMatrix.lim .. | exact laws_FnSumsAndMeets.j1lim ..)
theorem laws_FnSumsAndMeets.j1d_eq (x181 : Bool) (x527000 : Int) (x527001 : List Int) (x532000 : Int) (x532001 : List Int) (x543000 : Int) (x543001 : List Int) (x549000 : Int) (x549001 : List Int) (x555000 : Int) (x555001 : List Int) (x569000 : Int) (x569001 : List Int) (x575000 : Int) (x575001 : List Int) : laws_FnSumsAndMeets.j1d x181 x527000 x527001 x532000 x532001 x543000 x543001 x549000 x549001 x555000 x555001 x569000 x569001 x575000 x575001 = if x181 = true then (some false) else ((impl_DistanceOf.d x527000 x527001 x532000 x532001).bind fun bt588 => ((impl_DistanceOf.d x532000 x532001 x543000 x543001).bind fun bt590 => ((impl_DistanceOf.d x527000 x527001 x543000 x543001).bind fun bt592 => ((impl_DistanceOf.d x532000 x532001 x527000 x527001).bind fun bt594 => ((impl_DistanceOf.d x569000 x569001 x575000 x575001).bind fun bt596 => (if bt588.2 = 0 then (if bt590.2 = 0 then (if bt592.2 = 0 then (if bt594.2 = 0 then (if bt596.2 = 0 then (if bt588.1 = bt594.1 then (if bt588.1 = bt596.1 then ((spec_SameMatrix.d x527000 x527001 x532000 x532001).bind fun t598 => (if ((bt588.1 == 0) == t598) = true then (if bt592.1 ≤ (wrap64 (bt588.1 + bt590.1)) then (some (bt588.1 == (wrap64 ((x549001.length : Int) - (x555001.length : Int))))) else (some false)) else (some false))) else (some false)) else (some false)) else (some false)) else (some false)) else (some false)) else (some false)) else (some false))))))) := by
  refine IsLim.unique (laws_FnSumsAndMeets.j1lim _ _ _ _ _ _ _ _ _ _ _ _ _ _ _) ?_
  refine IsLim.shift (by rfl) ?_
  simp only [laws_FnSumsAndMeets.j1]
  repeat' (first | exact IsLim.const _ | refine IsLim.ite ?_ ?_ | refine IsLim.bind ?_ (fun _ => ?_) | exact impl_DistanceOf.lim .. | exact spec_SameMatrix.lim ..)
noncomputable def laws_FnSumsAndMeets.d (l0 : List Int) (l1 : List Int) : Option (Bool) := lim (fun k => laws_FnSumsAndMeets.f k l0 l1)
theorem laws_FnSumsAndMeets.lim (l0 : List Int) (l1 : List Int) : IsLim (fun k => laws_FnSumsAndMeets.f k l0 l1) (laws_FnSumsAndMeets.d l0 l1) := lim_spec (fun k => laws_FnSumsAndMeets.mono l0 l1 k)
theorem laws_FnSumsAndMeets.d_eq (l0 : List Int) (l1 : List Int) : laws_FnSumsAndMeets.d l0 l1 = (laws_a2Long.f l0 l1).bind fun t520 => (if t520 = true then (some true) else ((laws_a2At.f l1 0 6).bind fun t521 => ((spec_A2Space.d l0 (wrap64 (1 + t521))).bind fun bt522 => ((spec_A2Space.d l1 (wrap64 (1 + t521))).bind fun bt527 => ((some (([3] : List Int) : List Int)).bind fun y532 => (if y532.length + l0.length < 140737488355328 then ((spec_A2Space.d (y532 ++ l0) (wrap64 (1 + t521))).bind fun bt538 => ((impl_SumOf.d bt522.1 bt522.2 bt527.1 bt527.2).bind fun bt543 => ((impl_MeetOf.d bt522.1 bt522.2 bt527.1 bt527.2).bind fun bt549 => (if bt543.2.2 = 0 then (if bt549.2.2 = 0 then ((spec_IsSpace.d bt543.1 bt543.2.1).bind fun t555 => (if t555 = true then ((spec_IsSpace.d bt549.1 bt549.2.1).bind fun t556 => (if t556 = true then (laws_FnSumsAndMeets.j0d ((wrap64 ((bt543.2.1.length : Int) + (bt549.2.1.length : Int))) != (wrap64 ((bt522.2.length : Int) + (bt527.2.length : Int)))) bt522.1 bt522.2 bt527.1 bt527.2 bt538.1 bt538.2 bt543.1 bt543.2.1 bt549.1 bt549.2.1) else (laws_FnSumsAndMeets.j0d true bt522.1 bt522.2 bt527.1 bt527.2 bt538.1 bt538.2 bt543.1 bt543.2.1 bt549.1 bt549.2.1))) else (laws_FnSumsAndMeets.j0d true bt522.1 bt522.2 bt527.1 bt527.2 bt538.1 bt538.2 bt543.1 bt543.2.1 bt549.1 bt549.2.1))) else (laws_FnSumsAndMeets.j0d true bt522.1 bt522.2 bt527.1 bt527.2 bt538.1 bt538.2 bt543.1 bt543.2.1 bt549.1 bt549.2.1)) else (laws_FnSumsAndMeets.j0d true bt522.1 bt522.2 bt527.1 bt527.2 bt538.1 bt538.2 bt543.1 bt543.2.1 bt549.1 bt549.2.1))))) else (none))))))) := by
  refine IsLim.unique (laws_FnSumsAndMeets.lim _ _) ?_
  unfold laws_FnSumsAndMeets.f
  repeat' (first | exact IsLim.const _ | refine IsLim.ite ?_ ?_ | refine IsLim.bind ?_ (fun _ => ?_) | exact spec_A2Space.lim .. | exact impl_SumOf.lim .. | exact impl_MeetOf.lim .. | exact spec_IsSpace.lim .. | exact laws_FnSumsAndMeets.j0lim ..)
end Go.Proofs.Ythjfilmdobkmlaa.P
end
section
namespace Go.Proofs.Ythjfilmdobkmlaa.P
open Go.RowKit Go.Proofs.YthjfilmdobkmlaaW.PrintWords Go.Proofs.YthjfilmdobkmlaaW.PrintLast Go.Proofs.YthjfilmdobkmlaaW.PrintMore
set_option linter.unusedVariables false
set_option linter.unusedSimpArgs false
theorem wr {x : Int} (h0 : -9223372036854775808 ≤ x) (h1 : x < 9223372036854775808) : wrap64 x = x := by
  unfold wrap64; omega
theorem wrS {i n : Nat} (h : i < n) (hn : n ≤ 17592186044416) : wrap64 ((i : Int) + 1) = ((i + 1 : Nat) : Int) := by rw [wr (by omega) (by omega)]; omega
theorem u64_id {x : Int} (h0 : 0 ≤ x) (h1 : x < 9223372036854775808) : IntKind.u64.wrap x = x := by rw [IntKind.wrap_u64]; omega
theorem down {Q : Nat → Prop} {n : Nat} (h0 : Q n) (hs : ∀ i, i < n → Q (i + 1) → Q i) : ∀ i, i ≤ n → Q i := by
  intro i hi
  obtain ⟨d, hd⟩ : ∃ d, d = n - i := ⟨_, rfl⟩
  induction d generalizing i with
  | zero => have : i = n := by omega
            exact this ▸ h0
  | succ d ih => exact hs i (by omega) (ih (i + 1) (by omega) (by omega))
theorem rd_get {l : List Int} {i : Nat} (h : i < l.length) : rd l (i : Int) = l[i] := rd_at l i h
theorem bind_some' {α β : Type} (a : α) (f : α → Option β) : (some a).bind f = f a := rfl
/-- the first place where `q` holds, by a walk upward -/
theorem index_gen {F : Int → Option Int} {n : Nat} {q : Nat → Bool} (hend : F (n : Int) = some (-1))
    (heq : ∀ i : Nat, i < n → F (i : Int) = if q i = true then some (i : Int) else F ((i + 1 : Nat) : Int)) :
    ∃ v, F 0 = some v ∧ (decide (v ≥ 0) = !decide (∀ i, i < n → q i = false)) ∧ (0 ≤ v → v.toNat < n ∧ q v.toNat = true ∧ ∀ j, j < v.toNat → q j = false) := by
  have key : ∀ i, i ≤ n → ∃ v, F (i : Int) = some v ∧ (v ≥ 0 ↔ ¬ ∀ j, i ≤ j → j < n → q j = false) ∧ (0 ≤ v → i ≤ v.toNat ∧ v.toNat < n ∧ q v.toNat = true ∧ ∀ j, i ≤ j → j < v.toNat → q j = false) := by
    apply down
    · exact ⟨-1, hend, ⟨fun h => absurd h (by decide), fun h => absurd (fun j _ _ => by omega) h⟩, fun h => absurd h (by decide)⟩
    · intro i hi ⟨v, e, c, d⟩
      rw [heq i hi]
      by_cases hq : q i = true
      · rw [if_pos hq]
        exact ⟨i, rfl, ⟨fun _ h => (by rw [h i (by omega) hi] at hq; cases hq), fun _ => by omega⟩, fun _ => ⟨by simp, by simpa using hi, by simpa using hq, fun j h1 h2 => by simp at h2; omega⟩⟩
      · rw [if_neg hq]
        have hq' : q i = false := Bool.eq_false_iff.mpr hq
        refine ⟨v, e, c.trans ⟨fun h h' => h fun j a b => h' j (by omega) b, fun h h' => h fun j a b => ?_⟩, fun h => ?_⟩
        · rcases Nat.lt_or_ge i j with z | z
          · exact h' j z b
          · have : j = i := by omega
            rw [this, hq']
        · obtain ⟨a1, a2, a3, a4⟩ := d h
          refine ⟨by omega, a2, a3, fun j h1 h2 => ?_⟩
          rcases Nat.lt_or_ge i j with z | z
          · exact a4 j z h2
          · have : j = i := by omega
            rw [this, hq']
  obtain ⟨v, e, c, d⟩ := key 0 (by omega)
  refine ⟨v, e, ?_, fun h => ⟨(d h).2.1, (d h).2.2.1, fun j hj => (d h).2.2.2 j (by omega) hj⟩⟩
  rw [← decide_not]
  apply decide_eq_decide.mpr
  exact c.trans ⟨fun h h' => h fun j _ b => h' j b, fun h h' => h fun j b => h' j (by omega) b⟩
theorem all_gen {F : Int → Option Bool} {n : Nat} {q : Nat → Bool} (hend : F (n : Int) = some true)
    (heq : ∀ i : Nat, i < n → F (i : Int) = if q i = true then F ((i + 1 : Nat) : Int) else some false) :
    F 0 = some (decide (∀ i, i < n → q i = true)) := by
  have key : ∀ i, i ≤ n → ∃ b, F (i : Int) = some b ∧ (b = true ↔ ∀ j, i ≤ j → j < n → q j = true) := by
    apply down
    · exact ⟨true, hend, ⟨fun _ j a b => by omega, fun _ => rfl⟩⟩
    · intro i hi ⟨b, e, c⟩
      rw [heq i hi, e]
      by_cases hq : q i = true
      · rw [if_pos hq]
        refine ⟨b, rfl, c.trans ⟨fun h j a b => ?_, fun h j a b => h j (by omega) b⟩⟩
        rcases Nat.lt_or_ge i j with z | z
        · exact h j z b
        · have : j = i := by omega
          rw [this, hq]
      · rw [if_neg hq]
        exact ⟨false, rfl, ⟨(fun h => absurd h (by decide)), fun h => absurd (h i (by omega) hi) hq⟩⟩
  obtain ⟨b, e, c⟩ := key 0 (by omega)
  have e' : F 0 = some b := e
  rw [e']
  congr 1
  rw [Bool.eq_iff_iff, decide_eq_true_iff]
  exact c.trans ⟨fun h j b => h j (by omega) b, fun h j _ b => h j b⟩
theorem all_get {l : List Int} {q : Int → Bool} : decide (∀ i, i < l.length → q (rd l (i : Int)) = true) = l.all q := by
  rw [Bool.eq_iff_iff, decide_eq_true_iff, List.all_eq_true]
  constructor
  · intro h x hx
    obtain ⟨i, hi, e⟩ := List.getElem_of_mem hx
    have := h i hi
    rwa [rd_get hi, e] at this
  · intro h i hi
    rw [rd_get hi]; exact h _ (List.getElem_mem hi)
end Go.Proofs.Ythjfilmdobkmlaa.P
end
section
namespace Go.Proofs.Ythjfilmdobkmlaa.P
open Go.RowKit Go.Proofs.YthjfilmdobkmlaaW.PrintWords Go.Proofs.YthjfilmdobkmlaaW.PrintLast Go.Proofs.YthjfilmdobkmlaaW.PrintMore
set_option linter.unusedVariables false
set_option linter.unusedSimpArgs false
theorem wrap_nat {n : Nat} (h : n < 9223372036854775808) : IntKind.i64.wrap (n : Int) = (n : Int) := by rw [IntKind.wrap_i64]; omega
theorem bits_nat {a : Nat} (ha : a < 9223372036854775808) : (BitVec.ofInt IntKind.i64.bits (a : Int)).toNat = a := by
  show (BitVec.ofInt 64 (a : Int)).toNat = a
  rw [BitVec.ofInt_natCast, BitVec.toNat_ofNat]
  exact Nat.mod_eq_of_lt (by omega)
theorem bxor {a b : Nat} (ha : a < 9223372036854775808) (hb : b < 9223372036854775808) : Go.bits .xor .i64 (a : Int) (b : Int) = ((a ^^^ b : Nat) : Int) := by
  show IntKind.i64.wrap ((BitVec.ofInt IntKind.i64.bits (a : Int) ^^^ BitVec.ofInt IntKind.i64.bits (b : Int)).toNat : Int) = _
  rw [BitVec.toNat_xor, bits_nat ha, bits_nat hb]
  exact wrap_nat (Nat.xor_lt_two_pow (n := 63) (by omega) (by omega))
theorem band {a b : Nat} (ha : a < 9223372036854775808) (hb : b < 9223372036854775808) : Go.bits .and .i64 (a : Int) (b : Int) = ((a &&& b : Nat) : Int) := by
  show IntKind.i64.wrap ((BitVec.ofInt IntKind.i64.bits (a : Int) &&& BitVec.ofInt IntKind.i64.bits (b : Int)).toNat : Int) = _
  rw [BitVec.toNat_and, bits_nat ha, bits_nat hb]
  exact wrap_nat (Nat.and_lt_two_pow (n := 63) a (by omega))
theorem bor {a b : Nat} (ha : a < 9223372036854775808) (hb : b < 9223372036854775808) : Go.bits .or .i64 (a : Int) (b : Int) = ((a ||| b : Nat) : Int) := by
  show IntKind.i64.wrap ((BitVec.ofInt IntKind.i64.bits (a : Int) ||| BitVec.ofInt IntKind.i64.bits (b : Int)).toNat : Int) = _
  rw [BitVec.toNat_or, bits_nat ha, bits_nat hb]
  exact wrap_nat (Nat.or_lt_two_pow (n := 63) (by omega) (by omega))
theorem shr_nat {a c : Nat} (hc : c ≤ 64) : shr .i64 (a : Int) (c : Int) = ((a >>> c : Nat) : Int) := by
  show (a : Int) / 2 ^ min (c : Int).toNat 64 = _
  rw [Int.toNat_natCast, Nat.min_eq_left hc, Nat.shiftRight_eq_div_pow]
  simp
theorem shl_nat {a c : Nat} (hc : c ≤ 64) (h : a * 2 ^ c < 9223372036854775808) : shl .i64 (a : Int) (c : Int) = ((a * 2 ^ c : Nat) : Int) := by
  show IntKind.i64.wrap ((a : Int) * 2 ^ min (c : Int).toNat 64) = _
  rw [Int.toNat_natCast, Nat.min_eq_left hc, ← wrap_nat h]
  simp
theorem bit_test {a c : Nat} (ha : a < 9223372036854775808) (hc : c ≤ 64) : Go.bits .and .i64 (shr .i64 (a : Int) (c : Int)) 1 = if a.testBit c = true then 1 else 0 := by
  rw [shr_nat hc]
  have h1 : a >>> c < 9223372036854775808 := by
    rw [Nat.shiftRight_eq_div_pow]
    exact Nat.lt_of_le_of_lt (Nat.div_le_self _ _) ha
  have := band (a := a >>> c) (b := 1) h1 (by omega)
  rw [show ((1 : Nat) : Int) = 1 from rfl] at this
  rw [this, Nat.testBit, Nat.and_comm 1]
  rw [Nat.and_one_is_mod]
  rcases Nat.mod_two_eq_zero_or_one (a >>> c) with e | e <;> rw [e] <;> simp
theorem small62 {x n : Nat} (hn : n ≤ 63) (h : x < 2 ^ n) : x < 9223372036854775808 := Nat.lt_of_lt_of_le h (Nat.le_trans (Nat.pow_le_pow_right (by omega) hn) (by decide))
/-- rows as the program holds them -/
def up (l : List Nat) : List Int := l.map fun (x : Nat) => (x : Int)
theorem up_length (l : List Nat) : (up l).length = l.length := by simp [up]
theorem up_get {l : List Nat} {i : Nat} (h : i < l.length) : rd (up l) (i : Int) = (l[i] : Int) := by
  rw [rd_get (by rw [up_length]; exact h)]; simp [up]
theorem up_set {l : List Nat} {i x : Nat} : (up l).set i (x : Int) = up (l.set i x) := by simp [up, List.map_set]
theorem up_append (l l' : List Nat) : up (l ++ l') = up l ++ up l' := by simp [up]
theorem up_drop (l : List Nat) (i : Nat) : (up l).drop i = up (l.drop i) := by simp [up, List.map_drop]
theorem up_take (l : List Nat) (i : Nat) : (up l).take i = up (l.take i) := by simp [up, List.map_take]
theorem up_of {l : List Int} (h : ∀ x ∈ l, 0 ≤ x) : up (l.map Int.toNat) = l := by
  unfold up
  rw [List.map_map]
  conv => rhs; rw [← List.map_id l]
  apply List.map_congr_left
  intro x hx
  show ((x.toNat : Nat) : Int) = x
  have := h x hx
  omega
theorem up_inj {a b : List Nat} (h : up a = up b) : a = b := by
  unfold up at h
  exact (List.map_inj_right (f := fun (x : Nat) => (x : Int)) (fun x y e => by have e : (x : Int) = (y : Int) := e; omega)).mp h
/-- a walk upward that writes every place of a list -/
theorem map_gen {α R : Type} {F : List α → Int → R} {n : Nat} {g : Nat → α → α} {r : R} (Q : Nat → α → Prop) (l : List α) (hn : l.length = n)
    (hq : ∀ i, (h : i < l.length) → Q i l[i]) (hg : ∀ i x, Q i x → Q i (g i x))
    (heq : ∀ i : Nat, ∀ a : List α, (hi : i < a.length) → a.length = n → (∀ j, (h : j < a.length) → Q j a[j]) → (∀ j, i ≤ j → (h : j < a.length) → (h' : j < l.length) → a[j] = l[j]) →
      (∀ j, j < i → (h : j < a.length) → (h' : j < l.length) → a[j] = g j l[j]) → F a (i : Int) = F (a.set i (g i (a[i]'hi))) ((i + 1 : Nat) : Int))
    (hend : F (l.mapIdx g) (n : Int) = r) : F l 0 = r := by
  have key : ∀ i, i ≤ n → F (l.mapIdx fun j x => if j < i then g j x else x) (i : Int) = r := by
    apply down
    · have : (l.mapIdx fun j x => if j < n then g j x else x) = l.mapIdx g := by
        apply List.ext_getElem
        · simp
        · intro j h1 h2
          simp only [List.getElem_mapIdx]
          rw [if_pos (by simp at h1; omega)]
      rw [this]; exact hend
    · intro i hi e
      have hil : i < l.length := by omega
      rw [heq i _ (by simp; omega) (by simp; omega) ?_ ?_ ?_, ← e]
      · congr 1
        apply List.ext_getElem
        · simp
        · intro j h1 h2
          simp only [List.getElem_set, List.getElem_mapIdx]
          by_cases c : i = j
          · subst c; simp
          · rw [if_neg c]
            by_cases c2 : j < i
            · simp [c2, show j < i + 1 by omega]
            · simp [c2, show ¬ j < i + 1 by omega]
      · intro j h
        simp only [List.length_mapIdx] at h
        simp only [List.getElem_mapIdx]
        split
        · exact hg j _ (hq j h)
        · exact hq j h
      · intro j hij h h'
        simp only [List.getElem_mapIdx]
        rw [if_neg (by omega)]
      · intro j hij h h'
        simp only [List.getElem_mapIdx]
        rw [if_pos hij]
  have := key 0 (by omega)
  have e : (l.mapIdx fun j x => if j < 0 then g j x else x) = l := by
    apply List.ext_getElem
    · simp
    · intro j h1 h2; simp
  rw [e] at this
  exact this
theorem mapIdx_const {α : Type} (g : α → α) (l : List α) : (l.mapIdx fun _ x => g x) = l.map g := by
  apply List.ext_getElem
  · simp
  · intro j h1 h2; simp
end Go.Proofs.Ythjfilmdobkmlaa.P
end
section
namespace Go.Proofs.Ythjfilmdobkmlaa.P
set_option linter.unusedVariables false
set_option linter.unusedSimpArgs false
/-- a sum of some of the rows -/
inductive Sp (R : List Nat) : Nat → Prop
  | zero : Sp R 0
  | add {r v : Nat} : r ∈ R → Sp R v → Sp R (v ^^^ r)
theorem Sp.mem {R : List Nat} {r : Nat} (h : r ∈ R) : Sp R r := by
  have := Sp.add h Sp.zero
  rwa [Nat.zero_xor] at this
theorem Sp.xor {R : List Nat} {u v : Nat} (hu : Sp R u) (hv : Sp R v) : Sp R (u ^^^ v) := by
  induction hv with
  | zero => rwa [Nat.xor_zero]
  | add h _ ih => rw [← Nat.xor_assoc]; exact Sp.add h ih
theorem Sp.sub {R R' : List Nat} (h : ∀ r ∈ R, Sp R' r) {v : Nat} (hv : Sp R v) : Sp R' v := by
  induction hv with
  | zero => exact Sp.zero
  | add hr _ ih => exact ih.xor (h _ hr)
theorem Sp.mono {R R' : List Nat} (h : ∀ r ∈ R, r ∈ R') {v : Nat} (hv : Sp R v) : Sp R' v := hv.sub fun r hr => Sp.mem (h r hr)
theorem Sp.nil {v : Nat} (h : Sp [] v) : v = 0 := by
  cases h with
  | zero => rfl
  | add h _ => cases h
theorem Sp.cons {r : Nat} {R : List Nat} {v : Nat} (h : Sp (r :: R) v) : Sp R v ∨ Sp R (v ^^^ r) := by
  induction h with
  | zero => exact .inl .zero
  | @add s v hs _ ih =>
    rcases List.mem_cons.mp hs with rfl | hs
    · rcases ih with ih | ih
      · right; rw [Nat.xor_assoc, Nat.xor_self, Nat.xor_zero]; exact ih
      · left; exact ih
    · rcases ih with ih | ih
      · left; exact ih.add hs
      · right; rw [Nat.xor_assoc, Nat.xor_comm s r, ← Nat.xor_assoc]; exact ih.add hs
theorem Sp.bit {R : List Nat} {b : Nat} (h : ∀ r ∈ R, r.testBit b = false) {v : Nat} (hv : Sp R v) : v.testBit b = false := by
  induction hv with
  | zero => exact Nat.zero_testBit b
  | add hr _ ih => rw [Nat.testBit_xor, ih, h _ hr]; rfl
/-- reduced rows R with their leading places C, growing -/
def RED : List Nat → List Nat → Prop
  | [], [] => True
  | r :: R, c :: C => r.testBit c = true ∧ (∀ b, b < c → r.testBit b = false) ∧ (∀ d ∈ C, c < d ∧ r.testBit d = false) ∧ RED R C
  | _, _ => False
theorem RED.low {R C : List Nat} (h : RED R C) {b : Nat} (hb : ∀ d ∈ C, b < d) : ∀ r ∈ R, r.testBit b = false := by
  induction R generalizing C with
  | nil => intro r hr; cases hr
  | cons r R ih =>
    cases C with
    | nil => exact h.elim
    | cons c C =>
      obtain ⟨h1, h2, h3, h4⟩ := h
      intro s hs
      rcases List.mem_cons.mp hs with rfl | hs
      · exact h2 b (hb c (by simp))
      · exact ih h4 (fun d hd => hb d (by simp [hd])) s hs
theorem RED.zero {R C : List Nat} (h : RED R C) {v : Nat} (hv : Sp R v) (h0 : ∀ c ∈ C, v.testBit c = false) : v = 0 := by
  induction R generalizing C v with
  | nil => exact hv.nil
  | cons r R ih =>
    cases C with
    | nil => exact h.elim
    | cons c C =>
      obtain ⟨h1, h2, h3, h4⟩ := h
      have low : ∀ s ∈ R, s.testBit c = false := h4.low fun d hd => (h3 d hd).1
      rcases hv.cons with hv | hv
      · exact ih h4 hv fun d hd => h0 d (by simp [hd])
      · have := hv.bit low
        rw [Nat.testBit_xor, h1, h0 c (by simp)] at this
        cases this
theorem RED.lead {R C : List Nat} (h : RED R C) {v : Nat} (hv : Sp R v) (h0 : v ≠ 0) : ∃ c ∈ C, v.testBit c = true ∧ ∀ b, b < c → v.testBit b = false := by
  induction R generalizing C v with
  | nil => exact absurd hv.nil h0
  | cons r R ih =>
    cases C with
    | nil => exact h.elim
    | cons c C =>
      obtain ⟨h1, h2, h3, h4⟩ := h
      rcases hv.cons with hv | hv
      · obtain ⟨d, hd, a, b⟩ := ih h4 hv h0
        exact ⟨d, by simp [hd], a, b⟩
      · refine ⟨c, by simp, ?_, fun b hb => ?_⟩
        · have := hv.bit (h4.low fun d hd => (h3 d hd).1)
          rw [Nat.testBit_xor, h1] at this
          revert this; cases v.testBit c <;> simp
        · have := hv.bit (h4.low (b := b) fun d hd => Nat.lt_trans hb (h3 d hd).1)
          rw [Nat.testBit_xor, h2 b hb] at this
          revert this; cases v.testBit b <;> simp
theorem RED.nonzero {r c : Nat} (h : r.testBit c = true) : r ≠ 0 := by rintro rfl; rw [Nat.zero_testBit] at h; cases h
theorem RED.head_le {r c : Nat} {R C R' C' : List Nat} {r' c' : Nat} (h : RED (r :: R) (c :: C)) (h' : RED (r' :: R') (c' :: C'))
    (hs : ∀ v, Sp (r' :: R') v → Sp (r :: R) v) : c ≤ c' := by
  obtain ⟨d, hd, a, b⟩ := h.lead (hs r' (Sp.mem (by simp))) (RED.nonzero h'.1)
  have : c ≤ d := by
    rcases List.mem_cons.mp hd with rfl | hd
    · exact Nat.le_refl _
    · exact Nat.le_of_lt (h.2.2.1 d hd).1
  rcases Nat.lt_or_ge c' d with z | z
  · have := b c' z; rw [h'.1] at this; cases this
  · omega
theorem RED.tail {r c : Nat} {R C : List Nat} (h : RED (r :: R) (c :: C)) {v : Nat} : Sp R v ↔ (Sp (r :: R) v ∧ v.testBit c = false) := by
  have low : ∀ s ∈ R, s.testBit c = false := h.2.2.2.low fun d hd => (h.2.2.1 d hd).1
  constructor
  · intro hv; exact ⟨hv.mono fun s hs => by simp [hs], hv.bit low⟩
  · rintro ⟨hv, h0⟩
    rcases hv.cons with hv | hv
    · exact hv
    · have := hv.bit low
      rw [Nat.testBit_xor, h.1, h0] at this; cases this
theorem RED.unique {R C R' C' : List Nat} (h : RED R C) (h' : RED R' C') (hs : ∀ v, Sp R v ↔ Sp R' v) : R = R' ∧ C = C' := by
  induction R generalizing C R' C' with
  | nil =>
    cases C with
    | cons c C => exact h.elim
    | nil =>
      cases R' with
      | nil => cases C' with
        | nil => exact ⟨rfl, rfl⟩
        | cons c' C' => exact h'.elim
      | cons r' R' => cases C' with
        | nil => exact h'.elim
        | cons c' C' => exact absurd ((hs r').mpr (Sp.mem (by simp))).nil (RED.nonzero h'.1)
  | cons r R ih =>
    cases C with
    | nil => exact h.elim
    | cons c C =>
      cases R' with
      | nil => cases C' with
        | nil => exact absurd ((hs r).mp (Sp.mem (by simp))).nil (RED.nonzero h.1)
        | cons c' C' => exact h'.elim
      | cons r' R' =>
        cases C' with
        | nil => exact h'.elim
        | cons c' C' =>
          have e : c = c' := Nat.le_antisymm (h.head_le h' fun v => (hs v).mpr) (h'.head_le h fun v => (hs v).mp)
          subst e
          obtain ⟨e1, e2⟩ := ih h.2.2.2 h'.2.2.2 fun v => by rw [h.tail, h'.tail, hs v]
          subst e1 e2
          refine ⟨?_, rfl⟩
          have hz : r ^^^ r' = 0 := by
            refine h.zero (Sp.xor (Sp.mem (by simp)) ((hs r').mpr (Sp.mem (by simp)))) fun d hd => ?_
            rw [Nat.testBit_xor]
            rcases List.mem_cons.mp hd with rfl | hd
            · rw [h.1, h'.1]; rfl
            · rw [(h.2.2.1 d hd).2, (h'.2.2.1 d hd).2]; rfl
          have : r = r' := by
            have := congrArg (· ^^^ r') hz
            simp only [Nat.xor_assoc, Nat.xor_self, Nat.xor_zero, Nat.zero_xor] at this
            exact this
          rw [this]
theorem RED.snoc {R C : List Nat} (h : RED R C) {r c : Nat} (h1 : r.testBit c = true) (h2 : ∀ b, b < c → r.testBit b = false) (hC : ∀ d ∈ C, d < c) (hR : ∀ s ∈ R, s.testBit c = false) : RED (R ++ [r]) (C ++ [c]) := by
  induction R generalizing C with
  | nil =>
    cases C with
    | cons c C => exact h.elim
    | nil => exact ⟨h1, h2, (fun d hd => by cases hd), trivial⟩
  | cons s R ih =>
    cases C with
    | nil => exact h.elim
    | cons d C =>
      refine ⟨h.1, h.2.1, fun e he => ?_, ih h.2.2.2 (fun e he => hC e (by simp [he])) (fun s hs => hR s (by simp [hs]))⟩
      rcases List.mem_append.mp he with he | he
      · exact h.2.2.1 e he
      · rw [List.mem_singleton] at he
        subst he
        exact ⟨hC d (by simp), hR s (by simp)⟩
theorem RED.len {R C : List Nat} (h : RED R C) : R.length = C.length := by
  induction R generalizing C with
  | nil => cases C with
    | nil => rfl
    | cons => exact h.elim
  | cons r R ih => cases C with
    | nil => exact h.elim
    | cons c C => simp [ih h.2.2.2]
/-- a row x becomes x + r where it has the place c -/
def clr (c r x : Nat) : Nat := if x.testBit c = true then x ^^^ r else x
theorem clr_bit {c r x : Nat} (h : r.testBit c = true) : (clr c r x).testBit c = false := by
  unfold clr
  split
  · rename_i hx; rw [Nat.testBit_xor, hx, h]; rfl
  · rename_i hx; exact Bool.eq_false_iff.mpr hx
theorem clr_low {c r x b : Nat} (h : r.testBit b = false) : (clr c r x).testBit b = x.testBit b := by
  unfold clr
  split
  · rw [Nat.testBit_xor, h, Bool.xor_false]
  · rfl
theorem clr_lt {c r x n : Nat} (hr : r < 2 ^ n) (hx : x < 2 ^ n) : clr c r x < 2 ^ n := by
  unfold clr
  split
  · exact Nat.xor_lt_two_pow hx hr
  · exact hx
theorem RED.clr {R C : List Nat} (h : RED R C) {r c : Nat} (hr : ∀ d ∈ C, r.testBit d = false) (hl : ∀ d ∈ C, ∀ b, b < d → r.testBit b = false) : RED (R.map (clr c r)) C := by
  induction R generalizing C with
  | nil => exact h
  | cons s R ih =>
    cases C with
    | nil => exact h.elim
    | cons d C =>
      refine ⟨?_, fun b hb => ?_, fun e he => ⟨(h.2.2.1 e he).1, ?_⟩, ih h.2.2.2 (fun e he => hr e (by simp [he])) (fun e he => hl e (by simp [he]))⟩
      · rw [clr_low (hr d (by simp))]; exact h.1
      · rw [clr_low (hl d (by simp) b hb)]; exact h.2.1 b hb
      · rw [clr_low (hr e (by simp [he]))]; exact (h.2.2.1 e he).2
theorem Sp.clr {R : List Nat} {c r x : Nat} (hr : Sp R r) (hx : Sp R x) : Sp R (clr c r x) := by
  unfold P.clr
  split
  · exact hx.xor hr
  · exact hx
theorem Sp.of_clr {R : List Nat} {c r x : Nat} (hr : Sp R r) (hx : Sp R (P.clr c r x)) : Sp R x := by
  unfold P.clr at hx
  split at hx
  · have := hx.xor hr
    rwa [Nat.xor_assoc, Nat.xor_self, Nat.xor_zero] at this
  · exact hx
end Go.Proofs.Ythjfilmdobkmlaa.P
end
section
namespace Go.Proofs.Ythjfilmdobkmlaa.P
open Go.RowKit Go.Proofs.YthjfilmdobkmlaaW.PrintWords Go.Proofs.YthjfilmdobkmlaaW.PrintLast Go.Proofs.YthjfilmdobkmlaaW.PrintMore
set_option linter.unusedVariables false
set_option linter.unusedSimpArgs false
theorem s_bit_v {a k : Nat} (ha : a < 4611686018427387904) (hk : k ≤ 62) : spec_l02Bit.f (a : Int) (k : Int) = some (if a.testBit k = true then 1 else 0) := by
  unfold spec_l02Bit.f
  rw [u64_id (by omega) (by omega), if_pos (by omega), bit_test (by omega) (by omega)]
theorem bit_if_pos {b : Bool} (h : b = true) : ((if b = true then 1 else 0 : Int) = 1) = True := by rw [h]; simp
theorem bit_if_neg {b : Bool} (h : b = false) : ((if b = true then 1 else 0 : Int) = 1) = False := by rw [h]; simp
theorem s_find_none {N k : Nat} (hk : k ≤ 61) {ln : List Nat} {out : List Int} (hl : ln.length ≤ 17592186044416) (hb : ∀ x ∈ ln, x < 4611686018427387904)
    (h : ∀ j, (hj : j < ln.length) → ln[j].testBit k = false) : spec_l02Echelon.l1d (N : Int) (up ln) out (k : Int) (-1) 0 = spec_l02Echelon.l0d (N : Int) (up ln) out ((k + 1 : Nat) : Int) := by
  have key : ∀ i, i ≤ ln.length → spec_l02Echelon.l1d (N : Int) (up ln) out (k : Int) (-1) (i : Int) = spec_l02Echelon.l0d (N : Int) (up ln) out ((k + 1 : Nat) : Int) := by
    apply down
    · rw [spec_l02Echelon.l1d_eq, if_neg (by rw [up_length]; omega), spec_l02Echelon.j2d_eq, if_neg (by decide), if_pos (by decide), wrS (n := 62) (by omega) (by omega)]
    · intro i hi e
      rw [spec_l02Echelon.l1d_eq, if_pos (by rw [up_length]; omega), spec_l02Echelon.j2d_eq, if_pos (by decide), if_pos (by omega), if_pos (by rw [up_length]; omega), up_get hi, s_bit_v (hb _ (List.getElem_mem hi)) (by omega), bind_some',
        if_neg (by rw [bit_if_neg (h i hi)]; exact id), wrS hi hl, e]
  exact key 0 (by omega)
theorem s_find_some {N k : Nat} (hk : k ≤ 61) {ln : List Nat} {out : List Int} (hl : ln.length ≤ 17592186044416) (hb : ∀ x ∈ ln, x < 4611686018427387904)
    {j : Nat} (hj : j < ln.length) (hbit : ln[j].testBit k = true) (h : ∀ t, (ht : t < j) → (ln[t]'(by omega)).testBit k = false) :
    spec_l02Echelon.l1d (N : Int) (up ln) out (k : Int) (-1) 0 = spec_l02Echelon.l2d (N : Int) (up (ln.set j 0)) out (k : Int) (ln[j] : Int) 0 := by
  have key : ∀ i, i ≤ j → spec_l02Echelon.l1d (N : Int) (up ln) out (k : Int) (-1) (i : Int) = spec_l02Echelon.l2d (N : Int) (up (ln.set j 0)) out (k : Int) (ln[j] : Int) 0 := by
    apply down
    · have e2 : ∀ i : Int, spec_l02Echelon.j2d (N : Int) (up ln) out (k : Int) (j : Int) i false = spec_l02Echelon.l2d (N : Int) (up (ln.set j 0)) out (k : Int) (ln[j] : Int) 0 := by
        intro i
        rw [spec_l02Echelon.j2d_eq, if_neg (by decide), if_neg (by omega), if_pos (by omega), if_pos (by rw [up_length]; omega), up_get hj, Int.toNat_natCast]
        rw [← up_set]; rfl
      rw [spec_l02Echelon.l1d_eq, if_pos (by rw [up_length]; omega), spec_l02Echelon.j2d_eq, if_pos (by decide), if_pos (by omega), if_pos (by rw [up_length]; omega), up_get hj, s_bit_v (hb _ (List.getElem_mem hj)) (by omega), bind_some',
        if_pos (by rw [bit_if_pos hbit]; trivial), spec_l02Echelon.l1d_eq]
      have e3 : decide ((j : Int) < 0) = false := decide_eq_false (by omega)
      rw [e3]
      split
      · exact e2 _
      · exact e2 _
    · intro i hi e
      have hi' : i < ln.length := by omega
      rw [spec_l02Echelon.l1d_eq, if_pos (by rw [up_length]; omega), spec_l02Echelon.j2d_eq, if_pos (by decide), if_pos (by omega), if_pos (by rw [up_length]; omega), up_get hi', s_bit_v (hb _ (List.getElem_mem hi')) (by omega), bind_some',
        if_neg (by rw [bit_if_neg (h i hi)]; exact id), wrS hi' hl, e]
  exact key 0 (by omega)
theorem clr_lt62 {c r x : Nat} (hr : r < 4611686018427387904) (hx : x < 4611686018427387904) : clr c r x < 4611686018427387904 := by
  have := clr_lt (n := 62) (c := c) (r := r) (x := x) (by omega) (by omega)
  omega
theorem clr_set {c r : Nat} {a : List Nat} {i : Nat} (hi : i < a.length) (h : a[i].testBit c = false) : a.set i (clr c r a[i]) = a := by
  unfold clr
  rw [if_neg (by rw [h]; decide), List.set_getElem_self]
theorem s_clear_left {N k lead : Nat} (hk : k ≤ 61) {ln : List Nat} {out : List Int} (hl : ln.length ≤ 17592186044416) (hb : ∀ x ∈ ln, x < 4611686018427387904) (hlead : lead < 4611686018427387904) :
    spec_l02Echelon.l2d (N : Int) (up ln) out (k : Int) (lead : Int) 0 = spec_l02Echelon.l3d (N : Int) (up (ln.map (clr k lead))) out (k : Int) (lead : Int) 0 := by
  refine map_gen (F := fun a i => spec_l02Echelon.l2d (N : Int) (up a) out (k : Int) (lead : Int) i) (n := ln.length) (g := fun _ x => clr k lead x) (fun _ x => x < 4611686018427387904) ln rfl
    (fun i h => hb _ (List.getElem_mem h)) (fun _ _ h => clr_lt62 hlead h) ?_ ?_
  · intro i a hi ha hq _ _
    show spec_l02Echelon.l2d (N : Int) (up a) out (k : Int) (lead : Int) (i : Int) = spec_l02Echelon.l2d (N : Int) (up (a.set i (clr k lead a[i]))) out (k : Int) (lead : Int) ((i + 1 : Nat) : Int)
    rw [spec_l02Echelon.l2d_eq, if_pos (by rw [up_length]; omega), if_pos (by omega), up_get hi, s_bit_v (hq i hi) (by omega), bind_some', wrS (n := ln.length) (by omega) hl]
    by_cases c : a[i].testBit k = true
    · rw [if_pos (by rw [bit_if_pos c]; trivial), bxor (by have := hq i hi; omega) (by omega), Int.toNat_natCast, up_set]
      unfold clr; rw [if_pos c]
    · have c' := Bool.eq_false_iff.mpr c
      rw [if_neg (by rw [bit_if_neg c']; exact id), clr_set hi c']
  · show spec_l02Echelon.l2d (N : Int) (up (ln.mapIdx fun _ x => clr k lead x)) out (k : Int) (lead : Int) (ln.length : Int) = _
    rw [mapIdx_const, spec_l02Echelon.l2d_eq, if_neg (by rw [up_length, List.length_map]; omega)]
theorem s_clear_out {N k lead : Nat} (hk : k ≤ 61) {left : List Int} {on : List Nat} (hl : on.length ≤ 62) (hb : ∀ x ∈ on, x < 4611686018427387904) (hlead : lead < 4611686018427387904) :
    spec_l02Echelon.l3d (N : Int) left (up on) (k : Int) (lead : Int) 0 = spec_l02Echelon.l0d (N : Int) left (up (on.map (clr k lead) ++ [lead])) ((k + 1 : Nat) : Int) := by
  refine map_gen (F := fun a i => spec_l02Echelon.l3d (N : Int) left (up a) (k : Int) (lead : Int) i) (n := on.length) (g := fun _ x => clr k lead x) (fun _ x => x < 4611686018427387904) on rfl
    (fun i h => hb _ (List.getElem_mem h)) (fun _ _ h => clr_lt62 hlead h) ?_ ?_
  · intro i a hi ha hq _ _
    show spec_l02Echelon.l3d (N : Int) left (up a) (k : Int) (lead : Int) (i : Int) = spec_l02Echelon.l3d (N : Int) left (up (a.set i (clr k lead a[i]))) (k : Int) (lead : Int) ((i + 1 : Nat) : Int)
    rw [spec_l02Echelon.l3d_eq, if_pos (by rw [up_length]; omega), if_pos (by omega), up_get hi, s_bit_v (hq i hi) (by omega), bind_some', wrS (n := on.length) (by omega) (by omega)]
    by_cases c : a[i].testBit k = true
    · rw [if_pos (by rw [bit_if_pos c]; trivial), bxor (by have := hq i hi; omega) (by omega), Int.toNat_natCast, up_set]
      unfold clr; rw [if_pos c]
    · have c' := Bool.eq_false_iff.mpr c
      rw [if_neg (by rw [bit_if_neg c']; exact id), clr_set hi c']
  · show spec_l02Echelon.l3d (N : Int) left (up (on.mapIdx fun _ x => clr k lead x)) (k : Int) (lead : Int) (on.length : Int) = _
    rw [mapIdx_const, spec_l02Echelon.l3d_eq, if_neg (by rw [up_length, List.length_map]; omega), if_pos (by rw [up_length, List.length_map]; omega), wrS (n := 62) (by omega) (by omega), up_append]; rfl
theorem low_zero {N x : Nat} (h : x < 2 ^ N) (h0 : ∀ b, b < N → x.testBit b = false) : x = 0 := by
  apply Nat.eq_of_testBit_eq
  intro b
  rw [Nat.zero_testBit]
  rcases Nat.lt_or_ge b N with z | z
  · exact h0 b z
  · exact Nat.testBit_lt_two_pow (Nat.lt_of_lt_of_le h (Nat.pow_le_pow_right (by omega) z))
theorem pow62 {N x : Nat} (hN : N ≤ 62) (h : x < 2 ^ N) : x < 4611686018427387904 :=
  Nat.lt_of_lt_of_le h (Nat.le_trans (Nat.pow_le_pow_right (by omega) hN) (by decide))
/-- the first place that has the bit, or none -/
theorem first_bit (l : List Nat) (k : Nat) : (∀ j, (h : j < l.length) → l[j].testBit k = false) ∨
    ∃ j, ∃ h : j < l.length, l[j].testBit k = true ∧ ∀ t, (ht : t < j) → (l[t]'(by omega)).testBit k = false := by
  induction l with
  | nil => exact .inl fun j h => by simp at h
  | cons x l ih =>
    by_cases c : x.testBit k = true
    · exact .inr ⟨0, by simp, c, fun t ht => by omega⟩
    · have c' := Bool.eq_false_iff.mpr c
      rcases ih with ih | ⟨j, h, a, b⟩
      · refine .inl fun j h => ?_
        cases j with
        | zero => exact c'
        | succ j => exact ih j (by simpa using h)
      · refine .inr ⟨j + 1, by simpa using h, a, fun t ht => ?_⟩
        cases t with
        | zero => exact c'
        | succ t => exact b t (by omega)
theorem s_ech_loop {N : Nat} (hN : N ≤ 62) : ∀ k, k ≤ N → ∀ (left out : List Nat), left.length ≤ 17592186044416 → (∀ x ∈ left, x < 2 ^ N ∧ ∀ b, b < k → x.testBit b = false) →
    (∀ x ∈ out, x < 2 ^ N) → out.length ≤ k → (∃ C, RED out C ∧ ∀ d ∈ C, d < k) →
    ∃ R C, spec_l02Echelon.l0d (N : Int) (up left) (up out) (k : Int) = some (up R) ∧ RED R C ∧ (∀ v, Sp R v ↔ Sp (out ++ left) v) ∧ (∀ x ∈ R, x < 2 ^ N) ∧ R.length ≤ N ∧ (∀ d ∈ C, d < N) := by
  apply down
  · intro left out hll hleft hout hlen ⟨C, hC, hd⟩
    refine ⟨out, C, ?_, hC, fun v => ⟨fun h => h.mono fun r hr => by simp [hr], fun h => h.sub fun r hr => ?_⟩, hout, hlen, hd⟩
    · rw [spec_l02Echelon.l0d_eq, if_neg (by omega)]
    · rcases List.mem_append.mp hr with hr | hr
      · exact Sp.mem hr
      · rw [low_zero (hleft r hr).1 (hleft r hr).2]; exact Sp.zero
  · intro k hk ih left out hll hleft hout hlen ⟨C, hC, hd⟩
    have b62 : ∀ x ∈ left, x < 4611686018427387904 := fun x hx => pow62 hN (hleft x hx).1
    rw [spec_l02Echelon.l0d_eq, if_pos (by omega)]
    rcases first_bit left k with h | ⟨j, hj, hbit, hfirst⟩
    · rw [s_find_none (by omega) hll b62 h]
      refine ih left out hll (fun x hx => ⟨(hleft x hx).1, fun b hb => ?_⟩) hout (by omega) ⟨C, hC, fun d hd' => Nat.lt_succ_of_lt (hd d hd')⟩
      rcases Nat.lt_or_ge b k with z | z
      · exact (hleft x hx).2 b z
      · obtain ⟨t, ht, e⟩ := List.getElem_of_mem hx
        rw [show b = k by omega, ← e]; exact h t ht
    · obtain ⟨lead, hlead⟩ : ∃ lead, lead = left[j] := ⟨_, rfl⟩
      have hmem : lead ∈ left := hlead ▸ List.getElem_mem hj
      have hl1 := (hleft lead hmem).1
      have hl2 := (hleft lead hmem).2
      rw [← hlead] at hbit
      have bset : ∀ x ∈ left.set j 0, x < 2 ^ N ∧ ∀ b, b < k → x.testBit b = false := by
        intro x hx
        rcases List.mem_or_eq_of_mem_set hx with hx | rfl
        · exact hleft x hx
        · exact ⟨Nat.two_pow_pos N, fun b _ => Nat.zero_testBit b⟩
      rw [s_find_some (by omega) hll b62 hj (by rw [← hlead]; exact hbit) hfirst, ← hlead,
        s_clear_left (by omega) (by rw [List.length_set]; exact hll) (fun x hx => pow62 hN (bset x hx).1) (pow62 hN hl1),
        s_clear_out (by omega) (by omega) (fun x hx => pow62 hN (hout x hx)) (pow62 hN hl1)]
      obtain ⟨R, C', e, hR, hs, hb, hlen', hd'⟩ := ih ((left.set j 0).map (clr k lead)) (out.map (clr k lead) ++ [lead]) (by simp; exact hll)
        (by
          intro x hx
          obtain ⟨y, hy, rfl⟩ := List.mem_map.mp hx
          refine ⟨clr_lt hl1 (bset y hy).1, fun b hb => ?_⟩
          rcases Nat.lt_or_ge b k with z | z
          · rw [clr_low (hl2 b z)]; exact (bset y hy).2 b z
          · rw [show b = k by omega]; exact clr_bit hbit)
        (by
          intro x hx
          rcases List.mem_append.mp hx with hx | hx
          · obtain ⟨y, hy, rfl⟩ := List.mem_map.mp hx
            exact clr_lt hl1 (hout y hy)
          · rw [List.mem_singleton] at hx; rw [hx]; exact hl1)
        (by simp; omega)
        ⟨C ++ [k], RED.snoc (hC.clr (fun d h => hl2 d (hd d h)) (fun d h b hb => hl2 b (Nat.lt_trans hb (hd d h)))) hbit hl2 hd (by
            intro s hs
            obtain ⟨y, hy, rfl⟩ := List.mem_map.mp hs
            exact clr_bit hbit), by
          intro d h
          rcases List.mem_append.mp h with h | h
          · exact Nat.lt_succ_of_lt (hd d h)
          · rw [List.mem_singleton] at h; omega⟩
      refine ⟨R, C', e, hR, fun v => (hs v).trans ⟨fun h => h.sub fun r hr => ?_, fun h => h.sub fun r hr => ?_⟩, hb, hlen', hd'⟩
      · have sl : Sp (out ++ left) lead := Sp.mem (by simp [hmem])
        rcases List.mem_append.mp hr with hr | hr
        · rcases List.mem_append.mp hr with hr | hr
          · obtain ⟨y, hy, rfl⟩ := List.mem_map.mp hr
            exact Sp.clr sl (Sp.mem (by simp [hy]))
          · rw [List.mem_singleton] at hr; rw [hr]; exact sl
        · obtain ⟨y, hy, rfl⟩ := List.mem_map.mp hr
          refine Sp.clr sl ?_
          rcases List.mem_or_eq_of_mem_set hy with hy | rfl
          · exact Sp.mem (by simp [hy])
          · exact Sp.zero
      · have sl : Sp (List.map (clr k lead) out ++ [lead] ++ List.map (clr k lead) (left.set j 0)) lead := Sp.mem (by simp)
        rcases List.mem_append.mp hr with hr | hr
        · exact Sp.of_clr sl (Sp.mem (List.mem_append.mpr (.inl (List.mem_append.mpr (.inl (List.mem_map.mpr ⟨r, hr, rfl⟩))))))
        · obtain ⟨t, ht, e⟩ := List.getElem_of_mem hr
          by_cases c : j = t
          · subst c; rw [← e, ← hlead]; exact sl
          · refine Sp.of_clr sl (Sp.mem (List.mem_append.mpr (.inr (List.mem_map.mpr ⟨r, ?_, rfl⟩))))
            rw [← e, ← List.getElem_set_ne (l := left) (a := 0) c (by simpa using ht)]
            exact List.getElem_mem _
theorem s_ech_v {N : Nat} (hN : N ≤ 62) {ln : List Nat} (hl : ln.length ≤ 1048576) (hb : ∀ x ∈ ln, x < 2 ^ N) :
    ∃ R C, spec_l02Echelon.d (N : Int) (up ln) = some (up R) ∧ RED R C ∧ (∀ v, Sp R v ↔ Sp ln v) ∧ (∀ x ∈ R, x < 2 ^ N) ∧ R.length ≤ N ∧ (∀ d ∈ C, d < N) := by
  obtain ⟨R, C, e, h⟩ := s_ech_loop hN 0 (by omega) ln [] (by omega) (fun x hx => ⟨hb x hx, fun b h => by omega⟩) (fun x hx => nomatch hx) (by simp) ⟨[], trivial, fun d hd => nomatch hd⟩
  refine ⟨R, C, ?_, by simpa using h⟩
  rw [spec_l02Echelon.d_eq]
  unfold spec_l00Own.f
  rw [bind_some', if_pos (by simp [up_length]; omega), bind_some', List.nil_append]
  exact e
theorem i_bit_v {a c : Nat} (ha : a < 4611686018427387904) (hc : c ≤ 62) : impl_echelon_1.f (a : Int) (c : Int) = some (a.testBit c) := by
  unfold impl_echelon_1.f
  rw [if_pos (by omega), bit_test (by omega) (by omega)]
  cases a.testBit c <;> simp
theorem i_find_v {m : List Nat} {c : Nat} (hc : c ≤ 61) (hl : m.length ≤ 17592186044416) (hb : ∀ x ∈ m, x < 4611686018427387904) :
    ∃ v, slices_IndexFunc_int64_int64_AT_impl_echelon_1.d (up m) (c : Int) = some v ∧ ((v < 0 ∧ ∀ j, (h : j < m.length) → m[j].testBit c = false) ∨ ∃ j, ∃ h : j < m.length, v = (j : Int) ∧ m[j].testBit c = true) := by
  rw [slices_IndexFunc_int64_int64_AT_impl_echelon_1.d_eq]
  obtain ⟨v, e, d, s⟩ := index_gen (F := fun i => slices_IndexFunc_int64_int64_AT_impl_echelon_1.l0d (up m) ((up m).length : Int) i (c : Int)) (n := m.length) (q := fun i => (m.getD i 0).testBit c)
    (by show slices_IndexFunc_int64_int64_AT_impl_echelon_1.l0d (up m) ((up m).length : Int) (m.length : Int) (c : Int) = _
        rw [slices_IndexFunc_int64_int64_AT_impl_echelon_1.l0d_eq, if_neg (by rw [up_length]; omega)])
    (by intro i hi
        show slices_IndexFunc_int64_int64_AT_impl_echelon_1.l0d (up m) ((up m).length : Int) (i : Int) (c : Int) = _
        have hg : m.getD i 0 = m[i] := by simp [List.getD_eq_getElem?_getD, hi]
        rw [slices_IndexFunc_int64_int64_AT_impl_echelon_1.l0d_eq, if_pos (by rw [up_length]; omega), if_pos (by omega), if_pos (by rw [up_length]; omega), up_get hi, i_bit_v (hb _ (List.getElem_mem hi)) (by omega), bind_some', wrS hi hl, hg])
  refine ⟨v, e, ?_⟩
  by_cases h : ∀ i, i < m.length → (m.getD i 0).testBit c = false
  · left
    rw [decide_eq_true h] at d
    refine ⟨by have : ¬ v ≥ 0 := by simpa using d
               omega, fun j hj => ?_⟩
    have := h j hj
    rwa [List.getD_eq_getElem?_getD, List.getElem?_eq_getElem hj] at this
  · right
    rw [decide_eq_false h] at d
    have hv : 0 ≤ v := by simpa using d
    obtain ⟨a1, a2, _⟩ := s hv
    refine ⟨v.toNat, a1, by omega, ?_⟩
    rwa [List.getD_eq_getElem?_getD, List.getElem?_eq_getElem a1] at a2
/-- two places change their rows -/
def swp (x : List Nat) (d p : Nat) (hd : d < x.length) (hp : p < x.length) : List Nat := (x.set d x[p]).set p x[d]
theorem swp_length {x : List Nat} {d p : Nat} (hd : d < x.length) (hp : p < x.length) : (swp x d p hd hp).length = x.length := by simp [swp]
theorem swp_get {x : List Nat} {d p : Nat} (hd : d < x.length) (hp : p < x.length) {j : Nat} (h : j < (swp x d p hd hp).length) :
    (swp x d p hd hp)[j] = if p = j then x[d] else if d = j then x[p] else x[j]'(by rw [swp_length] at h; exact h) := by
  have h2 : j < ((x.set d x[p]).set p x[d]).length := h
  have e : ((x.set d x[p]).set p x[d])[j]'h2 = if p = j then x[d] else if d = j then x[p] else x[j]'(by rw [swp_length] at h; exact h) := by
    rw [List.getElem_set, List.getElem_set]
  exact e
theorem swp_mem {x : List Nat} {d p : Nat} (hd : d < x.length) (hp : p < x.length) {r : Nat} (h : r ∈ swp x d p hd hp) : r ∈ x := by
  obtain ⟨j, hj, e⟩ := List.getElem_of_mem h
  rw [swp_get] at e
  split at e
  · rw [← e]; exact List.getElem_mem _
  · split at e
    · rw [← e]; exact List.getElem_mem _
    · rw [← e]; exact List.getElem_mem _
def clrBut (d c lead : Nat) (i x : Nat) : Nat := if i = d then x else clr c lead x
theorem i_clear {x : List Nat} {d c : Nat} (hc : c ≤ 61) (hd : d < x.length) (hl : x.length ≤ 17592186044416) (hb : ∀ y ∈ x, y < 4611686018427387904) :
    impl_echelon.l1d (up x) (d : Int) (x.length : Int) 0 (c : Int) = impl_echelon.l0d (up (x.mapIdx (clrBut d c x[d]))) ((d + 1 : Nat) : Int) ((c + 1 : Nat) : Int) := by
  have hlead := hb _ (List.getElem_mem hd)
  refine map_gen (F := fun a i => impl_echelon.l1d (up a) (d : Int) (x.length : Int) i (c : Int)) (n := x.length) (g := clrBut d c x[d]) (fun _ y => y < 4611686018427387904) x rfl
    (fun i h => hb _ (List.getElem_mem h)) (fun i y h => ?_) ?_ ?_
  · unfold clrBut
    split
    · exact h
    · exact clr_lt62 hlead h
  · intro i a hi ha hq hge hlt
    show impl_echelon.l1d (up a) (d : Int) (x.length : Int) (i : Int) (c : Int) = impl_echelon.l1d (up (a.set i (clrBut d c x[d] i a[i]))) (d : Int) (x.length : Int) ((i + 1 : Nat) : Int) (c : Int)
    have had : a[d]'(by omega) = x[d] := by
      rcases Nat.lt_or_ge d i with z | z
      · rw [hlt d z (by omega) hd]; unfold clrBut; rw [if_pos rfl]
      · exact hge d z (by omega) hd
    rw [impl_echelon.l1d_eq, if_pos (by omega)]
    by_cases e : i = d
    · rw [if_pos (by omega), wrS (n := x.length) (by omega) hl]
      unfold clrBut
      rw [if_pos e, List.set_getElem_self]
    · rw [if_neg (by omega), if_pos (by omega), if_pos (by rw [up_length]; omega), if_pos (by omega), up_get hi, bit_test (by have := hq i hi; omega) (by omega), wrS (n := x.length) (by omega) hl, up_get (show d < a.length by omega), had]
      unfold clrBut
      rw [if_neg e]
      by_cases t : a[i].testBit c = true
      · rw [if_pos (by rw [bit_if_pos t]; trivial), if_pos (by omega), if_pos (by rw [up_length]; omega), bxor (by have := hq i hi; omega) (by omega), Int.toNat_natCast, up_set]
        unfold clr; rw [if_pos t]
      · have t' := Bool.eq_false_iff.mpr t
        rw [if_neg (by rw [bit_if_neg t']; exact id), clr_set hi t']
  · show impl_echelon.l1d (up (x.mapIdx (clrBut d c x[d]))) (d : Int) (x.length : Int) (x.length : Int) (c : Int) = _
    rw [impl_echelon.l1d_eq, if_neg (by omega), wrS (n := x.length) (by omega) hl, wrS (n := 62) (by omega) (by omega)]
theorem i_ech_end {N : Nat} (hN : N ≤ 62) {x : List Nat} {d : Nat} {c : Int} (hd : d ≤ x.length) : impl_echelon.j1d (up x) (d : Int) false c = some (up (x.take d)) := by
  rw [impl_echelon.j1d_eq, if_neg (by decide), if_pos (by omega), if_pos (by rw [up_length]; omega), Int.toNat_natCast, up_take]
theorem i_ech_loop {N : Nat} (hN : N ≤ 62) : ∀ c, c ≤ 62 → ∀ (x : List Nat) (d : Nat), x.length ≤ 17592186044416 → d ≤ x.length → (∀ y ∈ x, y < 2 ^ N) →
    (∀ j, d ≤ j → (h : j < x.length) → ∀ b, b < c → x[j].testBit b = false) → (∃ C, RED (x.take d) C ∧ ∀ e ∈ C, e < c) →
    ∃ R C, impl_echelon.l0d (up x) (d : Int) (c : Int) = some (up R) ∧ RED R C ∧ (∀ v, Sp R v ↔ Sp x v) := by
  apply down
  · intro x d hl hd hb hlow ⟨C, hC, _⟩
    refine ⟨x.take d, C, ?_, hC, fun v => ⟨fun h => h.mono fun r hr => List.mem_of_mem_take hr, fun h => h.sub fun r hr => ?_⟩⟩
    · rw [impl_echelon.l0d_eq, if_neg (by omega), i_ech_end hN hd]
    · obtain ⟨j, hj, e⟩ := List.getElem_of_mem hr
      rcases Nat.lt_or_ge j d with z | z
      · refine Sp.mem ?_
        have hjt : j < (x.take d).length := by rw [List.length_take]; omega
        have := List.getElem_mem hjt
        rw [List.getElem_take] at this
        rw [← e]; exact this
      · have : r = 0 := low_zero (N := 62) (Nat.lt_of_lt_of_le (hb r hr) (Nat.pow_le_pow_right (by omega) hN)) (by rw [← e]; exact hlow j z hj)
        rw [this]; exact Sp.zero
  · intro c hc ih x d hl hd hb hlow ⟨C, hC, hCc⟩
    have b62 : ∀ y ∈ x, y < 4611686018427387904 := fun y hy => pow62 hN (hb y hy)
    rw [impl_echelon.l0d_eq, if_pos (by omega)]
    by_cases hdl : d < x.length
    · rw [decide_eq_true (by rw [up_length]; omega), impl_echelon.j1d_eq, if_pos rfl, if_pos (by omega), if_pos (by rw [up_length]; omega), Int.toNat_natCast, up_drop]
      obtain ⟨v, ev, hv⟩ := i_find_v (m := x.drop d) (c := c) (by omega) (by rw [List.length_drop]; omega) (fun y hy => b62 y (List.mem_of_mem_drop hy))
      rw [ev, bind_some']
      rcases hv with ⟨hv, hnone⟩ | ⟨t, ht, rfl, hbit⟩
      · rw [if_pos hv, wrS (n := 62) (by omega) (by omega)]
        refine ih x d hl hd hb (fun j hj h b hbc => ?_) ⟨C, hC, fun e he => Nat.lt_succ_of_lt (hCc e he)⟩
        rcases Nat.lt_or_ge b c with z | z
        · exact hlow j hj h b z
        · have := hnone (j - d) (by rw [List.length_drop]; omega)
          rw [List.getElem_drop] at this
          simp only [show d + (j - d) = j by omega] at this
          rw [show b = c by omega]; exact this
      · rw [List.length_drop] at ht
        rw [List.getElem_drop] at hbit
        have hp : d + t < x.length := by omega
        have ep : wrap64 ((d : Int) + (t : Int)) = ((d + t : Nat) : Int) := by rw [wr (by omega) (by omega)]; omega
        rw [if_neg (by omega), ep, if_pos (by omega), if_pos (by rw [up_length]; omega), if_pos (by rw [up_length]; omega), up_get hp, up_get hdl]
        simp only [Int.toNat_natCast]
        rw [up_set, up_set, up_length]
        obtain ⟨p, hpe⟩ : ∃ p, p = d + t := ⟨_, rfl⟩
        have hp' : p < x.length := by omega
        have esw : (x.set d (x[d + t]'hp)).set (d + t) x[d] = swp x d p hdl hp' := by subst hpe; rfl
        have hbit' : x[p].testBit c = true := by subst hpe; exact hbit
        rw [esw]
        obtain ⟨s, hs⟩ : ∃ s, s = swp x d p hdl hp' := ⟨_, rfl⟩
        rw [← hs]
        have hsl : s.length = x.length := by rw [hs, swp_length]
        have hsd : d < s.length := by omega
        have hg : ∀ j, (h : j < s.length) → s[j] = if p = j then x[d] else if d = j then x[p] else x[j]'(by omega) := by
          intro j h; subst hs; exact swp_get hdl hp' h
        have hsm : ∀ r ∈ s, r ∈ x := fun r hr => swp_mem hdl hp' (hs ▸ hr)
        have hdp : d ≤ p := by omega
        obtain ⟨lead, hlead⟩ : ∃ lead, lead = s[d] := ⟨_, rfl⟩
        have elead : lead = x[p] := by
          rw [hlead, hg d hsd]
          by_cases z : p = d
          · rw [if_pos z]; simp only [z]
          · rw [if_neg z, if_pos rfl]
        have lbit : lead.testBit c = true := by rw [elead]; exact hbit'
        have llow : ∀ b, b < c → lead.testBit b = false := by rw [elead]; exact hlow p hdp hp'
        have llt : lead < 2 ^ N := by rw [elead]; exact hb _ (List.getElem_mem hp')
        have hlen : (s.mapIdx (clrBut d c lead)).length = x.length := by rw [List.length_mapIdx]; exact hsl
        have hm : ∀ j, (h : j < (s.mapIdx (clrBut d c lead)).length) → (s.mapIdx (clrBut d c lead))[j] = if j = d then lead else clr c lead (s[j]'(by rw [List.length_mapIdx] at h; exact h)) := by
          intro j h
          rw [List.getElem_mapIdx]
          unfold clrBut
          by_cases z : j = d
          · rw [if_pos z, if_pos z]; refine Eq.trans ?_ hlead.symm; simp only [z]
          · rw [if_neg z, if_neg z]
        have i1 := i_clear (x := s) (d := d) (c := c) (by omega) hsd (by omega) (fun y hy => b62 y (hsm y hy))
        rw [hsl] at i1
        rw [i1, ← hlead]
        have htake : (s.mapIdx (clrBut d c lead)).take (d + 1) = (x.take d).map (clr c lead) ++ [lead] := by
          apply List.ext_getElem
          · simp; omega
          · intro j h1 h2
            rw [List.length_take, hlen] at h1
            rw [List.getElem_take, hm]
            by_cases z : j = d
            · have hle : ((x.take d).map (clr c lead)).length ≤ j := by rw [List.length_map, List.length_take, z]; exact Nat.min_le_left _ _
              rw [if_pos z, List.getElem_append_right hle]
              simp
            · have hjd : j < d := by omega
              rw [if_neg z, List.getElem_append_left (by simp; omega), List.getElem_map, List.getElem_take, hg j (by omega), if_neg (by omega), if_neg (by omega)]
        obtain ⟨R, C', e, hR, hSp⟩ := ih (s.mapIdx (clrBut d c lead)) (d + 1) (by rw [hlen]; exact hl) (by rw [hlen]; omega)
          (by
            intro y hy
            obtain ⟨j, hj, ej⟩ := List.getElem_of_mem hy
            rw [hm j hj] at ej
            rw [← ej]
            split
            · exact llt
            · exact clr_lt llt (hb _ (hsm _ (List.getElem_mem _))))
          (by
            intro j hj h b hbc
            have hjs : j < s.length := by rw [hlen] at h; omega
            rw [hm j h, if_neg (by omega)]
            rcases Nat.lt_or_ge b c with z | z
            · rw [clr_low (llow b z), hg j hjs]
              split
              · exact hlow d (Nat.le_refl _) hdl b z
              · rw [if_neg (by omega)]; exact hlow j (by omega) (by omega) b z
            · rw [show b = c by omega]; exact clr_bit lbit)
          ⟨C ++ [c], by
            rw [htake]
            exact RED.snoc (hC.clr (fun e h => llow e (hCc e h)) (fun e h b hb' => llow b (Nat.lt_trans hb' (hCc e h)))) lbit llow hCc (by
              intro y hy
              obtain ⟨z, hz, rfl⟩ := List.mem_map.mp hy
              exact clr_bit lbit), by
            intro e h
            rcases List.mem_append.mp h with h | h
            · exact Nat.lt_succ_of_lt (hCc e h)
            · rw [List.mem_singleton] at h; omega⟩
        refine ⟨R, C', e, hR, fun v => (hSp v).trans ⟨fun h => h.sub fun r hr => ?_, fun h => h.sub fun r hr => ?_⟩⟩
        · have sl : Sp x lead := by rw [elead]; exact Sp.mem (List.getElem_mem _)
          obtain ⟨j, hj, ej⟩ := List.getElem_of_mem hr
          rw [hm j hj] at ej
          rw [← ej]
          split
          · exact sl
          · exact Sp.clr sl (Sp.mem (hsm _ (List.getElem_mem _)))
        · have hdn : d < (s.mapIdx (clrBut d c lead)).length := by rw [hlen]; exact hdl
          have sl : Sp (s.mapIdx (clrBut d c lead)) lead := by
            have := hm d hdn
            rw [if_pos rfl] at this
            have hmem := Sp.mem (List.getElem_mem hdn)
            rw [this] at hmem
            exact hmem
          have sj : ∀ j, (h : j < s.length) → Sp (s.mapIdx (clrBut d c lead)) s[j] := by
            intro j h
            by_cases z : j = d
            · have ez : s[j] = lead := by rw [hlead]; simp only [z]
              rw [ez]; exact sl
            · have hj' : j < (s.mapIdx (clrBut d c lead)).length := by rw [List.length_mapIdx]; exact h
              have := hm j hj'
              rw [if_neg z] at this
              refine Sp.of_clr (c := c) sl ?_
              rw [← this]; exact Sp.mem (List.getElem_mem hj')
          obtain ⟨j, hj, ej⟩ := List.getElem_of_mem hr
          rw [← ej]
          by_cases z : j = d
          · have hps : p < s.length := hsl.symm ▸ hp'
            have := sj p hps
            rw [hg p hps, if_pos rfl] at this
            have ez : x[j] = x[d] := by simp only [z]
            rw [ez]; exact this
          · by_cases z2 : j = p
            · have ez : x[j] = x[p] := by simp only [z2]
              rw [ez, ← elead]; exact sl
            · have hjs : j < s.length := hsl.symm ▸ hj
              have := sj j hjs
              rw [hg j hjs, if_neg (fun e => z2 e.symm), if_neg (fun e => z e.symm)] at this
              exact this
    · rw [decide_eq_false (by rw [up_length]; omega), i_ech_end hN hd]
      refine ⟨x.take d, C, rfl, hC, fun v => ?_⟩
      rw [List.take_of_length_le (by omega)]
theorem i_ech_v {N : Nat} (hN : N ≤ 62) {ln : List Nat} (hl : ln.length ≤ 1048576) (hb : ∀ x ∈ ln, x < 2 ^ N) :
    ∃ R C, impl_echelon.d (up ln) = some (up R) ∧ RED R C ∧ (∀ v, Sp R v ↔ Sp ln v) := by
  rw [impl_echelon.d_eq]
  unfold slices_Clone_int64_int64.f
  rw [if_pos (by rw [up_length]; omega), bind_some']
  exact i_ech_loop hN 0 (by omega) ln 0 (by omega) (by omega) hb (fun j _ h b hb => by omega) ⟨[], trivial, fun d hd => nomatch hd⟩
/-- both sides: the one list of reduced rows with these sums -/
theorem ech_v {N : Nat} (hN : N ≤ 62) {ln : List Nat} (hl : ln.length ≤ 1048576) (hb : ∀ x ∈ ln, x < 2 ^ N) :
    ∃ R C, spec_l02Echelon.d (N : Int) (up ln) = some (up R) ∧ impl_echelon.d (up ln) = some (up R) ∧ RED R C ∧ (∀ v, Sp R v ↔ Sp ln v) ∧ (∀ x ∈ R, x < 2 ^ N) ∧ R.length ≤ N ∧ (∀ d ∈ C, d < N) := by
  obtain ⟨R, C, e, h, hs, hb', hl', hd⟩ := s_ech_v hN hl hb
  obtain ⟨R', C', e', h', hs'⟩ := i_ech_v hN hl hb
  obtain ⟨rfl, rfl⟩ := h.unique h' fun v => (hs v).trans (hs' v).symm
  exact ⟨R, C, e, e', h, hs, hb', hl', hd⟩
end Go.Proofs.Ythjfilmdobkmlaa.P
end
section
namespace Go.Proofs.Ythjfilmdobkmlaa.P
open Go.RowKit Go.Proofs.YthjfilmdobkmlaaW.PrintWords Go.Proofs.YthjfilmdobkmlaaW.PrintLast Go.Proofs.YthjfilmdobkmlaaW.PrintMore
set_option linter.unusedVariables false
set_option linter.unusedSimpArgs false
/-- a number of m places -/
def elemB (m x : Int) : Bool := decide (0 ≤ x) && decide (x < 2 ^ m.toNat)
theorem elems_up {N : Nat} {l : List Int} (h : l.all (elemB (N : Int)) = true) : ∃ ln : List Nat, l = up ln ∧ ∀ x ∈ ln, x < 2 ^ N := by
  rw [List.all_eq_true] at h
  have he : ∀ x ∈ l, 0 ≤ x ∧ x < 2 ^ N := fun x hx => by
    have := h x hx
    unfold elemB at this
    simpa using this
  refine ⟨l.map Int.toNat, (up_of fun x hx => (he x hx).1).symm, fun x hx => ?_⟩
  obtain ⟨y, hy, rfl⟩ := List.mem_map.mp hx
  have := he y hy
  have e : ((2 ^ N : Nat) : Int) = (2 : Int) ^ N := by simp
  omega
end Go.Proofs.Ythjfilmdobkmlaa.P
end
section
namespace Go.Proofs.Ythjfilmdobkmlaa.P
open Go.RowKit Go.Proofs.YthjfilmdobkmlaaW.PrintWords Go.Proofs.YthjfilmdobkmlaaW.PrintLast Go.Proofs.YthjfilmdobkmlaaW.PrintMore
set_option linter.unusedVariables false
set_option linter.unusedSimpArgs false
def matB (c : Int) (l : List Int) : Bool := (decide (1 ≤ c) && decide (c ≤ 10)) && (decide (l.length ≤ 10) && l.all (elemB c))
theorem mat_up {c : Int} {l : List Int} (h : matB c l = true) : ∃ N : Nat, ∃ ln : List Nat, c = (N : Int) ∧ 1 ≤ N ∧ N ≤ 10 ∧ l = up ln ∧ ln.length ≤ 10 ∧ ∀ x ∈ ln, x < 2 ^ N := by
  unfold matB at h
  simp only [Bool.and_eq_true, decide_eq_true_eq] at h
  obtain ⟨⟨h1, h2⟩, h3, h4⟩ := h
  obtain ⟨N, rfl⟩ : ∃ N : Nat, c = (N : Int) := ⟨c.toNat, by omega⟩
  obtain ⟨ln, rfl, hb⟩ := elems_up h4
  exact ⟨N, ln, rfl, by omega, by omega, rfl, by rwa [up_length] at h3, hb⟩
theorem matB_of {N : Nat} {ln : List Nat} (h1 : 1 ≤ N) (h2 : N ≤ 10) (hl : ln.length ≤ 10) (hb : ∀ x ∈ ln, x < 2 ^ N) : matB (N : Int) (up ln) = true := by
  unfold matB
  simp only [Bool.and_eq_true, decide_eq_true_eq, List.all_eq_true]
  refine ⟨⟨by omega, by omega⟩, by rw [up_length]; exact hl, fun x hx => ?_⟩
  obtain ⟨y, hy, rfl⟩ := List.mem_map.mp hx
  have := hb y hy
  have e : ((2 ^ N : Nat) : Int) = (2 : Int) ^ N := by simp
  unfold elemB
  simp only [Bool.and_eq_true, decide_eq_true_eq, Int.toNat_natCast]
  omega
theorem one_shl {N : Nat} (h : N ≤ 60) : shl .i64 1 (N : Int) = ((2 ^ N : Nat) : Int) := by
  have h2 : 2 ^ N ≤ 2 ^ 60 := Nat.pow_le_pow_right (by omega) h
  have := shl_nat (a := 1) (c := N) (by omega) (by omega)
  rw [Nat.one_mul] at this
  exact this
theorem full_v {c : Int} (h1 : 1 ≤ c) (h2 : c ≤ 10) : wrap64 (shl .i64 1 c - 1) = 2 ^ c.toNat - 1 := by
  obtain ⟨N, rfl⟩ : ∃ N : Nat, c = (N : Int) := ⟨c.toNat, by omega⟩
  have h3 : 2 ^ N ≤ 2 ^ 10 := Nat.pow_le_pow_right (by omega) (by omega)
  have e : ((2 ^ N : Nat) : Int) = (2 : Int) ^ N := by simp
  rw [one_shl (by omega), Int.toNat_natCast, ← e]
  generalize 2 ^ N = G at h3
  rw [wr (by omega) (by omega)]
theorem within_v (x b : Int) : (if x ≥ 0 then some (decide (x ≤ b - 1)) else some false) = some (decide (0 ≤ x) && decide (x < b)) := by
  by_cases c : x ≥ 0
  · rw [if_pos c, decide_eq_true (show 0 ≤ x from c), Bool.true_and]
    congr 1; apply decide_eq_decide.mpr; omega
  · rw [if_neg c, decide_eq_false (show ¬ 0 ≤ x from c), Bool.false_and]
theorem i_mhas_v {c : Int} (h1 : 1 ≤ c) (h2 : c ≤ 10) (l : List Int) (x : Int) : impl_Matrix_has.f c l x = some (elemB c x) := by
  unfold impl_Matrix_has.f impl_within.f elemB
  rw [if_pos (by omega), full_v h1 h2, within_v, bind_some']
theorem i_ValidMatrix_v (c : Int) {l : List Int} (hl : l.length ≤ 17592186044416) : impl_ValidMatrix.d c l = some (matB c l) := by
  rw [impl_ValidMatrix.d_eq]
  unfold impl_within.f matB
  by_cases h1 : 1 ≤ c
  · rw [if_pos (by omega), bind_some']
    by_cases h2 : c ≤ 10
    · rw [if_pos (by simpa using h2)]
      by_cases h3 : l.length ≤ 10
      · rw [if_pos (by omega), slices_ContainsFunc_int64_int64_AT_impl_ValidMatrix_1.d_eq, slices_IndexFunc_int64_int64_AT_impl_ValidMatrix_1.d_eq]
        obtain ⟨v, e, d, _⟩ := index_gen (F := fun i => slices_IndexFunc_int64_int64_AT_impl_ValidMatrix_1.l0d l (l.length : Int) i c l) (n := l.length) (q := fun i => !(elemB c (rd l (i : Int))))
          (by show slices_IndexFunc_int64_int64_AT_impl_ValidMatrix_1.l0d l (l.length : Int) (l.length : Int) c l = _
              rw [slices_IndexFunc_int64_int64_AT_impl_ValidMatrix_1.l0d_eq, if_neg (by omega)])
          (by intro i hi
              show slices_IndexFunc_int64_int64_AT_impl_ValidMatrix_1.l0d l (l.length : Int) (i : Int) c l = _
              rw [slices_IndexFunc_int64_int64_AT_impl_ValidMatrix_1.l0d_eq, if_pos (by omega), if_pos (by omega), if_pos (by omega)]
              unfold impl_ValidMatrix_1.f
              rw [i_mhas_v h1 h2, bind_some', bind_some', wrS hi hl])
        have e' : slices_IndexFunc_int64_int64_AT_impl_ValidMatrix_1.l0d l (l.length : Int) 0 c l = some v := e
        rw [e', bind_some', bind_some', d, Bool.not_not, decide_eq_true h1, decide_eq_true h2, decide_eq_true h3]
        simp only [Bool.true_and]
        congr 1
        rw [← all_get]
        apply decide_eq_decide.mpr
        simp only [Bool.not_eq_false']
      · rw [if_neg (by omega), decide_eq_false h3]; simp
    · rw [if_neg (by simpa using h2), decide_eq_false h2]; simp
  · rw [if_neg (by omega), bind_some', if_neg (by decide), decide_eq_false h1]; simp
theorem s_l02Ok_v (c : Int) {l : List Int} (hl : l.length ≤ 17592186044416) : spec_l02Ok.d c l = some (matB c l) := by
  rw [spec_l02Ok.d_eq]
  unfold spec_l00In.f matB
  by_cases h1 : 1 ≤ c
  · rw [if_pos (by omega), bind_some']
    by_cases h2 : c ≤ 10
    · rw [if_pos (by simpa using h2), spec_l02Ok.j0d_eq]
      by_cases h3 : l.length ≤ 10
      · rw [if_neg (by simp; omega)]
        have := all_gen (F := fun i => spec_l02Ok.l0d i c l) (n := l.length) (q := fun i => elemB c (rd l (i : Int)))
          (by show spec_l02Ok.l0d (l.length : Int) c l = _
              rw [spec_l02Ok.l0d_eq, if_neg (by omega)])
          (by intro i hi
              show spec_l02Ok.l0d (i : Int) c l = _
              unfold elemB
              rw [spec_l02Ok.l0d_eq, if_pos (by omega), if_pos (by omega), u64_id (by omega) (by omega), if_pos (by omega), full_v h1 h2]
              unfold spec_l00In.f
              rw [within_v, bind_some', wrS hi hl])
        have this' : spec_l02Ok.l0d 0 c l = some (decide (∀ i, i < l.length → elemB c (rd l (i : Int)) = true)) := this
        rw [this', decide_eq_true h1, decide_eq_true h2, decide_eq_true h3]
        simp only [Bool.true_and]
        congr 1
        exact all_get
      · rw [if_pos (by simp; omega), decide_eq_false h3]; simp
    · rw [if_neg (by simpa using h2), spec_l02Ok.j0d_eq, if_pos rfl, decide_eq_false h2]; simp
  · rw [if_neg (by omega), bind_some', if_neg (by decide), spec_l02Ok.j0d_eq, if_pos rfl, decide_eq_false h1]; simp
end Go.Proofs.Ythjfilmdobkmlaa.P
end
section
namespace Go.Proofs.Ythjfilmdobkmlaa.P
open Go.RowKit Go.Proofs.YthjfilmdobkmlaaW.PrintWords Go.Proofs.YthjfilmdobkmlaaW.PrintLast Go.Proofs.YthjfilmdobkmlaaW.PrintMore
set_option linter.unusedVariables false
set_option linter.unusedSimpArgs false
theorem s_same_v {a b : List Int} (h : a.length ≤ 17592186044416) : spec_l00Same.d a b = some (decide (a = b)) := by
  rw [spec_l00Same.d_eq]
  by_cases hl : a.length = b.length
  · rw [if_pos (by omega)]
    have key : ∀ i, i ≤ a.length → spec_l00Same.l0d a b (i : Int) = some (decide (a.drop i = b.drop i)) := by
      apply down
      · rw [spec_l00Same.l0d_eq, if_neg (by omega)]; simp [hl]
      · intro i hi ih
        have hb : i < b.length := by omega
        rw [spec_l00Same.l0d_eq, if_pos (by omega), if_pos (by omega), if_pos (by omega), wrS hi h, rd_get hi, rd_get hb, ih]
        rw [List.drop_eq_getElem_cons hi, List.drop_eq_getElem_cons hb]
        by_cases c : a[i] = b[i]
        · rw [if_pos c]; simp only [List.cons.injEq, c, true_and]
        · rw [if_neg c]; simp only [List.cons.injEq, c, false_and, decide_false]
    have := key 0 (by omega)
    simpa using this
  · rw [if_neg (by omega)]
    have : a ≠ b := fun e => hl (by rw [e])
    simp [this]
theorem i_equal_v {a b : List Int} (h : a.length ≤ 17592186044416) : slices_Equal_int64_int64.d a b = some (decide (a = b)) := by
  rw [slices_Equal_int64_int64.d_eq]
  by_cases hl : a.length = b.length
  · rw [if_pos (by omega)]
    have key : ∀ i, i ≤ a.length → slices_Equal_int64_int64.l0d a b (a.length : Int) (i : Int) = some (decide (a.drop i = b.drop i)) := by
      apply down
      · rw [slices_Equal_int64_int64.l0d_eq, if_neg (by omega)]; simp [hl]
      · intro i hi ih
        have hb : i < b.length := by omega
        rw [slices_Equal_int64_int64.l0d_eq, if_pos (by omega), if_pos (by omega), if_pos (by omega), if_pos (by omega), wrS hi h, rd_get hi, rd_get hb, ih]
        rw [List.drop_eq_getElem_cons hi, List.drop_eq_getElem_cons hb]
        by_cases c : a[i] = b[i]
        · rw [if_pos c]; simp only [List.cons.injEq, c, true_and]
        · rw [if_neg c]; simp only [List.cons.injEq, c, false_and, decide_false]
    have := key 0 (by omega)
    simpa using this
  · rw [if_neg (by omega)]
    have : a ≠ b := fun e => hl (by rw [e])
    simp [this]
/-- a matrix in echelon form -/
noncomputable def spaceB (c : Int) (l : List Int) : Bool := matB c l && decide (impl_echelon.d l = some l)
theorem i_IsSpace_v (c : Int) {l : List Int} (hl : l.length ≤ 17592186044416) : impl_IsSpace.d c l = some (spaceB c l) := by
  rw [impl_IsSpace.d_eq, i_ValidMatrix_v c hl, bind_some']
  unfold spaceB
  by_cases h : matB c l = true
  · rw [if_pos h, h, Bool.true_and]
    obtain ⟨N, ln, rfl, hN1, hN, rfl, hlen, hb⟩ := mat_up h
    obtain ⟨R, C, e1, e2, _, _, _, hR, _⟩ := ech_v (N := N) (by omega) (ln := ln) (by omega) hb
    rw [e2, bind_some', i_equal_v (by rw [up_length]; omega), bind_some']
    congr 1; apply decide_eq_decide.mpr
    exact ⟨fun e => by rw [e], fun e => Option.some.inj e⟩
  · rw [if_neg h, Bool.eq_false_iff.mpr h]; rfl
theorem s_l02Space_v (c : Int) {l : List Int} (hl : l.length ≤ 17592186044416) : spec_l02Space.d c l = some (spaceB c l) := by
  rw [spec_l02Space.d_eq, s_l02Ok_v c hl, bind_some']
  unfold spaceB
  by_cases h : matB c l = true
  · rw [if_pos h, h, Bool.true_and]
    obtain ⟨N, ln, rfl, hN1, hN, rfl, hlen, hb⟩ := mat_up h
    obtain ⟨R, C, e1, e2, _, _, _, hR, _⟩ := ech_v (N := N) (by omega) (ln := ln) (by omega) hb
    rw [e1, bind_some', s_same_v (by rw [up_length]; omega), bind_some', e2]
    congr 1; apply decide_eq_decide.mpr
    exact ⟨fun e => by rw [e], fun e => Option.some.inj e⟩
  · rw [if_neg h, Bool.eq_false_iff.mpr h]; rfl
end Go.Proofs.Ythjfilmdobkmlaa.P
end
section
namespace Go.Proofs.Ythjfilmdobkmlaa.P
set_option linter.unusedVariables false
set_option linter.unusedSimpArgs false
/-- the sum of the n lowest bits -/
def par : Nat → Nat → Bool
  | 0, _ => false
  | n + 1, x => xor (x.testBit 0) (par n (x / 2))
theorem par_zero : ∀ n, par n 0 = false
  | 0 => rfl
  | n + 1 => by rw [par, Nat.zero_div, par_zero n]; simp
theorem xor_half (x y : Nat) : (x ^^^ y) / 2 = x / 2 ^^^ y / 2 := by
  apply Nat.eq_of_testBit_eq
  intro i
  rw [Nat.testBit_xor, Nat.testBit_div_two, Nat.testBit_div_two, Nat.testBit_div_two, Nat.testBit_xor]
theorem par_xor : ∀ n x y, par n (x ^^^ y) = xor (par n x) (par n y)
  | 0, _, _ => rfl
  | n + 1, x, y => by
    rw [par, par, par, xor_half, par_xor n, Nat.testBit_xor]
    cases x.testBit 0 <;> cases y.testBit 0 <;> cases par n (x / 2) <;> cases par n (y / 2) <;> rfl
theorem pow_half (k : Nat) : 2 ^ (k + 1) / 2 = 2 ^ k := by rw [Nat.pow_succ]; omega
theorem par_pow : ∀ n k, k < n → par n (2 ^ k) = true
  | 0, _, h => by omega
  | n + 1, 0, _ => by rw [par, show (2 ^ 0 : Nat) / 2 = 0 from rfl, par_zero]; rfl
  | n + 1, k + 1, h => by
    rw [par, pow_half, par_pow n k (by omega), Nat.testBit_two_pow]
    simp
/-- the product of two rows of n places -/
def dot (n a b : Nat) : Bool := par n (a &&& b)
theorem dot_xor (n a b c : Nat) : dot n a (b ^^^ c) = xor (dot n a b) (dot n a c) := by
  unfold dot
  rw [← par_xor]
  congr 1
  apply Nat.eq_of_testBit_eq
  intro i
  simp only [Nat.testBit_and, Nat.testBit_xor]
  cases a.testBit i <;> simp
theorem dot_xor' (n a b c : Nat) : dot n (b ^^^ c) a = xor (dot n b a) (dot n c a) := by
  unfold dot
  rw [← par_xor]
  congr 1
  apply Nat.eq_of_testBit_eq
  intro i
  simp only [Nat.testBit_and, Nat.testBit_xor]
  cases a.testBit i <;> simp
theorem dot_zero (n a : Nat) : dot n a 0 = false := by unfold dot; rw [Nat.and_zero, par_zero]
theorem dot_zero' (n a : Nat) : dot n 0 a = false := by unfold dot; rw [Nat.zero_and, par_zero]
theorem dot_pow {n k : Nat} (h : k < n) (a : Nat) : dot n a (2 ^ k) = a.testBit k := by
  unfold dot
  by_cases c : a.testBit k = true
  · have : a &&& 2 ^ k = 2 ^ k := by
      apply Nat.eq_of_testBit_eq
      intro i
      rw [Nat.testBit_and, Nat.testBit_two_pow]
      by_cases e : k = i
      · subst e; simp [c]
      · simp [e]
    rw [this, par_pow n k h, c]
  · have c' := Bool.eq_false_iff.mpr c
    have : a &&& 2 ^ k = 0 := by
      apply Nat.eq_of_testBit_eq
      intro i
      rw [Nat.testBit_and, Nat.testBit_two_pow, Nat.zero_testBit]
      by_cases e : k = i
      · subst e; simp [c']
      · simp [e]
    rw [this, par_zero, c']
/-- x has the product 0 with all rows -/
def Ker (n : Nat) (rows : List Nat) (x : Nat) : Prop := x < 2 ^ n ∧ ∀ r ∈ rows, dot n r x = false
theorem Ker.zero (n : Nat) (rows : List Nat) : Ker n rows 0 := ⟨Nat.two_pow_pos n, fun r _ => dot_zero n r⟩
theorem Ker.xor {n : Nat} {rows : List Nat} {x y : Nat} (hx : Ker n rows x) (hy : Ker n rows y) : Ker n rows (x ^^^ y) :=
  ⟨Nat.xor_lt_two_pow hx.1 hy.1, fun r hr => by rw [dot_xor, hx.2 r hr, hy.2 r hr]; rfl⟩
theorem Ker.sp {n : Nat} {rows V : List Nat} (h : ∀ v ∈ V, Ker n rows v) {x : Nat} (hx : Sp V x) : Ker n rows x := by
  induction hx with
  | zero => exact Ker.zero n rows
  | add hr _ ih => exact ih.xor (h _ hr)
theorem dot_sp {n x : Nat} {rows : List Nat} (h : ∀ r ∈ rows, dot n r x = false) {s : Nat} (hs : Sp rows s) : dot n s x = false := by
  induction hs with
  | zero => exact dot_zero' n x
  | add hr _ ih => rw [dot_xor', ih, h _ hr]; rfl
theorem Ker.of_sp {n : Nat} {R S : List Nat} (h : ∀ v, Sp R v ↔ Sp S v) {x : Nat} : Ker n R x ↔ Ker n S x :=
  ⟨fun k => ⟨k.1, fun s hs => dot_sp k.2 ((h s).mpr (Sp.mem hs))⟩, fun k => ⟨k.1, fun s hs => dot_sp k.2 ((h s).mp (Sp.mem hs))⟩⟩
/-- the leads of the rows that have the place c -/
def lc (c : Nat) : List Nat → List Nat → Nat
  | r :: R, d :: C => (if r.testBit c = true then 2 ^ d else 0) ^^^ lc c R C
  | _, _ => 0
theorem dot_lc_zero {n c s : Nat} : ∀ {R C : List Nat}, (∀ d ∈ C, d < n) → (∀ d ∈ C, s.testBit d = false) → dot n s (lc c R C) = false
  | r :: R, d :: C, hn, h => by
    rw [lc, dot_xor, dot_lc_zero (fun d hd => hn d (by simp [hd])) fun d hd => h d (by simp [hd])]
    split
    · rw [dot_pow (hn d (by simp)), h d (by simp)]; rfl
    · rw [dot_zero]; rfl
  | [], _, _, _ => by rw [lc, dot_zero]; intro _ _ _ _ h; cases h
  | _ :: _, [], _, _ => by rw [lc, dot_zero]; intro _ _ _ _ _ h; cases h
theorem dot_lc {n c : Nat} : ∀ {R C : List Nat}, RED R C → (∀ d ∈ C, d < n) → ∀ s ∈ R, dot n s (lc c R C) = s.testBit c
  | r :: R, d :: C, h, hn, s, hs => by
    rw [lc, dot_xor]
    rcases List.mem_cons.mp hs with rfl | hs
    · rw [dot_lc_zero (fun d hd => hn d (by simp [hd])) fun e he => (h.2.2.1 e he).2]
      split
      · rename_i e; rw [dot_pow (hn d (by simp)), h.1, e]; rfl
      · rename_i e; rw [dot_zero, Bool.eq_false_iff.mpr e]; rfl
    · rw [dot_lc h.2.2.2 (fun d hd => hn d (by simp [hd])) s hs]
      have low : s.testBit d = false := h.2.2.2.low (fun e he => (h.2.2.1 e he).1) s hs
      split
      · rw [dot_pow (hn d (by simp)), low]; simp
      · rw [dot_zero]; simp
  | [], _, _, _, s, hs => by cases hs
  | _ :: _, [], h, _, _, _ => h.elim
theorem RED.pick {R C : List Nat} (h : RED R C) {c : Nat} (hc : c ∈ C) : ∃ s ∈ R, s.testBit c = true ∧ ∀ d ∈ C, s.testBit d = true → d = c := by
  induction R generalizing C with
  | nil => cases C with
    | nil => cases hc
    | cons => exact h.elim
  | cons r R ih => cases C with
    | nil => exact h.elim
    | cons e C =>
      rcases List.mem_cons.mp hc with rfl | hc
      · refine ⟨r, by simp, h.1, fun d hd hb => ?_⟩
        rcases List.mem_cons.mp hd with rfl | hd
        · rfl
        · rw [(h.2.2.1 d hd).2] at hb; cases hb
      · obtain ⟨s, hs, a, b⟩ := ih h.2.2.2 hc
        refine ⟨s, by simp [hs], a, fun d hd hb => ?_⟩
        rcases List.mem_cons.mp hd with rfl | hd
        · rw [h.2.2.2.low (fun e he => (h.2.2.1 e he).1) s hs] at hb; cases hb
        · exact b d hd hb
/-- what the free place c gives -/
def vc (R C : List Nat) (c : Nat) : Nat := 2 ^ c ^^^ lc c R C
theorem lc_lt {n c : Nat} : ∀ {R C : List Nat}, (∀ d ∈ C, d < n) → lc c R C < 2 ^ n
  | r :: R, d :: C, hn => by
    rw [lc]
    refine Nat.xor_lt_two_pow ?_ (lc_lt fun d hd => hn d (by simp [hd]))
    split
    · exact Nat.pow_lt_pow_right (by omega) (hn d (by simp))
    · exact Nat.two_pow_pos n
  | [], _, _ => by rw [lc]; exact Nat.two_pow_pos n; intro _ _ _ _ h; cases h
  | _ :: _, [], _ => by rw [lc]; exact Nat.two_pow_pos n; intro _ _ _ _ _ h; cases h
theorem lc_bit {c b : Nat} : ∀ {R C : List Nat}, b ∉ C → (lc c R C).testBit b = false
  | r :: R, d :: C, h => by
    rw [lc, Nat.testBit_xor, lc_bit (fun hd => h (by simp [hd]))]
    split
    · rw [Nat.testBit_two_pow]
      have : d ≠ b := fun e => h (by simp [e])
      simp [this]
    · simp
  | [], _, _ => by rw [lc, Nat.zero_testBit]; intro _ _ _ _ h; cases h
  | _ :: _, [], _ => by rw [lc, Nat.zero_testBit]; intro _ _ _ _ _ h; cases h
theorem vc_ker {n c : Nat} {R C : List Nat} (h : RED R C) (hn : ∀ d ∈ C, d < n) (hc : c < n) : Ker n R (vc R C c) :=
  ⟨Nat.xor_lt_two_pow (Nat.pow_lt_pow_right (by omega) hc) (lc_lt hn), fun s hs => by unfold vc; rw [dot_xor, dot_lc h hn s hs, dot_pow hc]; simp⟩
/-- the free places below n -/
def free (n : Nat) (C : List Nat) : List Nat := (List.range n).filter fun c => !C.contains c
theorem mem_free {n : Nat} {C : List Nat} {c : Nat} : c ∈ free n C ↔ c < n ∧ c ∉ C := by simp [free, List.contains_eq_mem]
theorem ker_zero {n : Nat} {R C : List Nat} (h : RED R C) (hn : ∀ d ∈ C, d < n) {x : Nat} (hx : Ker n R x) (h0 : ∀ c, c < n → c ∉ C → x.testBit c = false) : x = 0 := by
  apply Nat.eq_of_testBit_eq
  intro b
  rw [Nat.zero_testBit]
  rcases Nat.lt_or_ge b n with hb | hb
  · by_cases hc : b ∈ C
    · obtain ⟨s, hs, a, u⟩ := h.pick hc
      have e := hx.2 s hs
      have e' : s &&& x = if x.testBit b = true then 2 ^ b else 0 := by
        apply Nat.eq_of_testBit_eq
        intro i
        rw [Nat.testBit_and]
        by_cases e1 : x.testBit i = true
        · have hi : i ∈ C := by
            apply Classical.byContradiction
            intro hi
            rcases Nat.lt_or_ge i n with z | z
            · rw [h0 i z hi] at e1; cases e1
            · rw [Nat.testBit_lt_two_pow (Nat.lt_of_lt_of_le hx.1 (Nat.pow_le_pow_right (by omega) z))] at e1; cases e1
          by_cases e2 : s.testBit i = true
          · have : i = b := u i hi e2
            subst this
            rw [e1, e2, if_pos rfl, Nat.testBit_two_pow]; simp
          · have e2' := Bool.eq_false_iff.mpr e2
            rw [e2', Bool.false_and]
            have : b ≠ i := fun w => by rw [← w, a] at e2; exact e2 rfl
            split
            · rw [Nat.testBit_two_pow]; simp [this]
            · rw [Nat.zero_testBit]
        · have e1' := Bool.eq_false_iff.mpr e1
          rw [e1', Bool.and_false]
          split
          · rename_i w
            have : b ≠ i := fun z => by rw [z] at w; exact e1 w
            rw [Nat.testBit_two_pow]; simp [this]
          · rw [Nat.zero_testBit]
      unfold dot at e
      rw [e'] at e
      by_cases w : x.testBit b = true
      · rw [if_pos w, par_pow n b hb] at e; cases e
      · exact Bool.eq_false_iff.mpr w
    · exact h0 b hb hc
  · exact Nat.testBit_lt_two_pow (Nat.lt_of_lt_of_le hx.1 (Nat.pow_le_pow_right (by omega) hb))
theorem vc_bit {R C : List Nat} {b c : Nat} (hb : b ∉ C) : (vc R C c).testBit b = decide (c = b) := by
  unfold vc
  rw [Nat.testBit_xor, lc_bit hb, Nat.testBit_two_pow, Bool.xor_false]
theorem ker_sp {n : Nat} {R C : List Nat} (h : RED R C) (hn : ∀ d ∈ C, d < n) {x : Nat} : Ker n R x ↔ Sp ((free n C).map (vc R C)) x := by
  constructor
  · have key : ∀ k, k ≤ n → ∀ x, Ker n R x → (∀ c, c < n → c ∉ C → k ≤ c → x.testBit c = false) → Sp ((free n C).map (vc R C)) x := by
      intro k
      induction k with
      | zero => intro _ x hx h0; rw [ker_zero h hn hx fun c a b => h0 c a b (by omega)]; exact Sp.zero
      | succ k ih =>
        intro hk x hx h0
        by_cases c : k ∉ C ∧ x.testBit k = true
        · have m : vc R C k ∈ (free n C).map (vc R C) := List.mem_map.mpr ⟨k, mem_free.mpr ⟨by omega, c.1⟩, rfl⟩
          have := ih (by omega) (x ^^^ vc R C k) (hx.xor (vc_ker h hn (by omega))) ?_
          · have := this.xor (Sp.mem m)
            rwa [Nat.xor_assoc, Nat.xor_self, Nat.xor_zero] at this
          · intro d hd hdC hkd
            rw [Nat.testBit_xor, vc_bit hdC]
            by_cases e : k = d
            · subst e; rw [c.2]; simp
            · rw [h0 d hd hdC (by omega)]; simp [e]
        · refine ih (by omega) x hx fun d hd hdC hkd => ?_
          by_cases e : k = d
          · subst e
            exact Bool.eq_false_iff.mpr fun z => c ⟨hdC, z⟩
          · exact h0 d hd hdC (by omega)
    intro hx
    exact key n (by omega) x hx fun c a _ b => by omega
  · intro hx
    refine Ker.sp (fun v hv => ?_) hx
    obtain ⟨c, hc, rfl⟩ := List.mem_map.mp hv
    exact vc_ker h hn (mem_free.mp hc).1
end Go.Proofs.Ythjfilmdobkmlaa.P
end
section
namespace Go.Proofs.Ythjfilmdobkmlaa.P
open Go.RowKit Go.Proofs.YthjfilmdobkmlaaW.PrintWords Go.Proofs.YthjfilmdobkmlaaW.PrintLast Go.Proofs.YthjfilmdobkmlaaW.PrintMore
set_option linter.unusedVariables false
set_option linter.unusedSimpArgs false
/-- what both tell of two spaces: 0, 1 (no spaces), 2 (other columns) -/
noncomputable def bothCode (c : Int) (l : List Int) (d : Int) (k : List Int) : Int := if spaceB c l = true ∧ spaceB d k = true then (if c = d then 0 else 2) else 1
end Go.Proofs.Ythjfilmdobkmlaa.P
end
section
namespace Go.Proofs.Ythjfilmdobkmlaa.P
open Go.RowKit Go.Proofs.YthjfilmdobkmlaaW.PrintWords Go.Proofs.YthjfilmdobkmlaaW.PrintLast Go.Proofs.YthjfilmdobkmlaaW.PrintMore
set_option linter.unusedVariables false
set_option linter.unusedSimpArgs false
theorem i_both_v (c : Int) {l : List Int} (d : Int) {k : List Int} (hl : l.length ≤ 17592186044416) (hk : k.length ≤ 17592186044416) : impl_spacesCode.d c l d k = some (bothCode c l d k) := by
  rw [impl_spacesCode.d_eq, i_IsSpace_v c hl, bind_some']
  unfold bothCode
  by_cases h1 : spaceB c l = true
  · rw [if_pos h1, i_IsSpace_v d hk, bind_some', impl_spacesCode.j0d_eq]
    by_cases h2 : spaceB d k = true
    · rw [if_neg (by simp [h2])]
      by_cases e : c = d
      · rw [if_pos e, if_pos ⟨h1, h2⟩, if_pos e]
      · rw [if_neg e, if_pos ⟨h1, h2⟩, if_neg e]
    · rw [if_pos (by simp [h2]), if_neg (fun z => h2 z.2)]
  · rw [if_neg h1, impl_spacesCode.j0d_eq, if_pos rfl, if_neg (fun z => h1 z.1)]
end Go.Proofs.Ythjfilmdobkmlaa.P
end
section
namespace Go.Proofs.Ythjfilmdobkmlaa.P
set_option linter.unusedVariables false
set_option linter.unusedSimpArgs false
def kerB (n : Nat) (rows : List Nat) (x : Nat) : Bool := rows.all fun r => !(dot n r x)
theorem kerB_iff {n : Nat} {rows : List Nat} {x : Nat} (h : x < 2 ^ n) : kerB n rows x = true ↔ Ker n rows x := by
  unfold kerB Ker
  rw [List.all_eq_true]
  constructor
  · intro z; exact ⟨h, fun r hr => by simpa using z r hr⟩
  · intro z r hr; simp [z.2 r hr]
def kerL (n : Nat) (rows : List Nat) : List Nat := (List.range (2 ^ n)).filter (kerB n rows)
theorem kerL_sp {n : Nat} {rows : List Nat} {v : Nat} : Sp (kerL n rows) v ↔ Ker n rows v := by
  constructor
  · intro h
    refine Ker.sp (fun x hx => ?_) h
    have := List.mem_filter.mp hx
    exact (kerB_iff (List.mem_range.mp this.1)).mp this.2
  · intro h
    exact Sp.mem (List.mem_filter.mpr ⟨List.mem_range.mpr h.1, (kerB_iff h.1).mpr h⟩)
theorem kerL_lt {n : Nat} {rows : List Nat} : ∀ x ∈ kerL n rows, x < 2 ^ n := fun x hx => List.mem_range.mp (List.mem_filter.mp hx).1
theorem kerL_length {n : Nat} {rows : List Nat} : (kerL n rows).length ≤ 2 ^ n := by
  have := List.length_filter_le (kerB n rows) (List.range (2 ^ n))
  rwa [List.length_range] at this
theorem RED.at {R C : List Nat} (h : RED R C) : ∀ i, (hi : i < R.length) → ∃ hc : i < C.length, R[i].testBit C[i] = true ∧ ∀ b, b < C[i] → R[i].testBit b = false := by
  induction R generalizing C with
  | nil => intro i hi; simp at hi
  | cons r R ih => cases C with
    | nil => exact h.elim
    | cons c C =>
      intro i hi
      cases i with
      | zero => exact ⟨by simp, h.1, h.2.1⟩
      | succ i =>
        obtain ⟨hc, a, b⟩ := ih h.2.2.2 i (by simpa using hi)
        exact ⟨by simpa using hc, a, b⟩
/-- the places of a list, as bits -/
def orC : List Nat → Nat → Nat
  | [], a => a
  | d :: C, a => orC C (a ||| 2 ^ d)
theorem orC_bit : ∀ (C : List Nat) (a b : Nat), (orC C a).testBit b = (a.testBit b || C.contains b)
  | [], a, b => by simp [orC]
  | d :: C, a, b => by
    rw [orC, orC_bit C, Nat.testBit_or, Nat.testBit_two_pow, List.contains_cons]
    have : (b == d) = decide (d = b) := by
      by_cases e : d = b
      · simp [e]
      · simp [e, Ne.symm e]
    rw [this, Bool.or_assoc]
theorem orC_lt {n : Nat} : ∀ (C : List Nat) (a : Nat), (∀ d ∈ C, d < n) → a < 2 ^ n → orC C a < 2 ^ n
  | [], a, _, ha => ha
  | d :: C, a, h, ha => orC_lt C _ (fun e he => h e (by simp [he])) (Nat.or_lt_two_pow ha (Nat.pow_lt_pow_right (by omega) (h d (by simp))))
/-- what the rows with the place c add to a -/
def orV (c : Nat) : List Nat → List Nat → Nat → Nat
  | r :: R, d :: C, a => orV c R C (if r.testBit c = true then a ||| 2 ^ d else a)
  | _, _, a => a
theorem or_xor {a d : Nat} (h : a.testBit d = false) : a ||| 2 ^ d = a ^^^ 2 ^ d := by
  apply Nat.eq_of_testBit_eq
  intro i
  rw [Nat.testBit_or, Nat.testBit_xor, Nat.testBit_two_pow]
  by_cases e : d = i
  · subst e; simp [h]
  · simp [e]
theorem orV_eq {c : Nat} : ∀ {R C : List Nat}, RED R C → ∀ a, (∀ d ∈ C, a.testBit d = false) → orV c R C a = a ^^^ lc c R C
  | r :: R, d :: C, h, a, ha => by
    rw [orV, lc]
    have hd : a.testBit d = false := ha d (by simp)
    by_cases e : r.testBit c = true
    · rw [if_pos e, if_pos e, or_xor hd, orV_eq h.2.2.2, Nat.xor_assoc]
      intro x hx
      rw [Nat.testBit_xor, ha x (by simp [hx]), Nat.testBit_two_pow]
      have := (h.2.2.1 x hx).1
      have : d ≠ x := by omega
      simp [this]
    · rw [if_neg e, if_neg e, orV_eq h.2.2.2 a fun x hx => ha x (by simp [hx]), Nat.zero_xor]
  | [], [], _, a, _ => by simp [orV, lc]
  | [], _ :: _, h, _, _ => h.elim
  | _ :: _, [], h, _, _ => h.elim
theorem orV_vc {c : Nat} {R C : List Nat} (h : RED R C) (hc : c ∉ C) : orV c R C (2 ^ c) = vc R C c := by
  rw [orV_eq h]
  · rfl
  · intro d hd
    rw [Nat.testBit_two_pow]
    have : c ≠ d := fun e => hc (e ▸ hd)
    simp [this]
/-- the free places below c, in order -/
theorem free_succ (n : Nat) (C : List Nat) : free (n + 1) C = free n C ++ (if C.contains n = true then [] else [n]) := by
  unfold free
  rw [List.range_succ, List.filter_append]
  congr 1
  by_cases h : n ∈ C
  · simp [h]
  · simp [h]
theorem free_length_le (n : Nat) (C : List Nat) : (free n C).length ≤ n := by
  have := List.length_filter_le (fun c => !C.contains c) (List.range n)
  rwa [List.length_range] at this
end Go.Proofs.Ythjfilmdobkmlaa.P
end
section
namespace Go.Proofs.Ythjfilmdobkmlaa.P
open Go.RowKit Go.Proofs.YthjfilmdobkmlaaW.PrintWords Go.Proofs.YthjfilmdobkmlaaW.PrintLast Go.Proofs.YthjfilmdobkmlaaW.PrintMore
set_option linter.unusedVariables false
set_option linter.unusedSimpArgs false
theorem i_lead_v {r d : Nat} (hr : r < 4611686018427387904) (hd : d ≤ 61) (h : r.testBit d = true) (hlow : ∀ b, b < d → r.testBit b = false) : impl_lead.d (r : Int) = some (d : Int) := by
  have key : ∀ i, i ≤ d → impl_lead.l0d (r : Int) (i : Int) = some (d : Int) := by
    apply down
    · rw [impl_lead.l0d_eq, if_pos (by omega), bit_test (by omega) (by omega), if_pos h, if_neg (by decide)]
    · intro i hi e
      rw [impl_lead.l0d_eq, if_pos (by omega), bit_test (by omega) (by omega), if_pos (by rw [hlow i hi]; rfl), wrS hi (by omega), e]
  rw [impl_lead.d_eq]
  exact key 0 (by omega)
theorem i_leads_v {N : Nat} (hN : N ≤ 60) {R C : List Nat} (h : RED R C) (hl : R.length ≤ 60) (hR : ∀ r ∈ R, r < 2 ^ N) (hC : ∀ d ∈ C, d < N) (x : Int) (l : List Int) :
    impl_Matrix_kernel.l0d (up R) 0 (up R) ((up R).length : Int) 0 x l = impl_Matrix_kernel.l1d (up R) ((orC C 0 : Nat) : Int) x 0 x [] := by
  have hlen := h.len
  have key : ∀ i, i ≤ R.length → ∀ a : Nat, a < 2 ^ N → impl_Matrix_kernel.l0d (up R) (a : Int) (up R) ((up R).length : Int) (i : Int) x l = impl_Matrix_kernel.l1d (up R) ((orC (C.drop i) a : Nat) : Int) x 0 x [] := by
    apply down
    · intro a ha
      rw [impl_Matrix_kernel.l0d_eq, if_neg (by rw [up_length]; omega), hlen, List.drop_length]; rfl
    · intro i hi ih a ha
      obtain ⟨hc, b1, b2⟩ := h.at i hi
      have hd := hC _ (List.getElem_mem hc)
      have hp : 2 ^ C[i] < 2 ^ N := Nat.pow_lt_pow_right (by omega) hd
      have a63 := small62 (by omega) ha
      have p63 := small62 (by omega) hp
      have r62 : R[i] < 4611686018427387904 := Nat.lt_of_lt_of_le (hR _ (List.getElem_mem hi)) (Nat.le_trans (Nat.pow_le_pow_right (by omega) (show N ≤ 62 by omega)) (by decide))
      rw [impl_Matrix_kernel.l0d_eq, if_pos (by rw [up_length]; omega), if_pos (by omega), if_pos (by rw [up_length]; omega), up_get hi, i_lead_v r62 (by omega) b1 b2, bind_some', if_pos (by omega), one_shl (by omega), bor a63 p63, wrS hi (by omega),
        ih _ (Nat.or_lt_two_pow ha hp), List.drop_eq_getElem_cons hc]; rfl
  have := key 0 (by omega) 0 (Nat.two_pow_pos N)
  rwa [List.drop_zero] at this
theorem i_row_v {N c : Nat} (hN : N ≤ 60) {R C : List Nat} (h : RED R C) (hl : R.length ≤ 60) (hR : ∀ r ∈ R, r < 2 ^ N) (hC : ∀ d ∈ C, d < N) (hc : c < N) (L : Int) (acc : List Int) (ha : acc.length < 17592186044416) :
    impl_Matrix_kernel.l2d (up R) L (c : Int) ((2 ^ c : Nat) : Int) (N : Int) (c : Int) (up R) ((up R).length : Int) 0 (N : Int) acc = impl_Matrix_kernel.l1d (up R) L (N : Int) ((c + 1 : Nat) : Int) (N : Int) (acc ++ [((orV c R C (2 ^ c) : Nat) : Int)]) := by
  have hlen := h.len
  have key : ∀ i, i ≤ R.length → ∀ a : Nat, a < 2 ^ N → impl_Matrix_kernel.l2d (up R) L (c : Int) (a : Int) (N : Int) (c : Int) (up R) ((up R).length : Int) (i : Int) (N : Int) acc = impl_Matrix_kernel.l1d (up R) L (N : Int) ((c + 1 : Nat) : Int) (N : Int) (acc ++ [((orV c (R.drop i) (C.drop i) a : Nat) : Int)]) := by
    apply down
    · intro a _
      rw [impl_Matrix_kernel.l2d_eq, if_neg (by rw [up_length]; omega), if_pos ha, wrS (n := 60) (by omega) (by omega), List.drop_length, orV]
      intro _ _ _ _ e _; cases e
    · intro i hi ih a ha2
      obtain ⟨hci, b1, b2⟩ := h.at i hi
      have hd := hC _ (List.getElem_mem hci)
      have hp : 2 ^ C[i] < 2 ^ N := Nat.pow_lt_pow_right (by omega) hd
      have a63 := small62 (by omega) ha2
      have p63 := small62 (by omega) hp
      have r62 : R[i] < 4611686018427387904 := Nat.lt_of_lt_of_le (hR _ (List.getElem_mem hi)) (Nat.le_trans (Nat.pow_le_pow_right (by omega) (show N ≤ 62 by omega)) (by decide))
      rw [impl_Matrix_kernel.l2d_eq, if_pos (by rw [up_length]; omega), if_pos (by omega), if_pos (by rw [up_length]; omega), if_pos (by omega), up_get hi, bit_test (by omega) (by omega), List.drop_eq_getElem_cons hi, List.drop_eq_getElem_cons hci, orV, wrS hi (by omega)]
      by_cases e : R[i].testBit c = true
      · rw [if_pos e, if_pos rfl, if_pos e, i_lead_v r62 (by omega) b1 b2, bind_some', if_pos (by omega), one_shl (by omega), bor a63 p63, ih _ (Nat.or_lt_two_pow ha2 hp)]
      · rw [if_neg e, if_neg (by decide), if_neg e, ih _ ha2]
  have := key 0 (by omega) (2 ^ c) (Nat.pow_lt_pow_right (by omega) hc)
  rwa [List.drop_zero, List.drop_zero] at this
theorem i_kernel_v {N : Nat} (hN : N ≤ 60) {ln R C : List Nat} (e : impl_echelon.d (up ln) = some (up R)) (h : RED R C) (hl : R.length ≤ 60) (hR : ∀ r ∈ R, r < 2 ^ N) (hC : ∀ d ∈ C, d < N) :
    impl_Matrix_kernel.d (N : Int) (up ln) = impl_Matrix_form.d (N : Int) (up ((free N C).map (vc R C))) := by
  rw [impl_Matrix_kernel.d_eq, e, bind_some', i_leads_v hN h hl hR hC]
  have lb : orC C 0 < 2 ^ N := orC_lt C 0 hC (Nat.two_pow_pos N)
  have l63 := small62 (by omega) lb
  have key : ∀ c, c ≤ N → impl_Matrix_kernel.l1d (up R) ((orC C 0 : Nat) : Int) (N : Int) (c : Int) (N : Int) (up ((free c C).map (vc R C))) = impl_Matrix_form.d (N : Int) (up ((free N C).map (vc R C))) := by
    apply down
    · rw [impl_Matrix_kernel.l1d_eq, if_neg (by omega)]
      cases impl_Matrix_form.d (N : Int) (up ((free N C).map (vc R C))) <;> rfl
    · intro c hc ih
      have fl := free_length_le c C
      rw [impl_Matrix_kernel.l1d_eq, if_pos (by omega), if_pos (by omega), bit_test l63 (by omega), orC_bit, Nat.zero_testBit, Bool.false_or]
      by_cases z : C.contains c = true
      · rw [if_pos z, if_pos rfl, wrS hc (by omega), ← ih, free_succ, if_pos z, List.append_nil]
      · have z' : c ∉ C := by simpa using z
        rw [if_neg z, if_neg (by decide), one_shl (by omega), i_row_v hN h hl hR hC hc _ _ (by rw [up_length, List.length_map]; omega), ← ih, free_succ, if_neg z, orV_vc h z', List.map_append, up_append]; rfl
  have := key 0 (by omega)
  exact this
theorem kernel_i {N : Nat} (hN : N ≤ 10) {ln : List Nat} (hl : ln.length ≤ 1000) (hb : ∀ r ∈ ln, r < 2 ^ N) :
    ∃ K C, impl_Matrix_kernel.d (N : Int) (up ln) = some ((N : Int), up K) ∧ RED K C ∧ (∀ v, Sp K v ↔ Ker N ln v) ∧ (∀ x ∈ K, x < 2 ^ N) ∧ K.length ≤ N ∧ ∀ d ∈ C, d < N := by
  obtain ⟨R, C, e1, e2, hR, hs, hRb, hRl, hC⟩ := ech_v (N := N) (by omega) (ln := ln) (by omega) hb
  have vlt : ∀ x ∈ (free N C).map (vc R C), x < 2 ^ N := by
    intro x hx
    obtain ⟨c, hc, rfl⟩ := List.mem_map.mp hx
    exact (vc_ker hR hC (mem_free.mp hc).1).1
  obtain ⟨K, D, f1, f2, hK, ks, kb, kl, kd⟩ := ech_v (N := N) (by omega) (ln := (free N C).map (vc R C)) (by have := free_length_le N C; rw [List.length_map]; omega) vlt
  have sp : ∀ v, Sp K v ↔ Ker N ln v := fun v => (ks v).trans ((ker_sp hR hC).symm.trans (Ker.of_sp hs))
  refine ⟨K, D, ?_, hK, sp, kb, kl, kd⟩
  rw [i_kernel_v (by omega) e2 hR (by omega) hRb hC, impl_Matrix_form.d_eq, f2, bind_some']
end Go.Proofs.Ythjfilmdobkmlaa.P
end
section
namespace Go.Proofs.Ythjfilmdobkmlaa.P
set_option linter.unusedVariables false
set_option linter.unusedSimpArgs false
/-- the sum of the rows that a list of yes and no tells -/
def sel : List Bool → List Nat → Nat
  | c :: s, r :: L => (if c = true then r else 0) ^^^ sel s L
  | _, _ => 0
theorem sel_append : ∀ (s : List Bool) (A : List Nat) (t : List Bool) (B : List Nat), s.length = A.length → sel (s ++ t) (A ++ B) = sel s A ^^^ sel t B
  | [], [], t, B, _ => by simp [sel]
  | c :: s, r :: A, t, B, h => by
    simp only [List.cons_append, sel]
    rw [sel_append s A t B (by simpa using h), Nat.xor_assoc]
  | [], _ :: _, _, _, h => by simp at h
  | _ :: _, [], _, _, h => by simp at h
theorem sel_sp (L : List Nat) : ∀ (s : List Bool) (R : List Nat), (∀ r ∈ R, Sp L r) → Sp L (sel s R)
  | c :: s, r :: R, h => by
    rw [sel]
    refine Sp.xor ?_ (sel_sp L s R fun x hx => h x (by simp [hx]))
    split
    · exact h r (by simp)
    · exact Sp.zero
  | [], R, _ => by rw [sel]; exact Sp.zero; intro _ _ _ _ e; cases e
  | _ :: _, [], _ => by rw [sel]; exact Sp.zero; intro _ _ _ _ _ e; cases e
theorem sel_none : ∀ (L : List Nat), sel (List.replicate L.length false) L = 0
  | [] => rfl
  | r :: L => by simp only [List.length_cons, List.replicate_succ, sel]; rw [sel_none L]; simp
/-- some of the rows have the sum 0 -/
def Dep (L : List Nat) : Prop := ∃ s : List Bool, s.length = L.length ∧ true ∈ s ∧ sel s L = 0
theorem sel_map {l0 : Nat} (f : Nat → Nat) (hf : ∀ l, f l = l ∨ f l = l ^^^ l0) : ∀ (s : List Bool) (L : List Nat), ∃ c : Bool, sel s (L.map f) = sel s L ^^^ (if c = true then l0 else 0)
  | b :: s, r :: L => by
    obtain ⟨c, e⟩ := sel_map f hf s L
    simp only [List.map_cons, sel]
    rw [e]
    by_cases hb : b = true
    · rw [if_pos hb, if_pos hb]
      rcases hf r with h | h
      · exact ⟨c, by rw [h, Nat.xor_assoc]⟩
      · rw [h]
        refine ⟨!c, ?_⟩
        cases c
        · simp only [Bool.not_false, if_true, Bool.false_eq_true, if_false, Nat.xor_zero]
          rw [Nat.xor_assoc, Nat.xor_comm l0, ← Nat.xor_assoc]
        · simp only [Bool.not_true, if_true, Bool.false_eq_true, if_false, Nat.xor_zero]
          rw [Nat.xor_assoc, Nat.xor_comm l0, Nat.xor_assoc, Nat.xor_self, Nat.xor_zero]
    · rw [if_neg hb, if_neg hb]
      exact ⟨c, by rw [Nat.xor_assoc]⟩
  | [], L => ⟨false, by simp [sel]⟩
  | _ :: _, [] => ⟨false, by simp [sel]⟩
theorem exch : ∀ (R L : List Nat), (∀ l ∈ L, Sp R l) → R.length < L.length → Dep L
  | [], L, h, hl => by
    cases L with
    | nil => simp at hl
    | cons l L =>
      have : l = 0 := (h l (by simp)).nil
      refine ⟨true :: List.replicate L.length false, by simp, by simp, ?_⟩
      simp only [sel]
      rw [sel_none, this]; rfl
  | r :: R, L, h, hl => by
    by_cases c : ∀ l ∈ L, Sp R l
    · exact exch R L c (by simp at hl; omega)
    · obtain ⟨l0, hl0, hn⟩ : ∃ l0 ∈ L, ¬ Sp R l0 := by
        apply Classical.byContradiction
        intro z
        exact c fun l hm => Classical.byContradiction fun w => z ⟨l, hm, w⟩
      have hr0 : Sp R (l0 ^^^ r) := by
        rcases (h l0 hl0).cons with w | w
        · exact absurd w hn
        · exact w
      obtain ⟨A, B, rfl⟩ := List.append_of_mem hl0
      have hf : ∀ l, ∃ y, (y = l ∨ y = l ^^^ l0) ∧ (Sp (r :: R) l → Sp R y) := by
        intro l
        by_cases w : Sp R l
        · exact ⟨l, .inl rfl, fun _ => w⟩
        · refine ⟨l ^^^ l0, .inr rfl, fun hs => ?_⟩
          rcases hs.cons with z | z
          · exact absurd z w
          · have := z.xor hr0
            rwa [Nat.xor_assoc, Nat.xor_comm l0 r, ← Nat.xor_assoc r r, Nat.xor_self, Nat.zero_xor] at this
      obtain ⟨f, hf⟩ := Classical.axiomOfChoice hf
      have hd : Dep ((A ++ B).map f) := by
        refine exch R _ ?_ (by simp at hl ⊢; omega)
        intro y hy
        obtain ⟨l, hm, rfl⟩ := List.mem_map.mp hy
        exact (hf l).2 (h l (by
          rcases List.mem_append.mp hm with z | z
          · simp [z]
          · simp [z]))
      obtain ⟨s, e1, e2, e3⟩ := hd
      obtain ⟨d, e4⟩ := sel_map (l0 := l0) f (fun l => (hf l).1) s (A ++ B)
      rw [e3] at e4
      simp only [List.length_map, List.length_append] at e1
      have es : s = s.take A.length ++ s.drop A.length := (List.take_append_drop ..).symm
      have el : (s.take A.length).length = A.length := by rw [List.length_take]; omega
      rw [es, sel_append _ _ _ _ el] at e4
      refine ⟨s.take A.length ++ d :: s.drop A.length, by simp; omega, ?_, ?_⟩
      · rw [es] at e2
        rcases List.mem_append.mp e2 with z | z
        · exact List.mem_append.mpr (.inl z)
        · exact List.mem_append.mpr (.inr (List.mem_cons_of_mem _ z))
      · rw [sel_append _ _ _ _ el, sel, Nat.xor_comm (if d = true then l0 else 0), ← Nat.xor_assoc]
        exact e4.symm
/-- reduced rows have no sum 0 but that of none -/
theorem RED.indep {R C : List Nat} (h : RED R C) : ∀ s : List Bool, s.length = R.length → sel s R = 0 → true ∉ s := by
  induction R generalizing C with
  | nil => intro s hs _; cases s with
    | nil => simp
    | cons => simp at hs
  | cons r R ih =>
    cases C with
    | nil => exact h.elim
    | cons c C =>
      intro s hs h0
      cases s with
      | nil => simp
      | cons b s =>
        have low : (sel s R).testBit c = false := (sel_sp R s R fun x hx => Sp.mem hx).bit (h.2.2.2.low fun d hd => (h.2.2.1 d hd).1)
        rw [sel] at h0
        have hb : b = false := by
          cases b with
          | false => rfl
          | true =>
            have := congrArg (fun x => x.testBit c) h0
            simp only [if_true, Nat.testBit_xor, Nat.zero_testBit, low, h.1] at this
            cases this
        subst hb
        simp only [Bool.false_eq_true, if_false, Nat.zero_xor] at h0
        have := ih h.2.2.2 s (by simpa using hs) h0
        simpa using this
/-- no more reduced rows than rows whose sums they are -/
theorem RED.le {R C : List Nat} (h : RED R C) {L : List Nat} (hs : ∀ r ∈ R, Sp L r) : R.length ≤ L.length := by
  apply Classical.byContradiction
  intro z
  obtain ⟨s, e1, e2, e3⟩ := exch L R hs (by omega)
  exact h.indep s e1 e3 e2
end Go.Proofs.Ythjfilmdobkmlaa.P
end
section
namespace Go.Proofs.Ythjfilmdobkmlaa.P
set_option linter.unusedVariables false
set_option linter.unusedSimpArgs false
/-- the places that are no leads, and the leads, are all places -/
theorem RED.count {m : Nat} : ∀ {R C : List Nat} {k : Nat}, RED R C → (∀ d ∈ C, k ≤ d ∧ d < k + m) → ((List.range' k m).filter fun c => !(C.contains c)).length + C.length = m := by
  induction m with
  | zero =>
    intro R C k h hk
    cases C with
    | nil => simp
    | cons c C => have := hk c (by simp); omega
  | succ m ih =>
    intro R C k h hk
    rw [List.range'_succ]
    cases C with
    | nil =>
      have := ih (R := []) (C := []) (k := k + 1) trivial (fun d hd => by cases hd)
      rw [List.filter_cons, if_pos (by rfl), List.length_cons]
      simp only [List.length_nil, Nat.add_zero] at this ⊢
      rw [this]
    | cons c C =>
      cases R with
      | nil => exact h.elim
      | cons r R =>
        by_cases e : c = k
        · subst e
          have hC : ∀ d ∈ C, c + 1 ≤ d ∧ d < c + 1 + m := fun d hd => by
            have := (h.2.2.1 d hd).1
            have := hk d (by simp [hd])
            omega
          have := ih (k := c + 1) h.2.2.2 hC
          have e2 : ((List.range' (c + 1) m).filter fun x => !((c :: C).contains x)) = (List.range' (c + 1) m).filter fun x => !(C.contains x) := by
            apply List.filter_congr
            intro x hx
            rw [List.mem_range'] at hx
            obtain ⟨i, _, rfl⟩ := hx
            rw [List.contains_cons]
            have : (c + 1 + 1 * i == c) = false := by simp; omega
            rw [this, Bool.false_or]
          rw [List.filter_cons, if_neg (by simp), e2, List.length_cons]
          omega
        · have hc := hk c (by simp)
          have hC : ∀ d ∈ c :: C, k + 1 ≤ d ∧ d < k + 1 + m := fun d hd => by
            have := hk d hd
            rcases List.mem_cons.mp hd with rfl | hd
            · omega
            · have := (h.2.2.1 d hd).1; omega
          have := ih (k := k + 1) h hC
          have hn : (c :: C).contains k = false := by
            rw [Bool.eq_false_iff]
            intro z
            have z' : k ∈ c :: C := by simpa using z
            have := hC k z'
            omega
          rw [List.filter_cons, if_pos (by rw [hn]; rfl), List.length_cons]
          omega
theorem free_count {n : Nat} {R C : List Nat} (h : RED R C) (hC : ∀ d ∈ C, d < n) : (free n C).length + R.length = n := by
  have := h.count (k := 0) (m := n) fun d hd => ⟨by omega, by have := hC d hd; omega⟩
  rw [h.len]
  unfold free
  rw [List.range_eq_range']
  exact this
theorem sel_vc_bit {R C : List Nat} {c : Nat} (hc : c ∉ C) : ∀ (s : List Bool) (F : List Nat), c ∉ F → (sel s (F.map (vc R C))).testBit c = false
  | b :: s, f :: F, h => by
    simp only [List.map_cons, sel]
    rw [Nat.testBit_xor, sel_vc_bit hc s F (fun z => h (by simp [z]))]
    have hf : f ≠ c := fun z => h (by simp [z])
    split
    · rw [vc_bit hc]; simp [hf]
    · simp
  | [], F, _ => by simp [sel]
  | _ :: _, [], _ => by simp [sel]
theorem vc_indep {R C : List Nat} : ∀ (F : List Nat), F.Nodup → (∀ f ∈ F, f ∉ C) → ∀ s : List Bool, s.length = F.length → sel s (F.map (vc R C)) = 0 → true ∉ s
  | [], _, _, s, hl, _ => by cases s with
    | nil => simp
    | cons => simp at hl
  | f :: F, hn, hF, s, hl, h0 => by
    cases s with
    | nil => simp
    | cons b s =>
      have hf := hF f (by simp)
      rw [List.nodup_cons] at hn
      have low := sel_vc_bit (R := R) hf s F hn.1
      simp only [List.map_cons, sel] at h0
      have hb : b = false := by
        cases b with
        | false => rfl
        | true =>
          have := congrArg (fun x => x.testBit f) h0
          simp only [if_true, Nat.testBit_xor, low, vc_bit hf, Nat.zero_testBit, decide_true, Bool.xor_false] at this
          cases this
      subst hb
      simp only [Bool.false_eq_true, if_false, Nat.zero_xor] at h0
      have := vc_indep F hn.2 (fun x hx => hF x (by simp [hx])) s (by simpa using hl) h0
      simpa using this
theorem free_nodup (n : Nat) (C : List Nat) : (free n C).Nodup := List.Pairwise.filter _ List.nodup_range
/-- the rows of a kernel, reduced, and the rows of which it is the kernel, reduced, are together as many as the columns -/
theorem ker_dim {n : Nat} {R C K D : List Nat} (h : RED R C) (hC : ∀ d ∈ C, d < n) (hK : RED K D) (hs : ∀ v, Sp K v ↔ Ker n R v) : K.length + R.length = n := by
  have e := free_count h hC
  have h1 : K.length ≤ ((free n C).map (vc R C)).length := hK.le fun r hr => (ker_sp h hC).mp ((hs r).mp (Sp.mem hr))
  have h2 : ((free n C).map (vc R C)).length ≤ K.length := by
    apply Classical.byContradiction
    intro z
    obtain ⟨s, e1, e2, e3⟩ := exch K ((free n C).map (vc R C)) (fun l hl => (hs l).mpr ((ker_sp h hC).mpr (Sp.mem hl))) (by omega)
    exact vc_indep (free n C) (free_nodup n C) (fun f hf => (mem_free.mp hf).2) s (by rw [e1, List.length_map]) e3 e2
  rw [List.length_map] at h1 h2
  omega
theorem RED.full {R C K D : List Nat} (h : RED R C) (hs : ∀ r ∈ R, Sp K r) (hl : K.length ≤ R.length) {v : Nat} (hv : Sp K v) : Sp R v := by
  obtain ⟨s, e1, e2, e3⟩ := exch K (v :: R) (fun l hm => by
    rcases List.mem_cons.mp hm with rfl | hm
    · exact hv
    · exact hs l hm) (by simp; omega)
  cases s with
  | nil => simp at e1
  | cons b s =>
    rw [sel] at e3
    cases b with
    | true =>
      have : v = sel s R := by
        have := congrArg (fun x => x ^^^ sel s R) e3
        simp only [if_true, Nat.xor_assoc, Nat.xor_self, Nat.xor_zero, Nat.zero_xor] at this
        exact this
      rw [this]
      exact sel_sp R s R fun r hr => Sp.mem hr
    | false =>
      simp only [Bool.false_eq_true, if_false, Nat.zero_xor] at e3
      have := h.indep s (by simpa using e1) e3
      rw [List.mem_cons] at e2
      rcases e2 with e2 | e2
      · cases e2
      · exact absurd e2 this
theorem dot_comm (n a b : Nat) : dot n a b = dot n b a := by unfold dot; rw [Nat.and_comm]
/-- the kernel of the kernel is what it was -/
theorem ker_ker {n : Nat} {R C K D B E : List Nat} (h : RED R C) (hC : ∀ d ∈ C, d < n) (hR : ∀ r ∈ R, r < 2 ^ n) (hK : RED K D) (hD : ∀ d ∈ D, d < n) (hs : ∀ v, Sp K v ↔ Ker n R v)
    (hB : RED B E) (hb : ∀ v, Sp B v ↔ Ker n K v) : B = R := by
  have d1 := ker_dim h hC hK hs
  have d2 := ker_dim hK hD hB hb
  have sub : ∀ r ∈ R, Sp B r := fun r hr => (hb r).mpr ⟨hR r hr, fun k hk => by
    rw [dot_comm]
    exact ((hs k).mp (Sp.mem hk)).2 r hr⟩
  exact (hB.unique h fun v => ⟨fun z => h.full (D := E) sub (by omega) z, fun z => z.sub sub⟩).1
end Go.Proofs.Ythjfilmdobkmlaa.P
end
section
namespace Go.Proofs.Ythjfilmdobkmlaa.P
set_option linter.unusedVariables false
set_option linter.unusedSimpArgs false
theorem xx (a b : Nat) : a ^^^ b ^^^ b = a := by rw [Nat.xor_assoc, Nat.xor_self, Nat.xor_zero]
theorem sp_split {A B : List Nat} {x : Nat} (h : Sp (A ++ B) x) : ∃ a b, Sp A a ∧ Sp B b ∧ x = a ^^^ b := by
  induction h with
  | zero => exact ⟨0, 0, .zero, .zero, by rw [Nat.xor_zero]⟩
  | @add r v hr _ ih =>
    obtain ⟨a, b, ha, hb, rfl⟩ := ih
    rcases List.mem_append.mp hr with z | z
    · exact ⟨a ^^^ r, b, ha.xor (.mem z), hb, by rw [Nat.xor_assoc, Nat.xor_assoc, Nat.xor_comm b r]⟩
    · exact ⟨a, b ^^^ r, ha, hb.xor (.mem z), by rw [Nat.xor_assoc]⟩
theorem Sp.left {A B : List Nat} {x : Nat} (h : Sp A x) : Sp (A ++ B) x := h.mono fun r hr => List.mem_append.mpr (.inl hr)
theorem Sp.right {A B : List Nat} {x : Nat} (h : Sp B x) : Sp (A ++ B) x := h.mono fun r hr => List.mem_append.mpr (.inr hr)
theorem sp_lt {n : Nat} {A : List Nat} (h : ∀ x ∈ A, x < 2 ^ n) {x : Nat} (hx : Sp A x) : x < 2 ^ n := by
  induction hx with
  | zero => exact Nat.two_pow_pos n
  | add hr _ ih => exact Nat.xor_lt_two_pow ih (h _ hr)
theorem red_of {n : Nat} (hn : n ≤ 62) {L : List Nat} (hl : L.length ≤ 1048576) (hb : ∀ x ∈ L, x < 2 ^ n) : ∃ R C, RED R C ∧ ∀ v, Sp R v ↔ Sp L v := by
  obtain ⟨R, C, _, _, h, hs, _⟩ := ech_v hn hl hb
  exact ⟨R, C, h, hs⟩
theorem dim_cons {R C R' C' : List Nat} (h : RED R C) (h' : RED R' C') {v : Nat} (hs : ∀ x, Sp R' x ↔ Sp (v :: R) x) (hv : ¬ Sp R v) : R'.length = R.length + 1 := by
  have h1 : R'.length ≤ (v :: R).length := h'.le fun r hr => (hs r).mp (Sp.mem hr)
  rw [List.length_cons] at h1
  apply Classical.byContradiction
  intro z
  exact hv (h.full (D := []) (K := R') (fun r hr => (hs r).mpr (Sp.mem (by simp [hr]))) (by omega) ((hs v).mpr (Sp.mem (by simp))))
theorem sp_cons_iff {v : Nat} {A : List Nat} {x : Nat} : Sp (v :: A) x ↔ Sp A x ∨ Sp A (x ^^^ v) := by
  refine ⟨Sp.cons, fun h => ?_⟩
  rcases h with h | h
  · exact h.mono fun r hr => by simp [hr]
  · have := (h.mono (R' := v :: A) fun r hr => by simp [hr]).xor (Sp.mem (R := v :: A) (r := v) (by simp))
    rwa [xx] at this
theorem dim_formula {n : Nat} (hn : n ≤ 62) {U A : List Nat} (hU : RED U A) (bU : ∀ x ∈ U, x < 2 ^ n) (lU : U.length ≤ 1000) : ∀ (V : List Nat), V.length ≤ 1000 → (∀ x ∈ V, x < 2 ^ n) →
    ∀ {V0 B S D : List Nat}, RED V0 B → (∀ x, Sp V0 x ↔ Sp V x) → RED S D → (∀ x, Sp S x ↔ Sp (U ++ V) x) → ∃ M E, RED M E ∧ (∀ x, Sp M x ↔ Sp U x ∧ Sp V x) ∧ S.length + M.length = U.length + V0.length
  | [], _, _, V0, B, S, D, hV, sV, hS, sS => by
    have e1 := hV.unique (R' := []) (C' := []) trivial sV
    have e2 := hS.unique hU fun x => by rw [sS x, List.append_nil]
    refine ⟨[], [], trivial, fun x => ⟨fun h => ?_, fun h => h.2⟩, ?_⟩
    · have := h.nil; subst this; exact ⟨.zero, .zero⟩
    · rw [e1.1, e2.1]
  | v :: V, hl, hb, V0, B, S, D, hV, sV, hS, sS => by
    have hb' : ∀ x ∈ V, x < 2 ^ n := fun x hx => hb x (by simp [hx])
    have hvb : v < 2 ^ n := hb v (by simp)
    simp only [List.length_cons] at hl
    obtain ⟨V1, B1, hV1, sV1⟩ := red_of hn (L := V) (by omega) hb'
    obtain ⟨S1, D1, hS1, sS1⟩ := red_of hn (L := U ++ V) (by rw [List.length_append]; omega) fun x hx => by
      rcases List.mem_append.mp hx with z | z
      · exact bU x z
      · exact hb' x z
    obtain ⟨M1, E1, hM1, sM1, e⟩ := dim_formula hn hU bU lU V (by omega) hb' hV1 sV1 hS1 sS1
    have uv : ∀ x, Sp (U ++ v :: V) x ↔ Sp (v :: (U ++ V)) x := fun x => ⟨Sp.mono fun r hr => by simp only [List.mem_append, List.mem_cons] at hr ⊢; rcases hr with z | z | z <;> simp [z], Sp.mono fun r hr => by simp only [List.mem_append, List.mem_cons] at hr ⊢; rcases hr with z | z | z <;> simp [z]⟩
    by_cases c : Sp V v
    · have same : ∀ x, Sp (v :: V) x ↔ Sp V x := fun x => ⟨fun h => h.sub fun r hr => by
        rcases List.mem_cons.mp hr with rfl | hr
        · exact c
        · exact Sp.mem hr, fun h => h.mono fun r hr => by simp [hr]⟩
      have e1 := (hV.unique hV1 fun x => (sV x).trans ((same x).trans (sV1 x).symm)).1
      have e2 := (hS.unique hS1 fun x => (sS x).trans (Iff.trans ⟨fun h => (uv x).mp h |>.sub fun r hr => by
          rcases List.mem_cons.mp hr with rfl | hr
          · exact c.right
          · exact Sp.mem hr, fun h => (uv x).mpr (h.mono fun r hr => by simp [hr])⟩ (sS1 x).symm)).1
      refine ⟨M1, E1, hM1, fun x => (sM1 x).trans ⟨fun h => ⟨h.1, (same x).mpr h.2⟩, fun h => ⟨h.1, (same x).mp h.2⟩⟩, ?_⟩
      rw [e1, e2]; exact e
    · have d1 := dim_cons hV1 hV (v := v) (fun x => (sV x).trans (by rw [sp_cons_iff, sp_cons_iff, sV1, sV1])) (fun h => c ((sV1 v).mp h))
      by_cases w : Sp (U ++ V) v
      · obtain ⟨a, b, ha, hb2, rfl⟩ := sp_split w
        have e2 := (hS.unique hS1 fun x => (sS x).trans (Iff.trans ⟨fun h => (uv x).mp h |>.sub fun r hr => by
            rcases List.mem_cons.mp hr with rfl | hr
            · exact w
            · exact Sp.mem hr, fun h => (uv x).mpr (h.mono fun r hr => by simp [hr])⟩ (sS1 x).symm)).1
        have lM : M1.length ≤ U.length := hM1.le fun r hr => ((sM1 r).mp (Sp.mem hr)).1
        have bM : ∀ x ∈ a :: M1, x < 2 ^ n := fun x hx => by
          rcases List.mem_cons.mp hx with rfl | hx
          · exact sp_lt bU ha
          · exact sp_lt bU ((sM1 x).mp (Sp.mem hx)).1
        obtain ⟨M, E, hM, sM⟩ := red_of hn (L := a :: M1) (by rw [List.length_cons]; omega) bM
        have na : ¬ Sp M1 a := fun h => c (((sM1 a).mp h).2.xor hb2)
        have d2 := dim_cons hM1 hM (v := a) sM na
        have av : a = (a ^^^ b) ^^^ b := (xx a b).symm
        refine ⟨M, E, hM, fun x => (sM x).trans ⟨fun h => ?_, fun h => ?_⟩, by rw [e2]; omega⟩
        · have sub : ∀ r ∈ a :: M1, Sp U r ∧ Sp ((a ^^^ b) :: V) r := fun r hr => by
            rcases List.mem_cons.mp hr with rfl | hr
            · refine ⟨ha, ?_⟩
              have h1 : Sp ((r ^^^ b) :: V) (r ^^^ b) := Sp.mem (by simp)
              have h2 : Sp ((r ^^^ b) :: V) b := hb2.mono fun r hr => by simp [hr]
              have := h1.xor h2
              rwa [xx] at this
            · have := (sM1 r).mp (Sp.mem hr)
              exact ⟨this.1, this.2.mono fun r hr => by simp [hr]⟩
          exact ⟨h.sub fun r hr => (sub r hr).1, h.sub fun r hr => (sub r hr).2⟩
        · rw [sp_cons_iff]
          rcases h.2.cons with z | z
          · exact .inl ((sM1 x).mpr ⟨h.1, z⟩)
          · refine .inr ((sM1 _).mpr ⟨h.1.xor ha, ?_⟩)
            have := z.xor hb2
            rwa [Nat.xor_assoc, xx] at this
      · have d2 := dim_cons hS1 hS (v := v) (fun x => (sS x).trans ((uv x).trans (by rw [sp_cons_iff, sp_cons_iff, sS1, sS1]))) (fun h => w ((sS1 v).mp h))
        refine ⟨M1, E1, hM1, fun x => (sM1 x).trans ⟨fun h => ⟨h.1, h.2.mono fun r hr => by simp [hr]⟩, fun h => ⟨h.1, ?_⟩⟩, by omega⟩
        rcases h.2.cons with z | z
        · exact z
        · exfalso
          apply w
          have := (h.1.left (B := V)).xor (z.right (A := U))
          rwa [← Nat.xor_assoc, Nat.xor_self, Nat.zero_xor] at this
/-- the dimensions of two spaces, their sum and their meet -/
theorem dims {n : Nat} (hn : n ≤ 62) {U A V B S D M E : List Nat} (hU : RED U A) (bU : ∀ x ∈ U, x < 2 ^ n) (lU : U.length ≤ 1000) (hV : RED V B) (bV : ∀ x ∈ V, x < 2 ^ n) (lV : V.length ≤ 1000)
    (hS : RED S D) (sS : ∀ x, Sp S x ↔ Sp (U ++ V) x) (hM : RED M E) (sM : ∀ x, Sp M x ↔ Sp U x ∧ Sp V x) : S.length + M.length = U.length + V.length := by
  obtain ⟨M', E', hM', sM', e⟩ := dim_formula hn hU bU lU V lV bV hV (fun _ => Iff.rfl) hS sS
  rw [(hM.unique hM' fun x => (sM x).trans (sM' x).symm).1]
  exact e
/-- the kernel of a kernel holds the sums of the rows, and no others -/
theorem ker_ker_sp {n : Nat} (hn : n ≤ 10) {R C K D : List Nat} (h : RED R C) (hC : ∀ d ∈ C, d < n) (hR : ∀ r ∈ R, r < 2 ^ n) (hK : RED K D) (hD : ∀ d ∈ D, d < n) (hs : ∀ v, Sp K v ↔ Ker n R v) {x : Nat} : Ker n K x ↔ Sp R x := by
  have h10 : 2 ^ n ≤ 2 ^ 10 := Nat.pow_le_pow_right (by omega) hn
  obtain ⟨B, E, hB, sB⟩ := red_of (n := n) (by omega) (L := kerL n K) (by have := kerL_length (n := n) (rows := K); omega) kerL_lt
  have e := ker_ker h hC hR hK hD hs hB (fun v => (sB v).trans kerL_sp)
  subst e
  exact ((sB x).trans kerL_sp).symm
/-- the kernel of all rows of two spaces: what is in both kernels -/
theorem ker_append {n : Nat} {A B : List Nat} {x : Nat} : Ker n (A ++ B) x ↔ Ker n A x ∧ Ker n B x :=
  ⟨fun h => ⟨⟨h.1, fun r hr => h.2 r (List.mem_append.mpr (.inl hr))⟩, ⟨h.1, fun r hr => h.2 r (List.mem_append.mpr (.inr hr))⟩⟩,
   fun h => ⟨h.1.1, fun r hr => by
    rcases List.mem_append.mp hr with z | z
    · exact h.1.2 r z
    · exact h.2.2 r z⟩⟩
end Go.Proofs.Ythjfilmdobkmlaa.P
end
section
namespace Go.Proofs.Ythjfilmdobkmlaa.P
open Go.RowKit Go.Proofs.YthjfilmdobkmlaaW.PrintWords Go.Proofs.YthjfilmdobkmlaaW.PrintLast Go.Proofs.YthjfilmdobkmlaaW.PrintMore
set_option linter.unusedVariables false
set_option linter.unusedSimpArgs false
theorem and255 (x : Int) : 0 ≤ Go.bits .and .u64 x 255 ∧ Go.bits .and .u64 x 255 ≤ 255 := by
  have e : Go.bits .and .u64 x 255 = IntKind.u64.wrap ((BitVec.ofInt IntKind.u64.bits x &&& BitVec.ofInt IntKind.u64.bits 255).toNat : Int) := rfl
  rw [e, BitVec.toNat_and]
  have h : (BitVec.ofInt IntKind.u64.bits x).toNat &&& (BitVec.ofInt IntKind.u64.bits 255).toNat ≤ 255 := Nat.and_le_right
  generalize (BitVec.ofInt IntKind.u64.bits x).toNat &&& (BitVec.ofInt IntKind.u64.bits 255).toNat = z at h
  rw [IntKind.wrap_u64]
  omega
def Bytes (l : List Int) : Prop := ∀ x ∈ l, 0 ≤ x ∧ x ≤ 255
theorem byte_at {l : List Int} (hb : Bytes l) {i : Int} : 0 ≤ rd l i ∧ rd l i ≤ 255 := by
  by_cases h : i.toNat < l.length
  · have : rd l i = l[i.toNat] := by simp [rd, List.getD, h]
    rw [this]; exact hb _ (List.getElem_mem h)
  · have : rd l i = 0 := by simp [rd, List.getD, h]
    rw [this]; omega
theorem next_v {l : List Int} (hb : Bytes l) (hl : l.length ≤ 4000) {a : Int} (h0 : 0 ≤ a) (h1 : a ≤ 1000000) (s : Int) : ∃ v t, spec_l00Src_next.f l a s = some (v, a + 1, t) ∧ 0 ≤ v ∧ v ≤ 255 := by
  unfold spec_l00Src_next.f
  have hby := byte_at hb (i := a)
  have ha : wrap64 (a + 1) = a + 1 := wr (by omega) (by omega)
  rw [ha]
  by_cases c : a < (l.length : Int)
  · rw [if_pos c, if_pos h0, if_pos (by omega), wr (x := rd l a) (by omega) (by omega)]
    exact ⟨_, _, rfl, hby.1, hby.2⟩
  · rw [if_neg c, if_neg (by omega)]
    have := and255 ((IntKind.u64.wrap ((IntKind.u64.wrap ((IntKind.u64.wrap (s * 6364136223846793005)))) + 1442695040888963407)) / 1099511627776)
    rw [wr (x := Go.bits .and .u64 _ 255) (by omega) (by omega)]
    exact ⟨_, _, rfl, this.1, this.2⟩
theorem tmod_pos {v n : Int} (h0 : 0 ≤ v) (hn : 0 < n) : 0 ≤ Int.tmod v n ∧ Int.tmod v n < n := ⟨Int.tmod_nonneg _ h0, Int.tmod_lt_of_pos _ hn⟩
theorem pick_v {l : List Int} (hb : Bytes l) (hl : l.length ≤ 4000) {a : Int} (h0 : 0 ≤ a) (h1 : a ≤ 900000) (s n : Int) (hn : n ≤ 100000) :
    ∃ v b t, spec_l00Src_pick.f l a s n = some (v, b, t) ∧ 0 ≤ v ∧ (1 ≤ n → v < n) ∧ v ≤ 100000 ∧ a ≤ b ∧ b ≤ a + 2 := by
  unfold spec_l00Src_pick.f
  by_cases c : n ≤ 1
  · rw [if_pos c]; exact ⟨0, a, s, rfl, by omega, fun _ => by omega, by omega, by omega, by omega⟩
  · rw [if_neg c]
    obtain ⟨v, t, e, v0, v1⟩ := next_v hb hl h0 (by omega) s
    rw [e, bind_some']
    by_cases d : n > 200
    · obtain ⟨v', t', e', v0', v1'⟩ := next_v hb hl (a := a + 1) (by omega) (by omega) t
      have e2 : spec_l00Src_next.f l (v, a + 1, t).2.1 (v, a + 1, t).2.2 = some (v', a + 1 + 1, t') := e'
      rw [if_pos d, e2, bind_some', if_neg (by omega)]
      have w : wrap64 (wrap64 ((v, a + 1, t).1 * 256) + (v', a + 1 + 1, t').1) = v * 256 + v' := by
        show wrap64 (wrap64 (v * 256) + v') = _
        rw [wr (x := v * 256) (by omega) (by omega), wr (by omega) (by omega)]
      rw [w]
      have := tmod_pos (v := v * 256 + v') (n := n) (by omega) (by omega)
      exact ⟨_, _, _, rfl, this.1, fun _ => this.2, by omega, by show a ≤ a + 1 + 1; omega, by show a + 1 + 1 ≤ a + 2; omega⟩
    · rw [if_neg d, if_neg (by omega)]
      have := tmod_pos (v := v) (n := n) v0 (by omega)
      exact ⟨_, _, _, rfl, this.1, fun _ => this.2, by show Int.tmod v n ≤ _; omega, by show a ≤ a + 1; omega, by show a + 1 ≤ a + 2; omega⟩
theorem bytes_of {l : List Int} (h : ∀ x ∈ l, (Lit.int .u8 x).wf = true) : Bytes l := by
  intro x hx
  have := h x hx
  have e1 : IntKind.u8.min = 0 := by decide
  have e2 : IntKind.u8.max = 255 := by decide
  simp [Lit.wf, e1, e2] at this
  omega
end Go.Proofs.Ythjfilmdobkmlaa.P
end
section
namespace Go.Proofs.Ythjfilmdobkmlaa.P
open Go.RowKit Go.Proofs.YthjfilmdobkmlaaW.PrintWords Go.Proofs.YthjfilmdobkmlaaW.PrintLast Go.Proofs.YthjfilmdobkmlaaW.PrintMore
set_option linter.unusedVariables false
set_option linter.unusedSimpArgs false
theorem a2At_v {l : List Int} (hb : Bytes l) (hl : l.length ≤ 4000) {a : Int} (h0 : 0 ≤ a) {n : Int} (hn : 1 ≤ n) (hn' : n ≤ 100000) : ∃ v, laws_a2At.f l a n = some v ∧ 0 ≤ v ∧ v < n := by
  unfold laws_a2At.f
  by_cases c : a ≥ (l.length : Int)
  · rw [if_pos c]; exact ⟨0, rfl, by omega, by omega⟩
  · have hby := byte_at hb (i := a)
    rw [if_neg c, if_neg (by omega), if_pos h0, if_pos (by omega), if_neg (by omega), wr (by omega) (by omega)]
    have := tmod_pos (v := rd l a) (n := n) hby.1 (by omega)
    exact ⟨_, rfl, this.1, this.2⟩
end Go.Proofs.Ythjfilmdobkmlaa.P
end
section
namespace Go.Proofs.Ythjfilmdobkmlaa.P
open Go.RowKit Go.Proofs.YthjfilmdobkmlaaW.PrintWords Go.Proofs.YthjfilmdobkmlaaW.PrintLast Go.Proofs.YthjfilmdobkmlaaW.PrintMore
set_option linter.unusedVariables false
set_option linter.unusedSimpArgs false
theorem one_v {l : List Int} (hb : Bytes l) (hl : l.length ≤ 4000) {a : Int} (h0 : 0 ≤ a) (h1 : a ≤ 900000) (s n : Int) (hn : n ≤ 100000) :
    ∃ v b t, spec_l00Src_one.f l a s n = some (v, b, t) ∧ a ≤ b ∧ b ≤ a + 2 := by
  unfold spec_l00Src_one.f
  obtain ⟨v, b, t, e, _, _, _, g1, g2⟩ := pick_v hb hl h0 h1 s n hn
  rw [e, bind_some']
  exact ⟨_, _, _, rfl, g1, g2⟩
theorem drawn_loop {N : Nat} (hN : N ≤ 16) {l : List Int} (hb : Bytes l) (hl : l.length ≤ 4000) : ∀ (k : Nat) (a s : Int) (ln : List Nat), 0 ≤ a → a + 100 * k ≤ 800000 → ln.length + k ≤ 1000 → (∀ x ∈ ln, x < 2 ^ N) →
    ∃ ln' b t, spec_l02Drawn.l0d (N : Int) (k : Int) l a s (N : Int) (up ln) = some ((N : Int), up ln', b, t) ∧ (∀ x ∈ ln', x < 2 ^ N) ∧ ln'.length = ln.length + k
  | 0, a, s, ln, h0, h1, h2, hln => ⟨ln, a, s, by rw [spec_l02Drawn.l0d_eq, if_neg (by omega)], hln, by omega⟩
  | k + 1, a, s, ln, h0, h1, h2, hln => by
    have h16 : 2 ^ N ≤ 2 ^ 16 := Nat.pow_le_pow_right (by omega) hN
    have hp := Nat.two_pow_pos N
    rw [spec_l02Drawn.l0d_eq, if_pos (by omega), u64_id (by omega) (by omega), if_pos (by omega), one_shl (by omega)]
    obtain ⟨x, b1, t1, e1, x0, x1, _, g1, g1'⟩ := pick_v hb hl h0 (by omega) s ((2 ^ N : Nat) : Int) (by omega)
    rw [e1, bind_some']
    obtain ⟨o, b2, t2, e2, g2, g2'⟩ := one_v hb hl (a := b1) (by omega) (by omega) t1 3 (by omega)
    have e2' : spec_l00Src_one.f l (x, b1, t1).2.1 (x, b1, t1).2.2 3 = some (o, b2, t2) := e2
    rw [e2', bind_some']
    have kk : wrap64 (((k + 1 : Nat) : Int) - 1) = (k : Int) := by rw [wr (by omega) (by omega)]; omega
    have go : ∀ (y : Nat) (b t : Int), y < 2 ^ N → 0 ≤ b → b + 100 * k ≤ 800000 → ∃ ln' b' t', (if (up ln).length < 17592186044416 then spec_l02Drawn.l0d (N : Int) (wrap64 (((k + 1 : Nat) : Int) - 1)) l b t (N : Int) (up ln ++ [(y : Int)]) else none) = some ((N : Int), up ln', b', t') ∧ (∀ x ∈ ln', x < 2 ^ N) ∧ ln'.length = ln.length + (k + 1) := by
      intro y b t hy hb0 hb1
      obtain ⟨ln', b', t', e, q1, q2⟩ := drawn_loop hN hb hl k b t (ln ++ [y]) hb0 hb1 (by simp; omega) (fun z hz => by
        rcases List.mem_append.mp hz with w | w
        · exact hln z w
        · rw [List.mem_singleton] at w; rw [w]; exact hy)
      refine ⟨ln', b', t', ?_, q1, by rw [q2]; simp; omega⟩
      rw [if_pos (by rw [up_length]; omega), kk, ← e, up_append]; rfl
    have plain : ∀ (b t : Int), 0 ≤ b → b + 100 * k ≤ 800000 → ∃ ln' b' t', spec_l02Drawn.j1d (N : Int) ((k + 1 : Nat) : Int) x false l b t (N : Int) (up ln) = some ((N : Int), up ln', b', t') ∧ (∀ x ∈ ln', x < 2 ^ N) ∧ ln'.length = ln.length + (k + 1) := by
      intro b t hb0 hb1
      obtain ⟨X, rfl⟩ : ∃ X : Nat, x = (X : Int) := ⟨x.toNat, by omega⟩
      rw [spec_l02Drawn.j1d_eq, if_neg (by decide)]
      exact go X b t (by have := x1 (by omega); omega) hb0 hb1
    show ∃ ln' b t, (if o = true then spec_l02Drawn.j1d (N : Int) ((k + 1 : Nat) : Int) x (decide (((up ln).length : Int) > 0)) l b2 t2 (N : Int) (up ln) else spec_l02Drawn.j1d (N : Int) ((k + 1 : Nat) : Int) x false l b2 t2 (N : Int) (up ln)) = some ((N : Int), up ln', b, t) ∧ _
    by_cases ho : o = true
    · rw [if_pos ho]
      by_cases hz : ((up ln).length : Int) > 0
      · rw [decide_eq_true hz, spec_l02Drawn.j1d_eq, if_pos rfl]
        rw [up_length] at hz
        obtain ⟨p, b3, t3, e3, p0, p1, _, g3, g3'⟩ := pick_v hb hl (a := b2) (by omega) (by omega) t2 ((up ln).length : Int) (by rw [up_length]; omega)
        have p2 := p1 (by rw [up_length]; omega)
        rw [up_length] at p2
        rw [e3, bind_some', if_pos p0, if_pos (by rw [up_length]; exact p2)]
        obtain ⟨o2, b4, t4, e4, g4, g4'⟩ := one_v hb hl (a := b3) (by omega) (by omega) t3 2 (by omega)
        have e4' : spec_l00Src_one.f l (p, b3, t3).2.1 (p, b3, t3).2.2 2 = some (o2, b4, t4) := e4
        rw [e4', bind_some']
        obtain ⟨p', rfl⟩ : ∃ p' : Nat, p = (p' : Int) := ⟨p.toNat, by omega⟩
        have hp' : p' < ln.length := by omega
        have r1 := hln _ (List.getElem_mem hp')
        by_cases ho2 : o2 = true
        · obtain ⟨q, b5, t5, e5, q0, q1, _, g5, g5'⟩ := pick_v hb hl (a := b4) (by omega) (by omega) t4 ((up ln).length : Int) (by rw [up_length]; omega)
          have q2 := q1 (by rw [up_length]; omega)
          rw [up_length] at q2
          have e5' : spec_l00Src_pick.f l (o2, b4, t4).2.1 (o2, b4, t4).2.2 ((up ln).length : Int) = some (q, b5, t5) := e5
          rw [if_pos ho2, e5', bind_some', if_pos q0, if_pos (by rw [up_length]; exact q2)]
          obtain ⟨q', rfl⟩ : ∃ q' : Nat, q = (q' : Int) := ⟨q.toNat, by omega⟩
          have hq' : q' < ln.length := by omega
          have r2 := hln _ (List.getElem_mem hq')
          have xx : Go.bits .xor .i64 (rd (up ln) ((p' : Int), b3, t3).1) (rd (up ln) ((q' : Int), b5, t5).1) = ((ln[p'] ^^^ ln[q'] : Nat) : Int) := by
            show Go.bits .xor .i64 (rd (up ln) (p' : Int)) (rd (up ln) (q' : Int)) = _
            rw [up_get hp', up_get hq', bxor (small62 (by omega) r1) (small62 (by omega) r2)]
          rw [xx]
          exact go _ b5 t5 (Nat.xor_lt_two_pow r1 r2) (by omega) (by omega)
        · rw [if_neg ho2]
          have xx : rd (up ln) ((p' : Int), b3, t3).1 = ((ln[p'] : Nat) : Int) := up_get hp'
          rw [xx]
          exact go _ b4 t4 r1 (by omega) (by omega)
      · rw [decide_eq_false hz]
        exact plain b2 t2 (by omega) (by omega)
    · rw [if_neg ho]
      exact plain b2 t2 (by omega) (by omega)
theorem drawn_v {N : Nat} (hN : N ≤ 16) {l : List Int} (hb : Bytes l) (hl : l.length ≤ 4000) {most : Nat} (hm : most ≤ 100) :
    ∃ ln b t, spec_l02Drawn.d l 0 0 (N : Int) (most : Int) = some ((N : Int), up ln, b, t) ∧ (∀ x ∈ ln, x < 2 ^ N) ∧ ln.length ≤ most := by
  rw [spec_l02Drawn.d_eq, wr (by omega) (by omega)]
  obtain ⟨v, b, t, e, v0, v1, _, g, g'⟩ := pick_v hb hl (a := 0) (by omega) (by omega) 0 ((most : Int) + 1) (by omega)
  have v2 := v1 (by omega)
  rw [e, bind_some']
  obtain ⟨k, rfl⟩ : ∃ k : Nat, v = (k : Int) := ⟨v.toNat, by omega⟩
  obtain ⟨ln, b', t', e', q1, q2⟩ := drawn_loop hN hb hl k b t [] (by omega) (by omega) (by simp; omega) (fun x hx => nomatch hx)
  exact ⟨ln, b', t', e', q1, by rw [q2]; simp; omega⟩
end Go.Proofs.Ythjfilmdobkmlaa.P
end
section
namespace Go.Proofs.Ythjfilmdobkmlaa.P
open Go.RowKit Go.Proofs.YthjfilmdobkmlaaW.PrintWords Go.Proofs.YthjfilmdobkmlaaW.PrintLast Go.Proofs.YthjfilmdobkmlaaW.PrintMore
set_option linter.unusedVariables false
set_option linter.unusedSimpArgs false
theorem space_of {N : Nat} (h1 : 1 ≤ N) (hN : N ≤ 10) {R C : List Nat} (h : RED R C) (hb : ∀ r ∈ R, r < 2 ^ N) (hl : R.length ≤ 10) : spaceB (N : Int) (up R) = true ∧ impl_echelon.d (up R) = some (up R) := by
  obtain ⟨S, D, _, e2, hS, hs, _, _, _⟩ := ech_v (N := N) (by omega) (ln := R) (by omega) hb
  have e := (hS.unique h hs).1
  rw [e] at e2
  unfold spaceB
  rw [matB_of h1 hN hl hb, e2]
  simp
theorem spaces_s {N : Nat} (h1 : 1 ≤ N) (hN : N ≤ 10) {R C : List Nat} (h : RED R C) (hb : ∀ r ∈ R, r < 2 ^ N) (hl : R.length ≤ 10) : spec_IsSpace.d (N : Int) (up R) = some true := by
  have e := s_l02Space_v (N : Int) (l := up R) (by rw [up_length]; omega)
  rw [(space_of h1 hN h hb hl).1] at e
  rw [spec_IsSpace.d_eq, e, bind_some']
end Go.Proofs.Ythjfilmdobkmlaa.P
end
section
namespace Go.Proofs.Ythjfilmdobkmlaa.P
open Go.RowKit Go.Proofs.YthjfilmdobkmlaaW.PrintWords Go.Proofs.YthjfilmdobkmlaaW.PrintLast Go.Proofs.YthjfilmdobkmlaaW.PrintMore
set_option linter.unusedVariables false
set_option linter.unusedSimpArgs false
/-- reduced rows of n places -/
def Spc (n : Nat) (U A : List Nat) : Prop := RED U A ∧ (∀ x ∈ U, x < 2 ^ n) ∧ U.length ≤ n ∧ ∀ d ∈ A, d < n
theorem both_i {n : Nat} (n1 : 1 ≤ n) (hn : n ≤ 10) {U A V B : List Nat} (hU : Spc n U A) (hV : Spc n V B) : impl_spacesCode.d (n : Int) (up U) (n : Int) (up V) = some 0 := by
  rw [i_both_v _ _ (by rw [up_length]; have := hU.2.2.1; omega) (by rw [up_length]; have := hV.2.2.1; omega)]
  unfold bothCode
  rw [if_pos ⟨(space_of n1 hn hU.1 hU.2.1 (by have := hU.2.2.1; omega)).1, (space_of n1 hn hV.1 hV.2.1 (by have := hV.2.2.1; omega)).1⟩, if_pos rfl]
theorem msum_i {n : Nat} (hn : n ≤ 10) {u v : List Nat} (d : Int) (hu : u.length ≤ 10) (hv : v.length ≤ 10) (bu : ∀ x ∈ u, x < 2 ^ n) (bv : ∀ x ∈ v, x < 2 ^ n) :
    ∃ S C, Spc n S C ∧ (∀ x, Sp S x ↔ Sp (u ++ v) x) ∧ impl_Matrix_sum.d (n : Int) (up u) d (up v) = some ((n : Int), up S) := by
  obtain ⟨S, C, e1, e2, h, hs, hb, hl, hd⟩ := ech_v (N := n) (by omega) (ln := u ++ v) (by rw [List.length_append]; omega) (fun x hx => by
    rcases List.mem_append.mp hx with z | z
    · exact bu x z
    · exact bv x z)
  refine ⟨S, C, ⟨h, hb, hl, hd⟩, hs, ?_⟩
  rw [impl_Matrix_sum.d_eq]
  unfold slices_Concat_int64_int64.f
  have : ([up u, up v] : List (List Int)).flatten = up (u ++ v) := by rw [up_append]; simp
  rw [this, if_pos (by rw [up_length, List.length_append]; omega), bind_some', e2, bind_some']
theorem sum_i {n : Nat} (n1 : 1 ≤ n) (hn : n ≤ 10) {U A V B : List Nat} (hU : Spc n U A) (hV : Spc n V B) :
    ∃ S D, Spc n S D ∧ (∀ x, Sp S x ↔ Sp (U ++ V) x) ∧ impl_Matrix_sum.d (n : Int) (up U) (n : Int) (up V) = some ((n : Int), up S) ∧ impl_SumOf.d (n : Int) (up U) (n : Int) (up V) = some ((n : Int), up S, 0) := by
  obtain ⟨S, D, h, hs, e⟩ := msum_i hn (u := U) (v := V) (n : Int) (by have := hU.2.2.1; omega) (by have := hV.2.2.1; omega) hU.2.1 hV.2.1
  exact ⟨S, D, h, hs, e, by rw [impl_SumOf.d_eq, both_i n1 hn hU hV, bind_some', if_pos rfl, e, bind_some']⟩
theorem ker_i {n : Nat} (hn : n ≤ 10) {U A : List Nat} (hU : Spc n U A) : ∃ K D, Spc n K D ∧ (∀ x, Sp K x ↔ Ker n U x) ∧ impl_Matrix_kernel.d (n : Int) (up U) = some ((n : Int), up K) := by
  obtain ⟨K, D, e, h, hs, hb, hl, hd⟩ := kernel_i hn (ln := U) (by have := hU.2.2.1; omega) hU.2.1
  exact ⟨K, D, ⟨h, hb, hl, hd⟩, hs, e⟩
theorem meet_i {n : Nat} (n1 : 1 ≤ n) (hn : n ≤ 10) {U A V B : List Nat} (hU : Spc n U A) (hV : Spc n V B) :
    ∃ M E, Spc n M E ∧ (∀ x, Sp M x ↔ Sp U x ∧ Sp V x) ∧ impl_MeetOf.d (n : Int) (up U) (n : Int) (up V) = some ((n : Int), up M, 0) := by
  obtain ⟨K, D, hK, sK, eK⟩ := ker_i hn hU
  obtain ⟨L, F, hL, sL, eL⟩ := ker_i hn hV
  obtain ⟨T, G, hT, sT, eT, _⟩ := sum_i n1 hn hK hL
  obtain ⟨M, E, hM, sM, eM⟩ := ker_i hn hT
  refine ⟨M, E, hM, fun x => ?_, ?_⟩
  · rw [sM, Ker.of_sp sT, ker_append, ker_ker_sp hn hU.1 hU.2.2.2 hU.2.1 hK.1 hK.2.2.2 sK, ker_ker_sp hn hV.1 hV.2.2.2 hV.2.1 hL.1 hL.2.2.2 sL]
  · rw [impl_MeetOf.d_eq, both_i n1 hn hU hV, bind_some', if_pos rfl, impl_Matrix_meet.d_eq, eK, bind_some', eL, bind_some']
    dsimp only
    rw [eT, bind_some']
    dsimp only
    rw [eM, bind_some', bind_some']
theorem dual_sp {n : Nat} (n1 : 1 ≤ n) (hn : n ≤ 10) {U A : List Nat} (hU : Spc n U A) : ∃ K D, Spc n K D ∧ (∀ x, Sp K x ↔ Ker n U x) ∧ impl_DualSpace.d (n : Int) (up U) = some ((n : Int), up K, 0) := by
  obtain ⟨K, D, h, hs, e⟩ := ker_i hn hU
  refine ⟨K, D, h, hs, ?_⟩
  have q := i_IsSpace_v (n : Int) (l := up U) (by rw [up_length]; have := hU.2.2.1; omega)
  rw [(space_of n1 hn hU.1 hU.2.1 (by have := hU.2.2.1; omega)).1] at q
  rw [impl_DualSpace.d_eq, q, bind_some', if_pos rfl, e, bind_some']
theorem contains_i {n : Nat} (n1 : 1 ≤ n) (hn : n ≤ 10) {U A V B : List Nat} (hU : Spc n U A) (hV : Spc n V B) (h : ∀ x ∈ V, Sp U x) : impl_Contains.d (n : Int) (up U) (n : Int) (up V) = some (true, 0) := by
  obtain ⟨S, D, hS, sS, e, _⟩ := sum_i n1 hn hU hV
  have es : S = U := (hS.1.unique hU.1 fun x => (sS x).trans ⟨fun z => z.sub fun r hr => by
    rcases List.mem_append.mp hr with w | w
    · exact Sp.mem w
    · exact h r w, fun z => z.left⟩).1
  subst es
  rw [impl_Contains.d_eq, both_i n1 hn hU hV, bind_some', if_pos rfl, impl_Matrix_contains.d_eq, e, bind_some']
  simp
theorem dist_i {n : Nat} (n1 : 1 ≤ n) (hn : n ≤ 10) {U A V B S D : List Nat} (hU : Spc n U A) (hV : Spc n V B) (hS : Spc n S D) (sS : ∀ x, Sp S x ↔ Sp (U ++ V) x) :
    impl_DistanceOf.d (n : Int) (up U) (n : Int) (up V) = some (2 * (S.length : Int) - U.length - V.length, 0) := by
  obtain ⟨S', D', hS', sS', e, _⟩ := sum_i n1 hn hU hV
  have es : S' = S := (hS'.1.unique hS.1 fun x => (sS' x).trans (sS x).symm).1
  subst es
  have l1 := hU.2.2.1
  have l2 := hV.2.2.1
  have l3 := hS.2.2.1
  rw [impl_DistanceOf.d_eq, both_i n1 hn hU hV, bind_some', if_pos rfl, impl_Matrix_distance.d_eq, e, bind_some']
  unfold impl_size_int64.f
  simp only [bind_some', up_length]
  rw [wr (x := 2 * (S'.length : Int)) (by omega) (by omega), wr (x := 2 * (S'.length : Int) - (U.length : Int)) (by omega) (by omega), wr (by omega) (by omega)]
theorem same_i (c : Int) {p q : List Nat} (hp : p.length ≤ 10) : spec_SameMatrix.d c (up p) c (up q) = some (decide (p = q)) := by
  rw [spec_SameMatrix.d_eq, if_pos rfl, s_same_v (by rw [up_length]; omega), bind_some']
  congr 1
  exact decide_eq_decide.mpr ⟨fun h => up_inj h, fun h => by rw [h]⟩
theorem space_drawn {n : Nat} (n1 : 1 ≤ n) (n6 : n ≤ 10) {l : List Int} (hb : Bytes l) (hl : l.length ≤ 4000) : ∃ U A, Spc n U A ∧ spec_A2Space.d l (n : Int) = some ((n : Int), up U) := by
  obtain ⟨an, b, t, ed, ab, al⟩ := drawn_v (N := n) (by omega) hb hl (most := 4) (by omega)
  obtain ⟨R, C, e1, _, h, hs, rb, rl, rd⟩ := ech_v (N := n) (by omega) (ln := an) (by omega) ab
  refine ⟨R, C, ⟨h, rb, rl, rd⟩, ?_⟩
  rw [spec_A2Space.d_eq]
  unfold spec_l00From.f
  rw [bind_some']
  show (spec_l02Drawn.d l 0 0 (n : Int) 4).bind _ = _
  have ed' : spec_l02Drawn.d l 0 0 (n : Int) 4 = some ((n : Int), up an, b, t) := ed
  rw [ed', bind_some']
  dsimp only
  rw [e1, bind_some']
theorem dims_sp {n : Nat} (hn : n ≤ 10) {U A V B S D M E : List Nat} (hU : Spc n U A) (hV : Spc n V B) (hS : Spc n S D) (sS : ∀ x, Sp S x ↔ Sp (U ++ V) x) (hM : Spc n M E) (sM : ∀ x, Sp M x ↔ Sp U x ∧ Sp V x) :
    S.length + M.length = U.length + V.length :=
  dims (n := n) (by omega) hU.1 hU.2.1 (by have := hU.2.2.1; omega) hV.1 hV.2.1 (by have := hV.2.2.1; omega) hS.1 sS hM.1 sM
theorem ker_len {n : Nat} {U A K D : List Nat} (hU : Spc n U A) (hK : Spc n K D) (sK : ∀ x, Sp K x ↔ Ker n U x) : K.length + U.length = n := ker_dim hU.1 hU.2.2.2 hK.1 sK
/-- the distances -/
theorem tail_v {n : Nat} (n1 : 1 ≤ n) (hn : n ≤ 10) {U A V B W C S D M E K F L G Z Y : List Nat} (hU : Spc n U A) (hV : Spc n V B) (hW : Spc n W C) (hS : Spc n S D) (sS : ∀ x, Sp S x ↔ Sp (U ++ V) x)
    (hM : Spc n M E) (sM : ∀ x, Sp M x ↔ Sp U x ∧ Sp V x) (hK : Spc n K F) (sK : ∀ x, Sp K x ↔ Ker n U x) (hL : Spc n L G) (sL : ∀ x, Sp L x ↔ Ker n V x) (hZ : Spc n Z Y) (sZ : ∀ x, Sp Z x ↔ Ker n S x) :
    laws_FnSumsAndMeets.j1d false (n : Int) (up U) (n : Int) (up V) (n : Int) (up W) (n : Int) (up S) (n : Int) (up M) (n : Int) (up K) (n : Int) (up L) = some true := by
  have d := dims_sp hn hU hV hS sS hM sM
  obtain ⟨T, tT, hT, sT, _, _⟩ := sum_i n1 hn hV hW
  obtain ⟨R, tR, hR, sR, _, _⟩ := sum_i n1 hn hU hW
  obtain ⟨Q, tQ, hQ, sQ, _, _⟩ := sum_i n1 hn hK hL
  have sVU : ∀ x, Sp S x ↔ Sp (V ++ U) x := fun x => (sS x).trans ⟨Sp.mono fun r hr => by simp only [List.mem_append] at hr ⊢; exact hr.symm, Sp.mono fun r hr => by simp only [List.mem_append] at hr ⊢; exact hr.symm⟩
  have sZ' : ∀ x, Sp Z x ↔ Sp K x ∧ Sp L x := fun x => by rw [sZ, Ker.of_sp sS, ker_append, sK, sL]
  have dq := dims_sp hn hK hL hQ sQ hZ sZ'
  have k1 := ker_len hU hK sK
  have k2 := ker_len hV hL sL
  have k3 := ker_len hS hZ sZ
  have us : U.length ≤ S.length := hU.1.le fun r hr => (sS r).mpr (Sp.mem hr).left
  have vs : V.length ≤ S.length := hV.1.le fun r hr => (sS r).mpr (Sp.mem hr).right
  -- the triangle
  obtain ⟨P, tP, hP, sP, _, _⟩ := sum_i n1 hn hS hT
  obtain ⟨O, tO, hO, sO, _⟩ := meet_i n1 hn hS hT
  have dp := dims_sp hn hS hT hP sP hO sO
  have rp : R.length ≤ P.length := hR.1.le fun r hr => (sP r).mpr (((sR r).mp (Sp.mem hr)).sub fun z hz => by
    rcases List.mem_append.mp hz with w | w
    · exact ((sS z).mpr (Sp.mem w).left).left
    · exact ((sT z).mpr (Sp.mem w).right).right)
  have vo : V.length ≤ O.length := hV.1.le fun r hr => (sO r).mpr ⟨(sS r).mpr (Sp.mem hr).right, (sT r).mpr (Sp.mem hr).left⟩
  have eq0 : 2 * (S.length : Int) - U.length - V.length = 0 ↔ U = V := by
    constructor
    · intro h
      have uS : S = U := (hS.1.unique hU.1 fun x => ⟨fun z => hU.1.full (D := []) (fun r hr => (sS r).mpr (Sp.mem hr).left) (by omega) z, fun z => (sS x).mpr z.left⟩).1
      have vS : S = V := (hS.1.unique hV.1 fun x => ⟨fun z => hV.1.full (D := []) (fun r hr => (sS r).mpr (Sp.mem hr).right) (by omega) z, fun z => (sS x).mpr z.right⟩).1
      rw [← uS, ← vS]
    · intro h
      subst h
      have : S.length ≤ U.length := hS.1.le fun r hr => ((sS r).mp (Sp.mem hr)).sub fun z hz => by
        rcases List.mem_append.mp hz with w | w
        · exact Sp.mem w
        · exact Sp.mem w
      omega
  have l1 := hU.2.2.1
  have l2 := hV.2.2.1
  have l3 := hS.2.2.1
  have l4 := hT.2.2.1
  have l5 := hM.2.2.1
  have l6 := hW.2.2.1
  have bb : ((2 * (S.length : Int) - U.length - V.length == 0) == decide (U = V)) = true := by
    by_cases c : U = V
    · rw [decide_eq_true c, eq0.mpr c]; rfl
    · rw [decide_eq_false c, beq_eq_false_iff_ne.mpr fun z => c (eq0.mp z)]; rfl
  rw [laws_FnSumsAndMeets.j1d_eq, if_neg (by decide), dist_i n1 hn hU hV hS sS, bind_some', dist_i n1 hn hV hW hT sT, bind_some', dist_i n1 hn hU hW hR sR, bind_some', dist_i n1 hn hV hU hS sVU, bind_some', dist_i n1 hn hK hL hQ sQ, bind_some']
  dsimp only
  rw [if_pos rfl, if_pos rfl, if_pos rfl, if_pos rfl, if_pos rfl, if_pos (by omega), if_pos (by omega), same_i (n : Int) (by omega), bind_some', if_pos bb, wr (x := 2 * (S.length : Int) - U.length - V.length + (2 * (T.length : Int) - V.length - W.length)) (by omega) (by omega), if_pos (by omega), up_length, up_length, wr (by omega) (by omega)]
  congr 1
  rw [beq_iff_eq]
  omega
theorem FnSumsAndMeets_law (l0 l1 : List Int) (h1 : ∀ x ∈ l0, (Lit.int .u8 x).wf = true) (h3 : ∀ x ∈ l1, (Lit.int .u8 x).wf = true) : laws_FnSumsAndMeets.d l0 l1 = some true := by
  rw [laws_FnSumsAndMeets.d_eq]
  unfold laws_a2Long.f
  by_cases c0 : (l0.length : Int) > 3000
  · rw [if_pos c0, bind_some', if_pos rfl]
  · rw [if_neg c0, bind_some']
    by_cases c1 : (l1.length : Int) > 3000
    · rw [if_pos (by simpa using c1)]
    · rw [if_neg (by simpa using c1)]
      have b0 := bytes_of h1
      have b1 := bytes_of h3
      have b2 : Bytes ([3] ++ l0) := fun x hx => by
        rcases List.mem_append.mp hx with z | z
        · rw [List.mem_singleton] at z; omega
        · exact b0 x z
      obtain ⟨v, e, v0, v1⟩ := a2At_v b1 (by omega) (a := 0) (by omega) (n := 6) (by omega) (by omega)
      rw [e, bind_some']
      obtain ⟨n, hn⟩ : ∃ n : Nat, wrap64 (1 + v) = (n : Int) := ⟨(1 + v).toNat, by rw [wr (by omega) (by omega)]; omega⟩
      have hv : 1 + v = (n : Int) := by rw [wr (by omega) (by omega)] at hn; exact hn
      have n1 : 1 ≤ n := by omega
      have n10 : n ≤ 10 := by omega
      rw [hn]
      obtain ⟨U, A, hU, eU⟩ := space_drawn n1 n10 b0 (by omega)
      obtain ⟨V, B, hV, eV⟩ := space_drawn n1 n10 b1 (by omega)
      obtain ⟨W, C, hW, eW⟩ := space_drawn n1 n10 b2 (by simp; omega)
      obtain ⟨S, D, hS, sS, _, eS⟩ := sum_i n1 n10 hU hV
      obtain ⟨M, E, hM, sM, eM⟩ := meet_i n1 n10 hU hV
      obtain ⟨K, F, hK, sK, eK⟩ := dual_sp n1 n10 hU
      obtain ⟨L, G, hL, sL, eL⟩ := dual_sp n1 n10 hV
      obtain ⟨Z, Y, hZ, sZ, eZ⟩ := dual_sp n1 n10 hS
      obtain ⟨X, XX, hX, sX, eX⟩ := meet_i n1 n10 hK hL
      have d := dims_sp n10 hU hV hS sS hM sM
      have zx : Z = X := (hZ.1.unique hX.1 fun x => by rw [sZ, Ker.of_sp sS, ker_append, sX, sK, sL]).1
      subst zx
      have tl := tail_v n1 n10 hU hV hW hS sS hM sM hK sK hL sL hZ sZ
      have l1' := hU.2.2.1
      have l2' := hV.2.2.1
      have l3' := hS.2.2.1
      have l4' := hM.2.2.1
      have l5' := hZ.2.2.1
      have p1 := spaces_s n1 n10 hS.1 hS.2.1 (by omega)
      have p2 := spaces_s n1 n10 hM.1 hM.2.1 (by omega)
      have q1 := contains_i n1 n10 hS hU fun x hx => (sS x).mpr (Sp.mem hx).left
      have q2 := contains_i n1 n10 hU hM fun x hx => ((sM x).mp (Sp.mem hx)).1
      have q3 := contains_i n1 n10 hV hM fun x hx => ((sM x).mp (Sp.mem hx)).2
      have w1 : (wrap64 (((up S).length : Int) + ((up M).length : Int)) != wrap64 (((up U).length : Int) + ((up V).length : Int))) = false := by
        rw [up_length, up_length, up_length, up_length, wr (by omega) (by omega), wr (by omega) (by omega)]
        simp; omega
      rw [eU, bind_some', eV, bind_some', bind_some', if_pos (by simp; omega), eW, bind_some']
      dsimp only
      rw [eS, bind_some', eM, bind_some']
      dsimp only
      rw [if_pos rfl, if_pos rfl, p1, bind_some', if_pos rfl, p2, bind_some', if_pos rfl, w1, laws_FnSumsAndMeets.j0d_eq, if_neg (by decide), q1, bind_some', q2, bind_some', q3, bind_some', eK, bind_some', eL, bind_some', eZ, bind_some']
      dsimp only
      rw [eX, bind_some']
      dsimp only
      rw [if_pos rfl, if_pos rfl, if_pos rfl, if_pos rfl, if_pos rfl, if_pos rfl, if_pos rfl, if_pos rfl, if_pos rfl, if_pos rfl, same_i (n : Int) (by omega), bind_some', decide_eq_true rfl]
      exact tl
end Go.Proofs.Ythjfilmdobkmlaa.P
end
section
namespace Go.Proofs.Ythjfilmdobkmlaa.P
open Go.RowKit Go.Proofs.YthjfilmdobkmlaaW.PrintWords Go.Proofs.YthjfilmdobkmlaaW.PrintLast Go.Proofs.YthjfilmdobkmlaaW.PrintMore
/-- The one pure statement of laws_FnSumsAndMeets. -/
def laws_FnSumsAndMeets.Pure : Prop := ∀ (l0 : List Int) (l1 : List Int), (l0.length ≤ maxLen) → (∀ x ∈ l0, (Lit.int .u8 x).wf = true) → (l1.length ≤ maxLen) → (∀ x ∈ l1, (Lit.int .u8 x).wf = true) → ∃ k, laws_FnSumsAndMeets.f k l0 l1 = some true
end Go.Proofs.Ythjfilmdobkmlaa.P
end
section
namespace Go.Proofs.Ythjfilmdobkmlaa.Pure
theorem FnSumsAndMeets : P.laws_FnSumsAndMeets.Pure := fun l0 l1 _ h1_ _ h3_ => P.IsLim.some_ (P.laws_FnSumsAndMeets.lim l0 l1) (P.FnSumsAndMeets_law l0 l1 h1_ h3_)
end Go.Proofs.Ythjfilmdobkmlaa.Pure
end
