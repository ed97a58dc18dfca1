/- What the functions of the law FnExactColumnSupport tell without rounds, and its pure statement. -/
import Derived.Test.YtngiionckbmkmaaPx0
import Derived.Test.YtngiionckbmkmaaPx1
import Derived.Test.YtngiionckbmkmaaPx4
import Derived.Test.YtngiionckbmkmaaPx2
import Derived.Test.YtngiionckbmkmaaPx6
import Derived.Test.YtngiionckbmkmaaPx14
import Derived.Test.YtngiionckbmkmaaPx16
import Derived.Test.YtngiionckbmkmaaPx22
import Derived.Test.YtngiionckbmkmaaPx8
import Derived.Test.YtngiionckbmkmaaPx9
import Derived.Test.YtngiionckbmkmaaPx29
import Derived.Test.YtngiionckbmkmaaPx7
import Derived.Test.YtngiionckbmkmaaPx3
import Derived.Test.YtngiionckbmkmaaPx5
import Derived.Test.YtngiionckbmkmaaPx11
import Derived.Test.YtngiionckbmkmaaPx47
import Derived.Test.YtngiionckbmkmaaPx48
import Derived.Test.YtngiionckbmkmaaPx69
import Derived.ProofKit
section
namespace Go.Proofs.Ytngiionckbmkmaa.P
open Go.RowKit Go.Proofs.YtngiionckbmkmaaW.PrintWords Go.Proofs.YtngiionckbmkmaaW.PrintLast Go.Proofs.YtngiionckbmkmaaW.PrintMore
def IsLim {α : Type} (g : Nat → Option α) (v : Option α) : Prop := (∀ k, LeO (g k) (g (k + 1))) ∧ ∀ r, v = some r ↔ ∃ k, g k = some r
theorem leO_le {α : Type} {g : Nat → Option α} (h : ∀ k, LeO (g k) (g (k + 1))) {j k : Nat} (hjk : j ≤ k) : LeO (g j) (g k) := by
  induction hjk with
  | refl => exact fun _ e => e
  | step _ ih => exact fun r e => h _ r (ih r e)
open Classical in
noncomputable def lim {α : Type} (g : Nat → Option α) : Option α := if h : ∃ r, ∃ k, g k = some r then some h.choose else none
theorem lim_spec {α : Type} {g : Nat → Option α} (h : ∀ k, LeO (g k) (g (k + 1))) : IsLim g (lim g) := by
  refine ⟨h, fun r => ?_⟩
  unfold lim
  by_cases hx : ∃ r, ∃ k, g k = some r
  · rw [dif_pos hx]
    obtain ⟨k, hk⟩ := hx.choose_spec
    constructor
    · intro e; exact ⟨k, by rw [hk]; exact e⟩
    · rintro ⟨j, hj⟩
      have a := leO_le h (Nat.le_max_left j k) _ hj
      have b := leO_le h (Nat.le_max_right j k) _ hk
      rw [a] at b; exact b.symm
  · rw [dif_neg hx]
    constructor
    · intro e; cases e
    · rintro ⟨k, hk⟩; exact absurd ⟨r, k, hk⟩ hx
theorem IsLim.unique {α : Type} {g : Nat → Option α} {v v' : Option α} (h : IsLim g v) (h' : IsLim g v') : v = v' :=
  Option.ext fun r => (h.2 r).trans (h'.2 r).symm
theorem IsLim.const {α : Type} (v : Option α) : IsLim (fun _ => v) v := ⟨fun _ _ e => e, fun _ => ⟨fun e => ⟨0, e⟩, fun ⟨_, e⟩ => e⟩⟩
theorem IsLim.ite {α : Type} {c : Prop} [Decidable c] {g g' : Nat → Option α} {v v' : Option α} (h : IsLim g v) (h' : IsLim g' v') :
    IsLim (fun k => if c then g k else g' k) (if c then v else v') := by
  by_cases hc : c
  · simp only [if_pos hc]; exact h
  · simp only [if_neg hc]; exact h'
theorem IsLim.bind {α β : Type} {g : Nat → Option α} {v : Option α} {q : Nat → α → Option β} {w : α → Option β}
    (h : IsLim g v) (hq : ∀ x, IsLim (fun k => q k x) (w x)) : IsLim (fun k => (g k).bind (q k)) (v.bind w) := by
  refine ⟨fun k r e => ?_, fun r => ?_⟩
  · obtain ⟨x, hx, hr⟩ := Option.bind_eq_some_iff.mp e
    exact Option.bind_eq_some_iff.mpr ⟨x, h.1 k x hx, (hq x).1 k r hr⟩
  · constructor
    · intro e
      obtain ⟨x, hx, hr⟩ := Option.bind_eq_some_iff.mp e
      obtain ⟨j, hj⟩ := (h.2 x).mp hx
      obtain ⟨k, hk⟩ := ((hq x).2 r).mp hr
      exact ⟨max j k, Option.bind_eq_some_iff.mpr ⟨x, leO_le h.1 (Nat.le_max_left j k) _ hj, leO_le (hq x).1 (Nat.le_max_right j k) _ hk⟩⟩
    · rintro ⟨k, e⟩
      obtain ⟨x, hx, hr⟩ := Option.bind_eq_some_iff.mp e
      exact Option.bind_eq_some_iff.mpr ⟨x, (h.2 x).mpr ⟨k, hx⟩, ((hq x).2 r).mpr ⟨k, hr⟩⟩
theorem IsLim.shift {α : Type} {g : Nat → Option α} {v : Option α} (h0 : g 0 = none) (h : IsLim (fun k => g (k + 1)) v) : IsLim g v := by
  refine ⟨fun k => ?_, fun r => ?_⟩
  · cases k with
    | zero => intro r e; rw [h0] at e; cases e
    | succ k => exact h.1 k
  · rw [h.2 r]
    constructor
    · rintro ⟨k, e⟩; exact ⟨k + 1, e⟩
    · rintro ⟨k, e⟩
      cases k with
      | zero => rw [h0] at e; cases e
      | succ k => exact ⟨k, e⟩
theorem IsLim.some_ {α : Type} {g : Nat → Option α} {v : Option α} {r : α} (h : IsLim g v) (e : v = some r) : ∃ k, g k = some r := (h.2 r).mp e
end Go.Proofs.Ytngiionckbmkmaa.P
end
section
namespace Go.Proofs.Ytngiionckbmkmaa.P
open Go.RowKit Go.Proofs.YtngiionckbmkmaaW.PrintWords Go.Proofs.YtngiionckbmkmaaW.PrintLast Go.Proofs.YtngiionckbmkmaaW.PrintMore
set_option linter.unusedVariables false
noncomputable def spec_l01Degree.d (a0 : Int) : Option (Int) := lim (fun k => spec_l01Degree.f k a0)
theorem spec_l01Degree.lim (a0 : Int) : IsLim (fun k => spec_l01Degree.f k a0) (spec_l01Degree.d a0) := lim_spec (fun k => spec_l01Degree.mono a0 k)
noncomputable def spec_l01Irreducible.d (a0 : Int) : Option (Bool) := lim (fun k => spec_l01Irreducible.f k a0)
theorem spec_l01Irreducible.lim (a0 : Int) : IsLim (fun k => spec_l01Irreducible.f k a0) (spec_l01Irreducible.d a0) := lim_spec (fun k => spec_l01Irreducible.mono a0 k)
noncomputable def spec_IsIrreducible.d (a0 : Int) : Option (Bool) := lim (fun k => spec_IsIrreducible.f k a0)
theorem spec_IsIrreducible.lim (a0 : Int) : IsLim (fun k => spec_IsIrreducible.f k a0) (spec_IsIrreducible.d a0) := lim_spec (fun k => spec_IsIrreducible.mono a0 k)
theorem spec_IsIrreducible.d_eq (a0 : Int) : spec_IsIrreducible.d a0 = if a0 > 0 then (if a0 < 64 then ((spec_l01Irreducible.d a0).bind fun t107 => (some t107)) else (some false)) else (some false) := by
  refine IsLim.unique (spec_IsIrreducible.lim _) ?_
  unfold spec_IsIrreducible.f
  repeat' (first | exact IsLim.const _ | refine IsLim.ite ?_ ?_ | refine IsLim.bind ?_ (fun _ => ?_) | exact spec_l01Irreducible.lim ..)
noncomputable def spec_l01Ok.d (a0_0 : Int) (a0_1 : Int) : Option (Bool) := lim (fun k => spec_l01Ok.f k a0_0 a0_1)
theorem spec_l01Ok.lim (a0_0 : Int) (a0_1 : Int) : IsLim (fun k => spec_l01Ok.f k a0_0 a0_1) (spec_l01Ok.d a0_0 a0_1) := lim_spec (fun k => spec_l01Ok.mono a0_0 a0_1 k)
theorem spec_l01Ok.d_eq (a0_0 : Int) (a0_1 : Int) : spec_l01Ok.d a0_0 a0_1 = (spec_l00In.f a0_0 1 5).bind fun t109 => (if t109 = true then ((spec_IsIrreducible.d a0_1).bind fun t110 => (if t110 = true then ((spec_l01Degree.d a0_1).bind fun t111 => (some (t111 == a0_0))) else (some false))) else (some false)) := by
  refine IsLim.unique (spec_l01Ok.lim _ _) ?_
  unfold spec_l01Ok.f
  repeat' (first | exact IsLim.const _ | refine IsLim.ite ?_ ?_ | refine IsLim.bind ?_ (fun _ => ?_) | exact spec_IsIrreducible.lim .. | exact spec_l01Degree.lim ..)
end Go.Proofs.Ytngiionckbmkmaa.P
end
section
namespace Go.Proofs.Ytngiionckbmkmaa.P
open Go.RowKit Go.Proofs.YtngiionckbmkmaaW.PrintWords Go.Proofs.YtngiionckbmkmaaW.PrintLast Go.Proofs.YtngiionckbmkmaaW.PrintMore
set_option linter.unusedVariables false
end Go.Proofs.Ytngiionckbmkmaa.P
end
section
namespace Go.Proofs.Ytngiionckbmkmaa.P
open Go.RowKit Go.Proofs.YtngiionckbmkmaaW.PrintWords Go.Proofs.YtngiionckbmkmaaW.PrintLast Go.Proofs.YtngiionckbmkmaaW.PrintMore
set_option linter.unusedVariables false
noncomputable def laws_toInt64S.l0d (x0 : List Int) (x3 : List Int) (x4 : Int) : Option (List Int) := lim (fun k => laws_toInt64S.l0 k x0 x3 x4)
theorem laws_toInt64S.l0lim (x0 : List Int) (x3 : List Int) (x4 : Int) : IsLim (fun k => laws_toInt64S.l0 k x0 x3 x4) (laws_toInt64S.l0d x0 x3 x4) := lim_spec (fun k => (laws_toInt64S.mono_l k) x0 x3 x4)
theorem laws_toInt64S.l0d_eq (x0 : List Int) (x3 : List Int) (x4 : Int) : laws_toInt64S.l0d x0 x3 x4 = if x4 < (x0.length : Int) then (if 0 ≤ x4 then (if x4 < (x3.length : Int) then (laws_toInt64S.l0d x0 (x3.set (x4 : Int).toNat (rd x0 x4)) (wrap64 (x4 + 1))) else (none)) else (none)) else (some x3) := by
  refine IsLim.unique (laws_toInt64S.l0lim _ _ _) ?_
  refine IsLim.shift (by rfl) ?_
  simp only [laws_toInt64S.l0]
  repeat' (first | exact IsLim.const _ | refine IsLim.ite ?_ ?_ | refine IsLim.bind ?_ (fun _ => ?_) | exact laws_toInt64S.l0lim ..)
noncomputable def laws_toInt64S.d (l0 : List Int) : Option (List Int) := lim (fun k => laws_toInt64S.f k l0)
theorem laws_toInt64S.lim (l0 : List Int) : IsLim (fun k => laws_toInt64S.f k l0) (laws_toInt64S.d l0) := lim_spec (fun k => laws_toInt64S.mono l0 k)
theorem laws_toInt64S.d_eq (l0 : List Int) : laws_toInt64S.d l0 = if 0 ≤ (l0.length : Int) then (if ((l0.length : Int) : Int).toNat ≤ 35184372088832 then (laws_toInt64S.l0d l0 (List.replicate ((l0.length : Int) : Int).toNat 0) 0) else (none)) else (none) := by
  refine IsLim.unique (laws_toInt64S.lim _) ?_
  unfold laws_toInt64S.f
  repeat' (first | exact IsLim.const _ | refine IsLim.ite ?_ ?_ | refine IsLim.bind ?_ (fun _ => ?_) | exact laws_toInt64S.l0lim ..)
noncomputable def impl_degreeOf.d (a0 : Int) : Option (Int) := lim (fun k => impl_degreeOf.f k a0)
theorem impl_degreeOf.lim (a0 : Int) : IsLim (fun k => impl_degreeOf.f k a0) (impl_degreeOf.d a0) := lim_spec (fun k => impl_degreeOf.mono a0 k)
noncomputable def impl_IsIrreducible.j0d (x0 : Int) (x9 : Bool) : Option (Bool) := lim (fun k => impl_IsIrreducible.j0 k x0 x9)
theorem impl_IsIrreducible.j0lim (x0 : Int) (x9 : Bool) : IsLim (fun k => impl_IsIrreducible.j0 k x0 x9) (impl_IsIrreducible.j0d x0 x9) := lim_spec (fun k => (impl_IsIrreducible.mono_l k).1 x0 x9)
noncomputable def impl_IsIrreducible.l0d (x0 : Int) (x3 : Int) : Option (Bool) := lim (fun k => impl_IsIrreducible.l0 k x0 x3)
theorem impl_IsIrreducible.l0lim (x0 : Int) (x3 : Int) : IsLim (fun k => impl_IsIrreducible.l0 k x0 x3) (impl_IsIrreducible.l0d x0 x3) := lim_spec (fun k => (impl_IsIrreducible.mono_l k).2 x0 x3)
theorem impl_IsIrreducible.j0d_eq (x0 : Int) (x9 : Bool) : impl_IsIrreducible.j0d x0 x9 = if x9 = true then (some false) else (impl_IsIrreducible.l0d x0 2) := by
  refine IsLim.unique (impl_IsIrreducible.j0lim _ _) ?_
  refine IsLim.shift (by rfl) ?_
  simp only [impl_IsIrreducible.j0]
  repeat' (first | exact IsLim.const _ | refine IsLim.ite ?_ ?_ | refine IsLim.bind ?_ (fun _ => ?_) | exact impl_IsIrreducible.l0lim ..)
noncomputable def impl_IsIrreducible.d (a0 : Int) : Option (Bool) := lim (fun k => impl_IsIrreducible.f k a0)
theorem impl_IsIrreducible.lim (a0 : Int) : IsLim (fun k => impl_IsIrreducible.f k a0) (impl_IsIrreducible.d a0) := lim_spec (fun k => impl_IsIrreducible.mono a0 k)
theorem impl_IsIrreducible.d_eq (a0 : Int) : impl_IsIrreducible.d a0 = if a0 < 2 then (impl_IsIrreducible.j0d a0 true) else (impl_IsIrreducible.j0d a0 (decide (a0 ≥ 64))) := by
  refine IsLim.unique (impl_IsIrreducible.lim _) ?_
  unfold impl_IsIrreducible.f
  repeat' (first | exact IsLim.const _ | refine IsLim.ite ?_ ?_ | refine IsLim.bind ?_ (fun _ => ?_) | exact impl_IsIrreducible.j0lim ..)
noncomputable def impl_ValidField.d (a0_0 : Int) (a0_1 : Int) : Option (Bool) := lim (fun k => impl_ValidField.f k a0_0 a0_1)
theorem impl_ValidField.lim (a0_0 : Int) (a0_1 : Int) : IsLim (fun k => impl_ValidField.f k a0_0 a0_1) (impl_ValidField.d a0_0 a0_1) := lim_spec (fun k => impl_ValidField.mono a0_0 a0_1 k)
theorem impl_ValidField.d_eq (a0_0 : Int) (a0_1 : Int) : impl_ValidField.d a0_0 a0_1 = (impl_within.f a0_0 1 5).bind fun t150 => (if t150 = true then ((impl_IsIrreducible.d a0_1).bind fun t151 => (if t151 = true then ((impl_degreeOf.d a0_1).bind fun t152 => (some (t152 == a0_0))) else (some false))) else (some false)) := by
  refine IsLim.unique (impl_ValidField.lim _ _) ?_
  unfold impl_ValidField.f
  repeat' (first | exact IsLim.const _ | refine IsLim.ite ?_ ?_ | refine IsLim.bind ?_ (fun _ => ?_) | exact impl_IsIrreducible.lim .. | exact impl_degreeOf.lim ..)
noncomputable def laws_eqInt64S.l0d (x0 : List Int) (x1 : List Int) (x5 : Int) : Option (Bool) := lim (fun k => laws_eqInt64S.l0 k x0 x1 x5)
theorem laws_eqInt64S.l0lim (x0 : List Int) (x1 : List Int) (x5 : Int) : IsLim (fun k => laws_eqInt64S.l0 k x0 x1 x5) (laws_eqInt64S.l0d x0 x1 x5) := lim_spec (fun k => (laws_eqInt64S.mono_l k) x0 x1 x5)
theorem laws_eqInt64S.l0d_eq (x0 : List Int) (x1 : List Int) (x5 : Int) : laws_eqInt64S.l0d x0 x1 x5 = if x5 < (x0.length : Int) then (if 0 ≤ x5 then (if x5 < (x1.length : Int) then (if (rd x0 x5) = (rd x1 x5) then (laws_eqInt64S.l0d x0 x1 (wrap64 (x5 + 1))) else (some false)) else (none)) else (none)) else (some true) := by
  refine IsLim.unique (laws_eqInt64S.l0lim _ _ _) ?_
  refine IsLim.shift (by rfl) ?_
  simp only [laws_eqInt64S.l0]
  repeat' (first | exact IsLim.const _ | refine IsLim.ite ?_ ?_ | refine IsLim.bind ?_ (fun _ => ?_) | exact laws_eqInt64S.l0lim ..)
noncomputable def laws_eqInt64S.d (l0 : List Int) (l1 : List Int) : Option (Bool) := lim (fun k => laws_eqInt64S.f k l0 l1)
theorem laws_eqInt64S.lim (l0 : List Int) (l1 : List Int) : IsLim (fun k => laws_eqInt64S.f k l0 l1) (laws_eqInt64S.d l0 l1) := lim_spec (fun k => laws_eqInt64S.mono l0 l1 k)
theorem laws_eqInt64S.d_eq (l0 : List Int) (l1 : List Int) : laws_eqInt64S.d l0 l1 = if (l0.length : Int) = (l1.length : Int) then (laws_eqInt64S.l0d l0 l1 0) else (some false) := by
  refine IsLim.unique (laws_eqInt64S.lim _ _) ?_
  unfold laws_eqInt64S.f
  repeat' (first | exact IsLim.const _ | refine IsLim.ite ?_ ?_ | refine IsLim.bind ?_ (fun _ => ?_) | exact laws_eqInt64S.l0lim ..)
end Go.Proofs.Ytngiionckbmkmaa.P
end
section
namespace Go.Proofs.Ytngiionckbmkmaa.P
open Go.RowKit Go.Proofs.YtngiionckbmkmaaW.PrintWords Go.Proofs.YtngiionckbmkmaaW.PrintLast Go.Proofs.YtngiionckbmkmaaW.PrintMore
set_option linter.unusedVariables false
noncomputable def laws_markInt64S.l0d (x0 : List Int) (x1 : Int) (x5 : Int) : Option (Int × List Int) := lim (fun k => laws_markInt64S.l0 k x0 x1 x5)
theorem laws_markInt64S.l0lim (x0 : List Int) (x1 : Int) (x5 : Int) : IsLim (fun k => laws_markInt64S.l0 k x0 x1 x5) (laws_markInt64S.l0d x0 x1 x5) := lim_spec (fun k => (laws_markInt64S.mono_l k) x0 x1 x5)
theorem laws_markInt64S.l0d_eq (x0 : List Int) (x1 : Int) (x5 : Int) : laws_markInt64S.l0d x0 x1 x5 = if x5 < (x0.length : Int) then (if 0 ≤ x5 then (laws_markInt64S.l0d (x0.set (x5 : Int).toNat x1) (wrap64 (x1 + 1)) (wrap64 (x5 + 1))) else (none)) else (some (x1, x0)) := by
  refine IsLim.unique (laws_markInt64S.l0lim _ _ _) ?_
  refine IsLim.shift (by rfl) ?_
  simp only [laws_markInt64S.l0]
  repeat' (first | exact IsLim.const _ | refine IsLim.ite ?_ ?_ | refine IsLim.bind ?_ (fun _ => ?_) | exact laws_markInt64S.l0lim ..)
noncomputable def laws_markInt64S.d (l0 : List Int) (a1 : Int) : Option (Int × List Int) := lim (fun k => laws_markInt64S.f k l0 a1)
theorem laws_markInt64S.lim (l0 : List Int) (a1 : Int) : IsLim (fun k => laws_markInt64S.f k l0 a1) (laws_markInt64S.d l0 a1) := lim_spec (fun k => laws_markInt64S.mono l0 a1 k)
theorem laws_markInt64S.d_eq (l0 : List Int) (a1 : Int) : laws_markInt64S.d l0 a1 = laws_markInt64S.l0d l0 a1 0 := by
  refine IsLim.unique (laws_markInt64S.lim _ _) ?_
  unfold laws_markInt64S.f
  repeat' (first | exact IsLim.const _ | refine IsLim.ite ?_ ?_ | refine IsLim.bind ?_ (fun _ => ?_) | exact laws_markInt64S.l0lim ..)
noncomputable def laws_heldInt64S.l0d (x0 : List Int) (x1 : Int) (x5 : Int) : Option (Int) := lim (fun k => laws_heldInt64S.l0 k x0 x1 x5)
theorem laws_heldInt64S.l0lim (x0 : List Int) (x1 : Int) (x5 : Int) : IsLim (fun k => laws_heldInt64S.l0 k x0 x1 x5) (laws_heldInt64S.l0d x0 x1 x5) := lim_spec (fun k => (laws_heldInt64S.mono_l k) x0 x1 x5)
theorem laws_heldInt64S.l0d_eq (x0 : List Int) (x1 : Int) (x5 : Int) : laws_heldInt64S.l0d x0 x1 x5 = if x5 < (x0.length : Int) then (if 0 ≤ x5 then (if (rd x0 x5) = x1 then (laws_heldInt64S.l0d x0 (wrap64 (x1 + 1)) (wrap64 (x5 + 1))) else (some (-1))) else (none)) else (some x1) := by
  refine IsLim.unique (laws_heldInt64S.l0lim _ _ _) ?_
  refine IsLim.shift (by rfl) ?_
  simp only [laws_heldInt64S.l0]
  repeat' (first | exact IsLim.const _ | refine IsLim.ite ?_ ?_ | refine IsLim.bind ?_ (fun _ => ?_) | exact laws_heldInt64S.l0lim ..)
noncomputable def laws_heldInt64S.d (l0 : List Int) (a1 : Int) : Option (Int) := lim (fun k => laws_heldInt64S.f k l0 a1)
theorem laws_heldInt64S.lim (l0 : List Int) (a1 : Int) : IsLim (fun k => laws_heldInt64S.f k l0 a1) (laws_heldInt64S.d l0 a1) := lim_spec (fun k => laws_heldInt64S.mono l0 a1 k)
theorem laws_heldInt64S.d_eq (l0 : List Int) (a1 : Int) : laws_heldInt64S.d l0 a1 = laws_heldInt64S.l0d l0 a1 0 := by
  refine IsLim.unique (laws_heldInt64S.lim _ _) ?_
  unfold laws_heldInt64S.f
  repeat' (first | exact IsLim.const _ | refine IsLim.ite ?_ ?_ | refine IsLim.bind ?_ (fun _ => ?_) | exact laws_heldInt64S.l0lim ..)
end Go.Proofs.Ytngiionckbmkmaa.P
end
section
namespace Go.Proofs.Ytngiionckbmkmaa.P
open Go.RowKit Go.Proofs.YtngiionckbmkmaaW.PrintWords Go.Proofs.YtngiionckbmkmaaW.PrintLast Go.Proofs.YtngiionckbmkmaaW.PrintMore
set_option linter.unusedVariables false
noncomputable def laws_eqMatrix.d (a0_0 : Int) (l0_1 : List Int) (a1_0 : Int) (l1_1 : List Int) : Option (Bool) := lim (fun k => laws_eqMatrix.f k a0_0 l0_1 a1_0 l1_1)
theorem laws_eqMatrix.lim (a0_0 : Int) (l0_1 : List Int) (a1_0 : Int) (l1_1 : List Int) : IsLim (fun k => laws_eqMatrix.f k a0_0 l0_1 a1_0 l1_1) (laws_eqMatrix.d a0_0 l0_1 a1_0 l1_1) := lim_spec (fun k => laws_eqMatrix.mono a0_0 l0_1 a1_0 l1_1 k)
theorem laws_eqMatrix.d_eq (a0_0 : Int) (l0_1 : List Int) (a1_0 : Int) (l1_1 : List Int) : laws_eqMatrix.d a0_0 l0_1 a1_0 l1_1 = if a0_0 = a1_0 then ((laws_eqInt64S.d l0_1 l1_1).bind fun t193 => (if t193 = true then (some true) else (some false))) else (some false) := by
  refine IsLim.unique (laws_eqMatrix.lim _ _ _ _) ?_
  unfold laws_eqMatrix.f
  repeat' (first | exact IsLim.const _ | refine IsLim.ite ?_ ?_ | refine IsLim.bind ?_ (fun _ => ?_) | exact laws_eqInt64S.lim ..)
noncomputable def laws_markMatrix.d (a0_0 : Int) (l0_1 : List Int) (a1 : Int) : Option (Int × List Int) := lim (fun k => laws_markMatrix.f k a0_0 l0_1 a1)
theorem laws_markMatrix.lim (a0_0 : Int) (l0_1 : List Int) (a1 : Int) : IsLim (fun k => laws_markMatrix.f k a0_0 l0_1 a1) (laws_markMatrix.d a0_0 l0_1 a1) := lim_spec (fun k => laws_markMatrix.mono a0_0 l0_1 a1 k)
theorem laws_markMatrix.d_eq (a0_0 : Int) (l0_1 : List Int) (a1 : Int) : laws_markMatrix.d a0_0 l0_1 a1 = (laws_markInt64S.d l0_1 a1).bind fun bt196 => (some (bt196.1, bt196.2)) := by
  refine IsLim.unique (laws_markMatrix.lim _ _ _) ?_
  unfold laws_markMatrix.f
  repeat' (first | exact IsLim.const _ | refine IsLim.ite ?_ ?_ | refine IsLim.bind ?_ (fun _ => ?_) | exact laws_markInt64S.lim ..)
end Go.Proofs.Ytngiionckbmkmaa.P
end
section
namespace Go.Proofs.Ytngiionckbmkmaa.P
open Go.RowKit Go.Proofs.YtngiionckbmkmaaW.PrintWords Go.Proofs.YtngiionckbmkmaaW.PrintLast Go.Proofs.YtngiionckbmkmaaW.PrintMore
set_option linter.unusedVariables false
noncomputable def laws_heldMatrix.d (a0_0 : Int) (l0_1 : List Int) (a1 : Int) : Option (Int) := lim (fun k => laws_heldMatrix.f k a0_0 l0_1 a1)
theorem laws_heldMatrix.lim (a0_0 : Int) (l0_1 : List Int) (a1 : Int) : IsLim (fun k => laws_heldMatrix.f k a0_0 l0_1 a1) (laws_heldMatrix.d a0_0 l0_1 a1) := lim_spec (fun k => laws_heldMatrix.mono a0_0 l0_1 a1 k)
theorem laws_heldMatrix.d_eq (a0_0 : Int) (l0_1 : List Int) (a1 : Int) : laws_heldMatrix.d a0_0 l0_1 a1 = (laws_heldInt64S.d l0_1 a1).bind fun t200 => (if t200 < 0 then (some (-1)) else (some t200)) := by
  refine IsLim.unique (laws_heldMatrix.lim _ _ _) ?_
  unfold laws_heldMatrix.f
  repeat' (first | exact IsLim.const _ | refine IsLim.ite ?_ ?_ | refine IsLim.bind ?_ (fun _ => ?_) | exact laws_heldInt64S.lim ..)
end Go.Proofs.Ytngiionckbmkmaa.P
end
section
namespace Go.Proofs.Ytngiionckbmkmaa.P
open Go.RowKit Go.Proofs.YtngiionckbmkmaaW.PrintWords Go.Proofs.YtngiionckbmkmaaW.PrintLast Go.Proofs.YtngiionckbmkmaaW.PrintMore
set_option linter.unusedVariables false
end Go.Proofs.Ytngiionckbmkmaa.P
end
section
namespace Go.Proofs.Ytngiionckbmkmaa.P
open Go.RowKit Go.Proofs.YtngiionckbmkmaaW.PrintWords Go.Proofs.YtngiionckbmkmaaW.PrintLast Go.Proofs.YtngiionckbmkmaaW.PrintMore
set_option linter.unusedVariables false
noncomputable def slices_IndexFunc_int64_int64_AT_impl_echelon_1.l0d (x0 : List Int) (x7 : Int) (x8 : Int) (x49000 : Int) : Option (Int) := lim (fun k => slices_IndexFunc_int64_int64_AT_impl_echelon_1.l0 k x0 x7 x8 x49000)
theorem slices_IndexFunc_int64_int64_AT_impl_echelon_1.l0lim (x0 : List Int) (x7 : Int) (x8 : Int) (x49000 : Int) : IsLim (fun k => slices_IndexFunc_int64_int64_AT_impl_echelon_1.l0 k x0 x7 x8 x49000) (slices_IndexFunc_int64_int64_AT_impl_echelon_1.l0d x0 x7 x8 x49000) := lim_spec (fun k => (slices_IndexFunc_int64_int64_AT_impl_echelon_1.mono_l k) x0 x7 x8 x49000)
theorem slices_IndexFunc_int64_int64_AT_impl_echelon_1.l0d_eq (x0 : List Int) (x7 : Int) (x8 : Int) (x49000 : Int) : slices_IndexFunc_int64_int64_AT_impl_echelon_1.l0d x0 x7 x8 x49000 = if x8 < x7 then (if 0 ≤ x8 then (if x8 < (x0.length : Int) then ((impl_echelon_1.f (rd x0 x8) x49000).bind fun t355 => (if t355 = true then (some x8) else (slices_IndexFunc_int64_int64_AT_impl_echelon_1.l0d x0 x7 (wrap64 (x8 + 1)) x49000))) else (none)) else (none)) else (some (-1)) := by
  refine IsLim.unique (slices_IndexFunc_int64_int64_AT_impl_echelon_1.l0lim _ _ _ _) ?_
  refine IsLim.shift (by rfl) ?_
  simp only [slices_IndexFunc_int64_int64_AT_impl_echelon_1.l0]
  repeat' (first | exact IsLim.const _ | refine IsLim.ite ?_ ?_ | refine IsLim.bind ?_ (fun _ => ?_) | exact slices_IndexFunc_int64_int64_AT_impl_echelon_1.l0lim ..)
noncomputable def slices_IndexFunc_int64_int64_AT_impl_echelon_1.d (l0 : List Int) (a1_0 : Int) : Option (Int) := lim (fun k => slices_IndexFunc_int64_int64_AT_impl_echelon_1.f k l0 a1_0)
theorem slices_IndexFunc_int64_int64_AT_impl_echelon_1.lim (l0 : List Int) (a1_0 : Int) : IsLim (fun k => slices_IndexFunc_int64_int64_AT_impl_echelon_1.f k l0 a1_0) (slices_IndexFunc_int64_int64_AT_impl_echelon_1.d l0 a1_0) := lim_spec (fun k => slices_IndexFunc_int64_int64_AT_impl_echelon_1.mono l0 a1_0 k)
theorem slices_IndexFunc_int64_int64_AT_impl_echelon_1.d_eq (l0 : List Int) (a1_0 : Int) : slices_IndexFunc_int64_int64_AT_impl_echelon_1.d l0 a1_0 = slices_IndexFunc_int64_int64_AT_impl_echelon_1.l0d l0 (l0.length : Int) 0 a1_0 := by
  refine IsLim.unique (slices_IndexFunc_int64_int64_AT_impl_echelon_1.lim _ _) ?_
  unfold slices_IndexFunc_int64_int64_AT_impl_echelon_1.f
  repeat' (first | exact IsLim.const _ | refine IsLim.ite ?_ ?_ | refine IsLim.bind ?_ (fun _ => ?_) | exact slices_IndexFunc_int64_int64_AT_impl_echelon_1.l0lim ..)
end Go.Proofs.Ytngiionckbmkmaa.P
end
section
namespace Go.Proofs.Ytngiionckbmkmaa.P
open Go.RowKit Go.Proofs.YtngiionckbmkmaaW.PrintWords Go.Proofs.YtngiionckbmkmaaW.PrintLast Go.Proofs.YtngiionckbmkmaaW.PrintMore
set_option linter.unusedVariables false
noncomputable def impl_echelon.l0d (x0 : List Int) (x3 : Int) (x360000 : Int) : Option (List Int) := lim (fun k => impl_echelon.l0 k x0 x3 x360000)
theorem impl_echelon.l0lim (x0 : List Int) (x3 : Int) (x360000 : Int) : IsLim (fun k => impl_echelon.l0 k x0 x3 x360000) (impl_echelon.l0d x0 x3 x360000) := lim_spec (fun k => (impl_echelon.mono_l k).1 x0 x3 x360000)
noncomputable def impl_echelon.j1d (x0 : List Int) (x3 : Int) (x16 : Bool) (x360000 : Int) : Option (List Int) := lim (fun k => impl_echelon.j1 k x0 x3 x16 x360000)
theorem impl_echelon.j1lim (x0 : List Int) (x3 : Int) (x16 : Bool) (x360000 : Int) : IsLim (fun k => impl_echelon.j1 k x0 x3 x16 x360000) (impl_echelon.j1d x0 x3 x16 x360000) := lim_spec (fun k => (impl_echelon.mono_l k).2.1 x0 x3 x16 x360000)
noncomputable def impl_echelon.l1d (x0 : List Int) (x3 : Int) (x45 : Int) (x46 : Int) (x360000 : Int) : Option (List Int) := lim (fun k => impl_echelon.l1 k x0 x3 x45 x46 x360000)
theorem impl_echelon.l1lim (x0 : List Int) (x3 : Int) (x45 : Int) (x46 : Int) (x360000 : Int) : IsLim (fun k => impl_echelon.l1 k x0 x3 x45 x46 x360000) (impl_echelon.l1d x0 x3 x45 x46 x360000) := lim_spec (fun k => (impl_echelon.mono_l k).2.2 x0 x3 x45 x46 x360000)
theorem impl_echelon.l0d_eq (x0 : List Int) (x3 : Int) (x360000 : Int) : impl_echelon.l0d x0 x3 x360000 = if x360000 < 62 then (impl_echelon.j1d x0 x3 (decide (x3 < (x0.length : Int))) x360000) else (impl_echelon.j1d x0 x3 false x360000) := by
  refine IsLim.unique (impl_echelon.l0lim _ _ _) ?_
  refine IsLim.shift (by rfl) ?_
  simp only [impl_echelon.l0]
  repeat' (first | exact IsLim.const _ | refine IsLim.ite ?_ ?_ | refine IsLim.bind ?_ (fun _ => ?_) | exact impl_echelon.j1lim ..)
theorem impl_echelon.j1d_eq (x0 : List Int) (x3 : Int) (x16 : Bool) (x360000 : Int) : impl_echelon.j1d x0 x3 x16 x360000 = if x16 = true then (if 0 ≤ x3 then (if x3 ≤ (x0.length : Int) then ((slices_IndexFunc_int64_int64_AT_impl_echelon_1.d (x0.drop (x3 : Int).toNat) x360000).bind fun t367 => (if t367 < 0 then (impl_echelon.l0d x0 x3 (wrap64 (x360000 + 1))) else (if 0 ≤ (wrap64 (x3 + t367)) then (if (wrap64 (x3 + t367)) < (x0.length : Int) then (if x3 < (x0.length : Int) then (impl_echelon.l1d ((x0.set (x3 : Int).toNat (rd x0 (wrap64 (x3 + t367)))).set ((wrap64 (x3 + t367)) : Int).toNat (rd x0 x3)) x3 (x0.length : Int) 0 x360000) else (none)) else (none)) else (none)))) else (none)) else (none)) else (if 0 ≤ x3 then (if x3 ≤ (x0.length : Int) then (some (x0.take (x3 : Int).toNat)) else (none)) else (none)) := by
  refine IsLim.unique (impl_echelon.j1lim _ _ _ _) ?_
  refine IsLim.shift (by rfl) ?_
  simp only [impl_echelon.j1]
  repeat' (first | exact IsLim.const _ | refine IsLim.ite ?_ ?_ | refine IsLim.bind ?_ (fun _ => ?_) | exact slices_IndexFunc_int64_int64_AT_impl_echelon_1.lim .. | exact impl_echelon.l0lim .. | exact impl_echelon.l1lim ..)
theorem impl_echelon.l1d_eq (x0 : List Int) (x3 : Int) (x45 : Int) (x46 : Int) (x360000 : Int) : impl_echelon.l1d x0 x3 x45 x46 x360000 = if x46 < x45 then (if x46 = x3 then (impl_echelon.l1d x0 x3 x45 (wrap64 (x46 + 1)) x360000) else (if 0 ≤ x46 then (if x46 < (x0.length : Int) then (if 0 ≤ x360000 then (if (Go.bits .and .i64 (shr .i64 (rd x0 x46) x360000) 1) = 1 then (if 0 ≤ x3 then (if x3 < (x0.length : Int) then (impl_echelon.l1d (x0.set (x46 : Int).toNat (Go.bits .xor .i64 (rd x0 x46) (rd x0 x3))) x3 x45 (wrap64 (x46 + 1)) x360000) else (none)) else (none)) else (impl_echelon.l1d x0 x3 x45 (wrap64 (x46 + 1)) x360000)) else (none)) else (none)) else (none))) else (impl_echelon.l0d x0 (wrap64 (x3 + 1)) (wrap64 (x360000 + 1))) := by
  refine IsLim.unique (impl_echelon.l1lim _ _ _ _ _) ?_
  refine IsLim.shift (by rfl) ?_
  simp only [impl_echelon.l1]
  repeat' (first | exact IsLim.const _ | refine IsLim.ite ?_ ?_ | refine IsLim.bind ?_ (fun _ => ?_) | exact impl_echelon.l1lim .. | exact impl_echelon.l0lim ..)
noncomputable def impl_echelon.d (l0 : List Int) : Option (List Int) := lim (fun k => impl_echelon.f k l0)
theorem impl_echelon.lim (l0 : List Int) : IsLim (fun k => impl_echelon.f k l0) (impl_echelon.d l0) := lim_spec (fun k => impl_echelon.mono l0 k)
theorem impl_echelon.d_eq (l0 : List Int) : impl_echelon.d l0 = (slices_Clone_int64_int64.f l0).bind fun t356 => (impl_echelon.l0d t356 0 0) := by
  refine IsLim.unique (impl_echelon.lim _) ?_
  unfold impl_echelon.f
  repeat' (first | exact IsLim.const _ | refine IsLim.ite ?_ ?_ | refine IsLim.bind ?_ (fun _ => ?_) | exact impl_echelon.l0lim ..)
end Go.Proofs.Ytngiionckbmkmaa.P
end
section
namespace Go.Proofs.Ytngiionckbmkmaa.P
open Go.RowKit Go.Proofs.YtngiionckbmkmaaW.PrintWords Go.Proofs.YtngiionckbmkmaaW.PrintLast Go.Proofs.YtngiionckbmkmaaW.PrintMore
set_option linter.unusedVariables false
noncomputable def impl_Matrix_form.d (a0_0 : Int) (l0_1 : List Int) : Option (Int × List Int) := lim (fun k => impl_Matrix_form.f k a0_0 l0_1)
theorem impl_Matrix_form.lim (a0_0 : Int) (l0_1 : List Int) : IsLim (fun k => impl_Matrix_form.f k a0_0 l0_1) (impl_Matrix_form.d a0_0 l0_1) := lim_spec (fun k => impl_Matrix_form.mono a0_0 l0_1 k)
theorem impl_Matrix_form.d_eq (a0_0 : Int) (l0_1 : List Int) : impl_Matrix_form.d a0_0 l0_1 = (impl_echelon.d l0_1).bind fun t629 => (some (a0_0, t629)) := by
  refine IsLim.unique (impl_Matrix_form.lim _ _) ?_
  unfold impl_Matrix_form.f
  repeat' (first | exact IsLim.const _ | refine IsLim.ite ?_ ?_ | refine IsLim.bind ?_ (fun _ => ?_) | exact impl_echelon.lim ..)
end Go.Proofs.Ytngiionckbmkmaa.P
end
section
namespace Go.Proofs.Ytngiionckbmkmaa.P
open Go.RowKit Go.Proofs.YtngiionckbmkmaaW.PrintWords Go.Proofs.YtngiionckbmkmaaW.PrintLast Go.Proofs.YtngiionckbmkmaaW.PrintMore
set_option linter.unusedVariables false
noncomputable def spec_l02Echelon.l0d (x0 : Int) (x5 : List Int) (x6 : List Int) (x7 : Int) : Option (List Int) := lim (fun k => spec_l02Echelon.l0 k x0 x5 x6 x7)
theorem spec_l02Echelon.l0lim (x0 : Int) (x5 : List Int) (x6 : List Int) (x7 : Int) : IsLim (fun k => spec_l02Echelon.l0 k x0 x5 x6 x7) (spec_l02Echelon.l0d x0 x5 x6 x7) := lim_spec (fun k => (spec_l02Echelon.mono_l k).1 x0 x5 x6 x7)
noncomputable def spec_l02Echelon.l1d (x0 : Int) (x5 : List Int) (x6 : List Int) (x7 : Int) (x8 : Int) (x9 : Int) : Option (List Int) := lim (fun k => spec_l02Echelon.l1 k x0 x5 x6 x7 x8 x9)
theorem spec_l02Echelon.l1lim (x0 : Int) (x5 : List Int) (x6 : List Int) (x7 : Int) (x8 : Int) (x9 : Int) : IsLim (fun k => spec_l02Echelon.l1 k x0 x5 x6 x7 x8 x9) (spec_l02Echelon.l1d x0 x5 x6 x7 x8 x9) := lim_spec (fun k => (spec_l02Echelon.mono_l k).2.1 x0 x5 x6 x7 x8 x9)
noncomputable def spec_l02Echelon.j2d (x0 : Int) (x5 : List Int) (x6 : List Int) (x7 : Int) (x8 : Int) (x9 : Int) (x28 : Bool) : Option (List Int) := lim (fun k => spec_l02Echelon.j2 k x0 x5 x6 x7 x8 x9 x28)
theorem spec_l02Echelon.j2lim (x0 : Int) (x5 : List Int) (x6 : List Int) (x7 : Int) (x8 : Int) (x9 : Int) (x28 : Bool) : IsLim (fun k => spec_l02Echelon.j2 k x0 x5 x6 x7 x8 x9 x28) (spec_l02Echelon.j2d x0 x5 x6 x7 x8 x9 x28) := lim_spec (fun k => (spec_l02Echelon.mono_l k).2.2.1 x0 x5 x6 x7 x8 x9 x28)
noncomputable def spec_l02Echelon.l2d (x0 : Int) (x5 : List Int) (x6 : List Int) (x7 : Int) (x10 : Int) (x11 : Int) : Option (List Int) := lim (fun k => spec_l02Echelon.l2 k x0 x5 x6 x7 x10 x11)
theorem spec_l02Echelon.l2lim (x0 : Int) (x5 : List Int) (x6 : List Int) (x7 : Int) (x10 : Int) (x11 : Int) : IsLim (fun k => spec_l02Echelon.l2 k x0 x5 x6 x7 x10 x11) (spec_l02Echelon.l2d x0 x5 x6 x7 x10 x11) := lim_spec (fun k => (spec_l02Echelon.mono_l k).2.2.2.1 x0 x5 x6 x7 x10 x11)
noncomputable def spec_l02Echelon.l3d (x0 : Int) (x5 : List Int) (x6 : List Int) (x7 : Int) (x10 : Int) (x12 : Int) : Option (List Int) := lim (fun k => spec_l02Echelon.l3 k x0 x5 x6 x7 x10 x12)
theorem spec_l02Echelon.l3lim (x0 : Int) (x5 : List Int) (x6 : List Int) (x7 : Int) (x10 : Int) (x12 : Int) : IsLim (fun k => spec_l02Echelon.l3 k x0 x5 x6 x7 x10 x12) (spec_l02Echelon.l3d x0 x5 x6 x7 x10 x12) := lim_spec (fun k => (spec_l02Echelon.mono_l k).2.2.2.2 x0 x5 x6 x7 x10 x12)
theorem spec_l02Echelon.l0d_eq (x0 : Int) (x5 : List Int) (x6 : List Int) (x7 : Int) : spec_l02Echelon.l0d x0 x5 x6 x7 = if x7 < x0 then (spec_l02Echelon.l1d x0 x5 x6 x7 (-1) 0) else (some x6) := by
  refine IsLim.unique (spec_l02Echelon.l0lim _ _ _ _) ?_
  refine IsLim.shift (by rfl) ?_
  simp only [spec_l02Echelon.l0]
  repeat' (first | exact IsLim.const _ | refine IsLim.ite ?_ ?_ | refine IsLim.bind ?_ (fun _ => ?_) | exact spec_l02Echelon.l1lim ..)
theorem spec_l02Echelon.l1d_eq (x0 : Int) (x5 : List Int) (x6 : List Int) (x7 : Int) (x8 : Int) (x9 : Int) : spec_l02Echelon.l1d x0 x5 x6 x7 x8 x9 = if x9 < (x5.length : Int) then (spec_l02Echelon.j2d x0 x5 x6 x7 x8 x9 (decide (x8 < 0))) else (spec_l02Echelon.j2d x0 x5 x6 x7 x8 x9 false) := by
  refine IsLim.unique (spec_l02Echelon.l1lim _ _ _ _ _ _) ?_
  refine IsLim.shift (by rfl) ?_
  simp only [spec_l02Echelon.l1]
  repeat' (first | exact IsLim.const _ | refine IsLim.ite ?_ ?_ | refine IsLim.bind ?_ (fun _ => ?_) | exact spec_l02Echelon.j2lim ..)
theorem spec_l02Echelon.j2d_eq (x0 : Int) (x5 : List Int) (x6 : List Int) (x7 : Int) (x8 : Int) (x9 : Int) (x28 : Bool) : spec_l02Echelon.j2d x0 x5 x6 x7 x8 x9 x28 = if x28 = true then (if 0 ≤ x9 then (if x9 < (x5.length : Int) then ((spec_l02Bit.f (rd x5 x9) x7).bind fun t334 => (if t334 = 1 then (spec_l02Echelon.l1d x0 x5 x6 x7 x9 (wrap64 (x9 + 1))) else (spec_l02Echelon.l1d x0 x5 x6 x7 x8 (wrap64 (x9 + 1))))) else (none)) else (none)) else (if x8 < 0 then (spec_l02Echelon.l0d x0 x5 x6 (wrap64 (x7 + 1))) else (if 0 ≤ x8 then (if x8 < (x5.length : Int) then (spec_l02Echelon.l2d x0 (x5.set (x8 : Int).toNat 0) x6 x7 (rd x5 x8) 0) else (none)) else (none))) := by
  refine IsLim.unique (spec_l02Echelon.j2lim _ _ _ _ _ _ _) ?_
  refine IsLim.shift (by rfl) ?_
  simp only [spec_l02Echelon.j2]
  repeat' (first | exact IsLim.const _ | refine IsLim.ite ?_ ?_ | refine IsLim.bind ?_ (fun _ => ?_) | exact spec_l02Echelon.l1lim .. | exact spec_l02Echelon.l0lim .. | exact spec_l02Echelon.l2lim ..)
theorem spec_l02Echelon.l2d_eq (x0 : Int) (x5 : List Int) (x6 : List Int) (x7 : Int) (x10 : Int) (x11 : Int) : spec_l02Echelon.l2d x0 x5 x6 x7 x10 x11 = if x11 < (x5.length : Int) then (if 0 ≤ x11 then ((spec_l02Bit.f (rd x5 x11) x7).bind fun t338 => (if t338 = 1 then (spec_l02Echelon.l2d x0 (x5.set (x11 : Int).toNat (Go.bits .xor .i64 (rd x5 x11) x10)) x6 x7 x10 (wrap64 (x11 + 1))) else (spec_l02Echelon.l2d x0 x5 x6 x7 x10 (wrap64 (x11 + 1))))) else (none)) else (spec_l02Echelon.l3d x0 x5 x6 x7 x10 0) := by
  refine IsLim.unique (spec_l02Echelon.l2lim _ _ _ _ _ _) ?_
  refine IsLim.shift (by rfl) ?_
  simp only [spec_l02Echelon.l2]
  repeat' (first | exact IsLim.const _ | refine IsLim.ite ?_ ?_ | refine IsLim.bind ?_ (fun _ => ?_) | exact spec_l02Echelon.l2lim .. | exact spec_l02Echelon.l3lim ..)
theorem spec_l02Echelon.l3d_eq (x0 : Int) (x5 : List Int) (x6 : List Int) (x7 : Int) (x10 : Int) (x12 : Int) : spec_l02Echelon.l3d x0 x5 x6 x7 x10 x12 = if x12 < (x6.length : Int) then (if 0 ≤ x12 then ((spec_l02Bit.f (rd x6 x12) x7).bind fun t342 => (if t342 = 1 then (spec_l02Echelon.l3d x0 x5 (x6.set (x12 : Int).toNat (Go.bits .xor .i64 (rd x6 x12) x10)) x7 x10 (wrap64 (x12 + 1))) else (spec_l02Echelon.l3d x0 x5 x6 x7 x10 (wrap64 (x12 + 1))))) else (none)) else (if x6.length < 17592186044416 then (spec_l02Echelon.l0d x0 x5 (x6 ++ [x10]) (wrap64 (x7 + 1))) else (none)) := by
  refine IsLim.unique (spec_l02Echelon.l3lim _ _ _ _ _ _) ?_
  refine IsLim.shift (by rfl) ?_
  simp only [spec_l02Echelon.l3]
  repeat' (first | exact IsLim.const _ | refine IsLim.ite ?_ ?_ | refine IsLim.bind ?_ (fun _ => ?_) | exact spec_l02Echelon.l3lim .. | exact spec_l02Echelon.l0lim ..)
noncomputable def spec_l02Echelon.d (a0 : Int) (l1 : List Int) : Option (List Int) := lim (fun k => spec_l02Echelon.f k a0 l1)
theorem spec_l02Echelon.lim (a0 : Int) (l1 : List Int) : IsLim (fun k => spec_l02Echelon.f k a0 l1) (spec_l02Echelon.d a0 l1) := lim_spec (fun k => spec_l02Echelon.mono a0 l1 k)
theorem spec_l02Echelon.d_eq (a0 : Int) (l1 : List Int) : spec_l02Echelon.d a0 l1 = (spec_l00Own.f l1).bind fun t327 => (spec_l02Echelon.l0d a0 t327 (([] : List Int)) 0) := by
  refine IsLim.unique (spec_l02Echelon.lim _ _) ?_
  unfold spec_l02Echelon.f
  repeat' (first | exact IsLim.const _ | refine IsLim.ite ?_ ?_ | refine IsLim.bind ?_ (fun _ => ?_) | exact spec_l02Echelon.l0lim ..)
end Go.Proofs.Ytngiionckbmkmaa.P
end
section
namespace Go.Proofs.Ytngiionckbmkmaa.P
open Go.RowKit Go.Proofs.YtngiionckbmkmaaW.PrintWords Go.Proofs.YtngiionckbmkmaaW.PrintLast Go.Proofs.YtngiionckbmkmaaW.PrintMore
set_option linter.unusedVariables false
noncomputable def spec_l04Elements.l0d (x1 : List Int) (x5 : Int) (x114000 : Int) (x114001 : Int) : Option (Bool) := lim (fun k => spec_l04Elements.l0 k x1 x5 x114000 x114001)
theorem spec_l04Elements.l0lim (x1 : List Int) (x5 : Int) (x114000 : Int) (x114001 : Int) : IsLim (fun k => spec_l04Elements.l0 k x1 x5 x114000 x114001) (spec_l04Elements.l0d x1 x5 x114000 x114001) := lim_spec (fun k => (spec_l04Elements.mono_l k) x1 x5 x114000 x114001)
theorem spec_l04Elements.l0d_eq (x1 : List Int) (x5 : Int) (x114000 : Int) (x114001 : Int) : spec_l04Elements.l0d x1 x5 x114000 x114001 = if x5 < (x1.length : Int) then (if 0 ≤ x5 then ((spec_l01Size.f x114000 x114001).bind fun t115 => ((spec_l00In.f (rd x1 x5) 0 (wrap64 (t115 - 1))).bind fun t116 => (if t116 = true then (spec_l04Elements.l0d x1 (wrap64 (x5 + 1)) x114000 x114001) else (some false)))) else (none)) else (some true) := by
  refine IsLim.unique (spec_l04Elements.l0lim _ _ _ _) ?_
  refine IsLim.shift (by rfl) ?_
  simp only [spec_l04Elements.l0]
  repeat' (first | exact IsLim.const _ | refine IsLim.ite ?_ ?_ | refine IsLim.bind ?_ (fun _ => ?_) | exact spec_l04Elements.l0lim ..)
noncomputable def spec_l04Elements.d (a0_0 : Int) (a0_1 : Int) (l1 : List Int) : Option (Bool) := lim (fun k => spec_l04Elements.f k a0_0 a0_1 l1)
theorem spec_l04Elements.lim (a0_0 : Int) (a0_1 : Int) (l1 : List Int) : IsLim (fun k => spec_l04Elements.f k a0_0 a0_1 l1) (spec_l04Elements.d a0_0 a0_1 l1) := lim_spec (fun k => spec_l04Elements.mono a0_0 a0_1 l1 k)
theorem spec_l04Elements.d_eq (a0_0 : Int) (a0_1 : Int) (l1 : List Int) : spec_l04Elements.d a0_0 a0_1 l1 = spec_l04Elements.l0d l1 0 a0_0 a0_1 := by
  refine IsLim.unique (spec_l04Elements.lim _ _ _) ?_
  unfold spec_l04Elements.f
  repeat' (first | exact IsLim.const _ | refine IsLim.ite ?_ ?_ | refine IsLim.bind ?_ (fun _ => ?_) | exact spec_l04Elements.l0lim ..)
noncomputable def slices_IndexFunc_int64_int64_AT_impl_Field_has_1.l0d (x0 : List Int) (x7 : Int) (x8 : Int) (x49000 : Int) (x49001 : Int) : Option (Int) := lim (fun k => slices_IndexFunc_int64_int64_AT_impl_Field_has_1.l0 k x0 x7 x8 x49000 x49001)
theorem slices_IndexFunc_int64_int64_AT_impl_Field_has_1.l0lim (x0 : List Int) (x7 : Int) (x8 : Int) (x49000 : Int) (x49001 : Int) : IsLim (fun k => slices_IndexFunc_int64_int64_AT_impl_Field_has_1.l0 k x0 x7 x8 x49000 x49001) (slices_IndexFunc_int64_int64_AT_impl_Field_has_1.l0d x0 x7 x8 x49000 x49001) := lim_spec (fun k => (slices_IndexFunc_int64_int64_AT_impl_Field_has_1.mono_l k) x0 x7 x8 x49000 x49001)
theorem slices_IndexFunc_int64_int64_AT_impl_Field_has_1.l0d_eq (x0 : List Int) (x7 : Int) (x8 : Int) (x49000 : Int) (x49001 : Int) : slices_IndexFunc_int64_int64_AT_impl_Field_has_1.l0d x0 x7 x8 x49000 x49001 = if x8 < x7 then (if 0 ≤ x8 then (if x8 < (x0.length : Int) then ((impl_Field_has_1.f (rd x0 x8) x49000 x49001).bind fun t157 => (if t157 = true then (some x8) else (slices_IndexFunc_int64_int64_AT_impl_Field_has_1.l0d x0 x7 (wrap64 (x8 + 1)) x49000 x49001))) else (none)) else (none)) else (some (-1)) := by
  refine IsLim.unique (slices_IndexFunc_int64_int64_AT_impl_Field_has_1.l0lim _ _ _ _ _) ?_
  refine IsLim.shift (by rfl) ?_
  simp only [slices_IndexFunc_int64_int64_AT_impl_Field_has_1.l0]
  repeat' (first | exact IsLim.const _ | refine IsLim.ite ?_ ?_ | refine IsLim.bind ?_ (fun _ => ?_) | exact slices_IndexFunc_int64_int64_AT_impl_Field_has_1.l0lim ..)
noncomputable def slices_IndexFunc_int64_int64_AT_impl_Field_has_1.d (l0 : List Int) (a1_0 : Int) (a1_1 : Int) : Option (Int) := lim (fun k => slices_IndexFunc_int64_int64_AT_impl_Field_has_1.f k l0 a1_0 a1_1)
theorem slices_IndexFunc_int64_int64_AT_impl_Field_has_1.lim (l0 : List Int) (a1_0 : Int) (a1_1 : Int) : IsLim (fun k => slices_IndexFunc_int64_int64_AT_impl_Field_has_1.f k l0 a1_0 a1_1) (slices_IndexFunc_int64_int64_AT_impl_Field_has_1.d l0 a1_0 a1_1) := lim_spec (fun k => slices_IndexFunc_int64_int64_AT_impl_Field_has_1.mono l0 a1_0 a1_1 k)
theorem slices_IndexFunc_int64_int64_AT_impl_Field_has_1.d_eq (l0 : List Int) (a1_0 : Int) (a1_1 : Int) : slices_IndexFunc_int64_int64_AT_impl_Field_has_1.d l0 a1_0 a1_1 = slices_IndexFunc_int64_int64_AT_impl_Field_has_1.l0d l0 (l0.length : Int) 0 a1_0 a1_1 := by
  refine IsLim.unique (slices_IndexFunc_int64_int64_AT_impl_Field_has_1.lim _ _ _) ?_
  unfold slices_IndexFunc_int64_int64_AT_impl_Field_has_1.f
  repeat' (first | exact IsLim.const _ | refine IsLim.ite ?_ ?_ | refine IsLim.bind ?_ (fun _ => ?_) | exact slices_IndexFunc_int64_int64_AT_impl_Field_has_1.l0lim ..)
noncomputable def slices_ContainsFunc_int64_int64_AT_impl_Field_has_1.d (l0 : List Int) (a1_0 : Int) (a1_1 : Int) : Option (Bool) := lim (fun k => slices_ContainsFunc_int64_int64_AT_impl_Field_has_1.f k l0 a1_0 a1_1)
theorem slices_ContainsFunc_int64_int64_AT_impl_Field_has_1.lim (l0 : List Int) (a1_0 : Int) (a1_1 : Int) : IsLim (fun k => slices_ContainsFunc_int64_int64_AT_impl_Field_has_1.f k l0 a1_0 a1_1) (slices_ContainsFunc_int64_int64_AT_impl_Field_has_1.d l0 a1_0 a1_1) := lim_spec (fun k => slices_ContainsFunc_int64_int64_AT_impl_Field_has_1.mono l0 a1_0 a1_1 k)
theorem slices_ContainsFunc_int64_int64_AT_impl_Field_has_1.d_eq (l0 : List Int) (a1_0 : Int) (a1_1 : Int) : slices_ContainsFunc_int64_int64_AT_impl_Field_has_1.d l0 a1_0 a1_1 = (slices_IndexFunc_int64_int64_AT_impl_Field_has_1.d l0 a1_0 a1_1).bind fun t158 => (some (decide (t158 ≥ 0))) := by
  refine IsLim.unique (slices_ContainsFunc_int64_int64_AT_impl_Field_has_1.lim _ _ _) ?_
  unfold slices_ContainsFunc_int64_int64_AT_impl_Field_has_1.f
  repeat' (first | exact IsLim.const _ | refine IsLim.ite ?_ ?_ | refine IsLim.bind ?_ (fun _ => ?_) | exact slices_IndexFunc_int64_int64_AT_impl_Field_has_1.lim ..)
noncomputable def impl_Field_has.d (a0_0 : Int) (a0_1 : Int) (l1 : List Int) : Option (Bool) := lim (fun k => impl_Field_has.f k a0_0 a0_1 l1)
theorem impl_Field_has.lim (a0_0 : Int) (a0_1 : Int) (l1 : List Int) : IsLim (fun k => impl_Field_has.f k a0_0 a0_1 l1) (impl_Field_has.d a0_0 a0_1 l1) := lim_spec (fun k => impl_Field_has.mono a0_0 a0_1 l1 k)
theorem impl_Field_has.d_eq (a0_0 : Int) (a0_1 : Int) (l1 : List Int) : impl_Field_has.d a0_0 a0_1 l1 = (slices_ContainsFunc_int64_int64_AT_impl_Field_has_1.d l1 a0_0 a0_1).bind fun t160 => (some (!t160)) := by
  refine IsLim.unique (impl_Field_has.lim _ _ _) ?_
  unfold impl_Field_has.f
  repeat' (first | exact IsLim.const _ | refine IsLim.ite ?_ ?_ | refine IsLim.bind ?_ (fun _ => ?_) | exact slices_ContainsFunc_int64_int64_AT_impl_Field_has_1.lim ..)
end Go.Proofs.Ytngiionckbmkmaa.P
end
section
namespace Go.Proofs.Ytngiionckbmkmaa.P
open Go.RowKit Go.Proofs.YtngiionckbmkmaaW.PrintWords Go.Proofs.YtngiionckbmkmaaW.PrintLast Go.Proofs.YtngiionckbmkmaaW.PrintMore
set_option linter.unusedVariables false
noncomputable def spec_l04Word.d (a0_0 : Int) (a0_1 : Int) (l1 : List Int) : Option (Bool) := lim (fun k => spec_l04Word.f k a0_0 a0_1 l1)
theorem spec_l04Word.lim (a0_0 : Int) (a0_1 : Int) (l1 : List Int) : IsLim (fun k => spec_l04Word.f k a0_0 a0_1 l1) (spec_l04Word.d a0_0 a0_1 l1) := lim_spec (fun k => spec_l04Word.mono a0_0 a0_1 l1 k)
theorem spec_l04Word.d_eq (a0_0 : Int) (a0_1 : Int) (l1 : List Int) : spec_l04Word.d a0_0 a0_1 l1 = (spec_l00In.f (l1.length : Int) 1 5).bind fun t118 => (if t118 = true then ((spec_l04Elements.d a0_0 a0_1 l1).bind fun t119 => (some t119)) else (some false)) := by
  refine IsLim.unique (spec_l04Word.lim _ _ _) ?_
  unfold spec_l04Word.f
  repeat' (first | exact IsLim.const _ | refine IsLim.ite ?_ ?_ | refine IsLim.bind ?_ (fun _ => ?_) | exact spec_l04Elements.lim ..)
noncomputable def impl_Field_isWord.d (a0_0 : Int) (a0_1 : Int) (l1 : List Int) : Option (Bool) := lim (fun k => impl_Field_isWord.f k a0_0 a0_1 l1)
theorem impl_Field_isWord.lim (a0_0 : Int) (a0_1 : Int) (l1 : List Int) : IsLim (fun k => impl_Field_isWord.f k a0_0 a0_1 l1) (impl_Field_isWord.d a0_0 a0_1 l1) := lim_spec (fun k => impl_Field_isWord.mono a0_0 a0_1 l1 k)
theorem impl_Field_isWord.d_eq (a0_0 : Int) (a0_1 : Int) (l1 : List Int) : impl_Field_isWord.d a0_0 a0_1 l1 = (impl_size_int64_85.f l1).bind fun t162 => ((impl_within.f t162 1 5).bind fun t163 => (if t163 = true then ((impl_Field_has.d a0_0 a0_1 l1).bind fun t164 => (some t164)) else (some false))) := by
  refine IsLim.unique (impl_Field_isWord.lim _ _ _) ?_
  unfold impl_Field_isWord.f
  repeat' (first | exact IsLim.const _ | refine IsLim.ite ?_ ?_ | refine IsLim.bind ?_ (fun _ => ?_) | exact impl_Field_has.lim ..)
noncomputable def impl_Field_wordCode_1.d (l0 : List Int) (a1_0 : Int) (a1_1 : Int) (l2_0 : List (List Int)) : Option (Bool) := lim (fun k => impl_Field_wordCode_1.f k l0 a1_0 a1_1 l2_0)
theorem impl_Field_wordCode_1.lim (l0 : List Int) (a1_0 : Int) (a1_1 : Int) (l2_0 : List (List Int)) : IsLim (fun k => impl_Field_wordCode_1.f k l0 a1_0 a1_1 l2_0) (impl_Field_wordCode_1.d l0 a1_0 a1_1 l2_0) := lim_spec (fun k => impl_Field_wordCode_1.mono l0 a1_0 a1_1 l2_0 k)
theorem impl_Field_wordCode_1.d_eq (l0 : List Int) (a1_0 : Int) (a1_1 : Int) (l2_0 : List (List Int)) : impl_Field_wordCode_1.d l0 a1_0 a1_1 l2_0 = (impl_Field_isWord.d a1_0 a1_1 l0).bind fun t165 => (if t165 = true then (if 0 < (l2_0.length : Int) then (some ((l0.length : Int) != ((rd_L1 l2_0 0).length : Int))) else (none)) else (some true)) := by
  refine IsLim.unique (impl_Field_wordCode_1.lim _ _ _ _) ?_
  unfold impl_Field_wordCode_1.f
  repeat' (first | exact IsLim.const _ | refine IsLim.ite ?_ ?_ | refine IsLim.bind ?_ (fun _ => ?_) | exact impl_Field_isWord.lim ..)
noncomputable def slices_IndexFunc_int64_int64_AT_impl_Field_wordCode_1.l0d (x0 : List (List Int)) (x7 : Int) (x8 : Int) (x49000 : Int) (x49001 : Int) (x50000 : List (List Int)) : Option (Int) := lim (fun k => slices_IndexFunc_int64_int64_AT_impl_Field_wordCode_1.l0 k x0 x7 x8 x49000 x49001 x50000)
theorem slices_IndexFunc_int64_int64_AT_impl_Field_wordCode_1.l0lim (x0 : List (List Int)) (x7 : Int) (x8 : Int) (x49000 : Int) (x49001 : Int) (x50000 : List (List Int)) : IsLim (fun k => slices_IndexFunc_int64_int64_AT_impl_Field_wordCode_1.l0 k x0 x7 x8 x49000 x49001 x50000) (slices_IndexFunc_int64_int64_AT_impl_Field_wordCode_1.l0d x0 x7 x8 x49000 x49001 x50000) := lim_spec (fun k => (slices_IndexFunc_int64_int64_AT_impl_Field_wordCode_1.mono_l k) x0 x7 x8 x49000 x49001 x50000)
theorem slices_IndexFunc_int64_int64_AT_impl_Field_wordCode_1.l0d_eq (x0 : List (List Int)) (x7 : Int) (x8 : Int) (x49000 : Int) (x49001 : Int) (x50000 : List (List Int)) : slices_IndexFunc_int64_int64_AT_impl_Field_wordCode_1.l0d x0 x7 x8 x49000 x49001 x50000 = if x8 < x7 then (if 0 ≤ x8 then (if x8 < (x0.length : Int) then ((impl_Field_wordCode_1.d (rd_L1 x0 x8) x49000 x49001 x50000).bind fun t168 => (if t168 = true then (some x8) else (slices_IndexFunc_int64_int64_AT_impl_Field_wordCode_1.l0d x0 x7 (wrap64 (x8 + 1)) x49000 x49001 x50000))) else (none)) else (none)) else (some (-1)) := by
  refine IsLim.unique (slices_IndexFunc_int64_int64_AT_impl_Field_wordCode_1.l0lim _ _ _ _ _ _) ?_
  refine IsLim.shift (by rfl) ?_
  simp only [slices_IndexFunc_int64_int64_AT_impl_Field_wordCode_1.l0]
  repeat' (first | exact IsLim.const _ | refine IsLim.ite ?_ ?_ | refine IsLim.bind ?_ (fun _ => ?_) | exact impl_Field_wordCode_1.lim .. | exact slices_IndexFunc_int64_int64_AT_impl_Field_wordCode_1.l0lim ..)
noncomputable def slices_IndexFunc_int64_int64_AT_impl_Field_wordCode_1.d (l0 : List (List Int)) (a1_0 : Int) (a1_1 : Int) (l1_2 : List (List Int)) : Option (Int) := lim (fun k => slices_IndexFunc_int64_int64_AT_impl_Field_wordCode_1.f k l0 a1_0 a1_1 l1_2)
theorem slices_IndexFunc_int64_int64_AT_impl_Field_wordCode_1.lim (l0 : List (List Int)) (a1_0 : Int) (a1_1 : Int) (l1_2 : List (List Int)) : IsLim (fun k => slices_IndexFunc_int64_int64_AT_impl_Field_wordCode_1.f k l0 a1_0 a1_1 l1_2) (slices_IndexFunc_int64_int64_AT_impl_Field_wordCode_1.d l0 a1_0 a1_1 l1_2) := lim_spec (fun k => slices_IndexFunc_int64_int64_AT_impl_Field_wordCode_1.mono l0 a1_0 a1_1 l1_2 k)
theorem slices_IndexFunc_int64_int64_AT_impl_Field_wordCode_1.d_eq (l0 : List (List Int)) (a1_0 : Int) (a1_1 : Int) (l1_2 : List (List Int)) : slices_IndexFunc_int64_int64_AT_impl_Field_wordCode_1.d l0 a1_0 a1_1 l1_2 = slices_IndexFunc_int64_int64_AT_impl_Field_wordCode_1.l0d l0 (l0.length : Int) 0 a1_0 a1_1 l1_2 := by
  refine IsLim.unique (slices_IndexFunc_int64_int64_AT_impl_Field_wordCode_1.lim _ _ _ _) ?_
  unfold slices_IndexFunc_int64_int64_AT_impl_Field_wordCode_1.f
  repeat' (first | exact IsLim.const _ | refine IsLim.ite ?_ ?_ | refine IsLim.bind ?_ (fun _ => ?_) | exact slices_IndexFunc_int64_int64_AT_impl_Field_wordCode_1.l0lim ..)
noncomputable def slices_ContainsFunc_int64_int64_AT_impl_Field_wordCode_1.d (l0 : List (List Int)) (a1_0 : Int) (a1_1 : Int) (l1_2 : List (List Int)) : Option (Bool) := lim (fun k => slices_ContainsFunc_int64_int64_AT_impl_Field_wordCode_1.f k l0 a1_0 a1_1 l1_2)
theorem slices_ContainsFunc_int64_int64_AT_impl_Field_wordCode_1.lim (l0 : List (List Int)) (a1_0 : Int) (a1_1 : Int) (l1_2 : List (List Int)) : IsLim (fun k => slices_ContainsFunc_int64_int64_AT_impl_Field_wordCode_1.f k l0 a1_0 a1_1 l1_2) (slices_ContainsFunc_int64_int64_AT_impl_Field_wordCode_1.d l0 a1_0 a1_1 l1_2) := lim_spec (fun k => slices_ContainsFunc_int64_int64_AT_impl_Field_wordCode_1.mono l0 a1_0 a1_1 l1_2 k)
theorem slices_ContainsFunc_int64_int64_AT_impl_Field_wordCode_1.d_eq (l0 : List (List Int)) (a1_0 : Int) (a1_1 : Int) (l1_2 : List (List Int)) : slices_ContainsFunc_int64_int64_AT_impl_Field_wordCode_1.d l0 a1_0 a1_1 l1_2 = (slices_IndexFunc_int64_int64_AT_impl_Field_wordCode_1.d l0 a1_0 a1_1 l1_2).bind fun t169 => (some (decide (t169 ≥ 0))) := by
  refine IsLim.unique (slices_ContainsFunc_int64_int64_AT_impl_Field_wordCode_1.lim _ _ _ _) ?_
  unfold slices_ContainsFunc_int64_int64_AT_impl_Field_wordCode_1.f
  repeat' (first | exact IsLim.const _ | refine IsLim.ite ?_ ?_ | refine IsLim.bind ?_ (fun _ => ?_) | exact slices_IndexFunc_int64_int64_AT_impl_Field_wordCode_1.lim ..)
noncomputable def impl_Field_wordCode.d (a0_0 : Int) (a0_1 : Int) (l1 : List (List Int)) : Option (Int) := lim (fun k => impl_Field_wordCode.f k a0_0 a0_1 l1)
theorem impl_Field_wordCode.lim (a0_0 : Int) (a0_1 : Int) (l1 : List (List Int)) : IsLim (fun k => impl_Field_wordCode.f k a0_0 a0_1 l1) (impl_Field_wordCode.d a0_0 a0_1 l1) := lim_spec (fun k => impl_Field_wordCode.mono a0_0 a0_1 l1 k)
theorem impl_Field_wordCode.d_eq (a0_0 : Int) (a0_1 : Int) (l1 : List (List Int)) : impl_Field_wordCode.d a0_0 a0_1 l1 = (impl_ValidField.d a0_0 a0_1).bind fun t172 => (if t172 = true then ((slices_ContainsFunc_int64_int64_AT_impl_Field_wordCode_1.d l1 a0_0 a0_1 l1).bind fun t173 => (if t173 = true then (some 2) else (some 0))) else (some 1)) := by
  refine IsLim.unique (impl_Field_wordCode.lim _ _ _) ?_
  unfold impl_Field_wordCode.f
  repeat' (first | exact IsLim.const _ | refine IsLim.ite ?_ ?_ | refine IsLim.bind ?_ (fun _ => ?_) | exact impl_ValidField.lim .. | exact slices_ContainsFunc_int64_int64_AT_impl_Field_wordCode_1.lim ..)
end Go.Proofs.Ytngiionckbmkmaa.P
end
section
namespace Go.Proofs.Ytngiionckbmkmaa.P
open Go.RowKit Go.Proofs.YtngiionckbmkmaaW.PrintWords Go.Proofs.YtngiionckbmkmaaW.PrintLast Go.Proofs.YtngiionckbmkmaaW.PrintMore
set_option linter.unusedVariables false
noncomputable def spec_l04Given.d (a0_0 : Int) (a0_1 : Int) (l1 : List Int) : Option (Int) := lim (fun k => spec_l04Given.f k a0_0 a0_1 l1)
theorem spec_l04Given.lim (a0_0 : Int) (a0_1 : Int) (l1 : List Int) : IsLim (fun k => spec_l04Given.f k a0_0 a0_1 l1) (spec_l04Given.d a0_0 a0_1 l1) := lim_spec (fun k => spec_l04Given.mono a0_0 a0_1 l1 k)
theorem spec_l04Given.d_eq (a0_0 : Int) (a0_1 : Int) (l1 : List Int) : spec_l04Given.d a0_0 a0_1 l1 = (spec_l01Ok.d a0_0 a0_1).bind fun t121 => (if t121 = true then ((spec_l04Word.d a0_0 a0_1 l1).bind fun t122 => (if t122 = true then (some 0) else (some 2))) else (some 1)) := by
  refine IsLim.unique (spec_l04Given.lim _ _ _) ?_
  unfold spec_l04Given.f
  repeat' (first | exact IsLim.const _ | refine IsLim.ite ?_ ?_ | refine IsLim.bind ?_ (fun _ => ?_) | exact spec_l01Ok.lim .. | exact spec_l04Word.lim ..)
end Go.Proofs.Ytngiionckbmkmaa.P
end
section
namespace Go.Proofs.Ytngiionckbmkmaa.P
open Go.RowKit Go.Proofs.YtngiionckbmkmaaW.PrintWords Go.Proofs.YtngiionckbmkmaaW.PrintLast Go.Proofs.YtngiionckbmkmaaW.PrintMore
set_option linter.unusedVariables false
noncomputable def spec_l02Turn.l0d (x4 : Int) (x41000 : Int) (x41001 : List Int) (x729000 : Int) (x729001 : List Int) : Option (Int × List Int) := lim (fun k => spec_l02Turn.l0 k x4 x41000 x41001 x729000 x729001)
theorem spec_l02Turn.l0lim (x4 : Int) (x41000 : Int) (x41001 : List Int) (x729000 : Int) (x729001 : List Int) : IsLim (fun k => spec_l02Turn.l0 k x4 x41000 x41001 x729000 x729001) (spec_l02Turn.l0d x4 x41000 x41001 x729000 x729001) := lim_spec (fun k => (spec_l02Turn.mono_l k).1 x4 x41000 x41001 x729000 x729001)
noncomputable def spec_l02Turn.l1d (x4 : Int) (x5 : Int) (x6 : Int) (x41000 : Int) (x41001 : List Int) (x729000 : Int) (x729001 : List Int) : Option (Int × List Int) := lim (fun k => spec_l02Turn.l1 k x4 x5 x6 x41000 x41001 x729000 x729001)
theorem spec_l02Turn.l1lim (x4 : Int) (x5 : Int) (x6 : Int) (x41000 : Int) (x41001 : List Int) (x729000 : Int) (x729001 : List Int) : IsLim (fun k => spec_l02Turn.l1 k x4 x5 x6 x41000 x41001 x729000 x729001) (spec_l02Turn.l1d x4 x5 x6 x41000 x41001 x729000 x729001) := lim_spec (fun k => (spec_l02Turn.mono_l k).2 x4 x5 x6 x41000 x41001 x729000 x729001)
theorem spec_l02Turn.l0d_eq (x4 : Int) (x41000 : Int) (x41001 : List Int) (x729000 : Int) (x729001 : List Int) : spec_l02Turn.l0d x4 x41000 x41001 x729000 x729001 = if x4 < x41000 then (spec_l02Turn.l1d x4 0 0 x41000 x41001 x729000 x729001) else (some (x729000, x729001)) := by
  refine IsLim.unique (spec_l02Turn.l0lim _ _ _ _ _) ?_
  refine IsLim.shift (by rfl) ?_
  simp only [spec_l02Turn.l0]
  repeat' (first | exact IsLim.const _ | refine IsLim.ite ?_ ?_ | refine IsLim.bind ?_ (fun _ => ?_) | exact spec_l02Turn.l1lim ..)
theorem spec_l02Turn.l1d_eq (x4 : Int) (x5 : Int) (x6 : Int) (x41000 : Int) (x41001 : List Int) (x729000 : Int) (x729001 : List Int) : spec_l02Turn.l1d x4 x5 x6 x41000 x41001 x729000 x729001 = if x6 < (x41001.length : Int) then (if 0 ≤ x6 then ((spec_l02Bit.f (rd x41001 x6) x4).bind fun t730 => (if 0 ≤ (IntKind.u64.wrap (x6)) then (spec_l02Turn.l1d x4 (Go.bits .or .i64 x5 (shl .i64 t730 (IntKind.u64.wrap (x6)))) (wrap64 (x6 + 1)) x41000 x41001 x729000 x729001) else (none))) else (none)) else (if x729001.length < 17592186044416 then (spec_l02Turn.l0d (wrap64 (x4 + 1)) x41000 x41001 x729000 (x729001 ++ [x5])) else (none)) := by
  refine IsLim.unique (spec_l02Turn.l1lim _ _ _ _ _ _ _) ?_
  refine IsLim.shift (by rfl) ?_
  simp only [spec_l02Turn.l1]
  repeat' (first | exact IsLim.const _ | refine IsLim.ite ?_ ?_ | refine IsLim.bind ?_ (fun _ => ?_) | exact spec_l02Turn.l1lim .. | exact spec_l02Turn.l0lim ..)
noncomputable def spec_l02Turn.d (a0_0 : Int) (l0_1 : List Int) : Option (Int × List Int) := lim (fun k => spec_l02Turn.f k a0_0 l0_1)
theorem spec_l02Turn.lim (a0_0 : Int) (l0_1 : List Int) : IsLim (fun k => spec_l02Turn.f k a0_0 l0_1) (spec_l02Turn.d a0_0 l0_1) := lim_spec (fun k => spec_l02Turn.mono a0_0 l0_1 k)
theorem spec_l02Turn.d_eq (a0_0 : Int) (l0_1 : List Int) : spec_l02Turn.d a0_0 l0_1 = spec_l02Turn.l0d 0 a0_0 l0_1 (l0_1.length : Int) ([] : List Int) := by
  refine IsLim.unique (spec_l02Turn.lim _ _) ?_
  unfold spec_l02Turn.f
  repeat' (first | exact IsLim.const _ | refine IsLim.ite ?_ ?_ | refine IsLim.bind ?_ (fun _ => ?_) | exact spec_l02Turn.l0lim ..)
noncomputable def spec_ColumnSupport.d (a0_0 : Int) (a0_1 : Int) (l1 : List Int) : Option (Int × List Int × Int) := lim (fun k => spec_ColumnSupport.f k a0_0 a0_1 l1)
theorem spec_ColumnSupport.lim (a0_0 : Int) (a0_1 : Int) (l1 : List Int) : IsLim (fun k => spec_ColumnSupport.f k a0_0 a0_1 l1) (spec_ColumnSupport.d a0_0 a0_1 l1) := lim_spec (fun k => spec_ColumnSupport.mono a0_0 a0_1 l1 k)
theorem spec_ColumnSupport.d_eq (a0_0 : Int) (a0_1 : Int) (l1 : List Int) : spec_ColumnSupport.d a0_0 a0_1 l1 = (spec_l04Given.d a0_0 a0_1 l1).bind fun t736 => (if t736 = 0 then ((spec_l02Turn.d a0_0 l1).bind fun bt738 => ((spec_l02Echelon.d bt738.1 bt738.2).bind fun t743 => (some (bt738.1, t743, 0)))) else (some (0, ([] : List Int), t736))) := by
  refine IsLim.unique (spec_ColumnSupport.lim _ _ _) ?_
  unfold spec_ColumnSupport.f
  repeat' (first | exact IsLim.const _ | refine IsLim.ite ?_ ?_ | refine IsLim.bind ?_ (fun _ => ?_) | exact spec_l04Given.lim .. | exact spec_l02Turn.lim .. | exact spec_l02Echelon.lim ..)
end Go.Proofs.Ytngiionckbmkmaa.P
end
section
namespace Go.Proofs.Ytngiionckbmkmaa.P
open Go.RowKit Go.Proofs.YtngiionckbmkmaaW.PrintWords Go.Proofs.YtngiionckbmkmaaW.PrintLast Go.Proofs.YtngiionckbmkmaaW.PrintMore
set_option linter.unusedVariables false
noncomputable def impl_Matrix_turned.l0d (x13 : Int) (x14 : Int) (x747000 : Int) (x747001 : List Int) (x750000 : Int) (x750001 : List Int) : Option (Int × List Int) := lim (fun k => impl_Matrix_turned.l0 k x13 x14 x747000 x747001 x750000 x750001)
theorem impl_Matrix_turned.l0lim (x13 : Int) (x14 : Int) (x747000 : Int) (x747001 : List Int) (x750000 : Int) (x750001 : List Int) : IsLim (fun k => impl_Matrix_turned.l0 k x13 x14 x747000 x747001 x750000 x750001) (impl_Matrix_turned.l0d x13 x14 x747000 x747001 x750000 x750001) := lim_spec (fun k => (impl_Matrix_turned.mono_l k).1 x13 x14 x747000 x747001 x750000 x750001)
noncomputable def impl_Matrix_turned.l1d (x4 : Int) (x5 : Int) (x13 : Int) (x14 : Int) (x18 : List Int) (x19 : Int) (x20 : Int) (x747000 : Int) (x747001 : List Int) (x750000 : Int) (x750001 : List Int) : Option (Int × List Int) := lim (fun k => impl_Matrix_turned.l1 k x4 x5 x13 x14 x18 x19 x20 x747000 x747001 x750000 x750001)
theorem impl_Matrix_turned.l1lim (x4 : Int) (x5 : Int) (x13 : Int) (x14 : Int) (x18 : List Int) (x19 : Int) (x20 : Int) (x747000 : Int) (x747001 : List Int) (x750000 : Int) (x750001 : List Int) : IsLim (fun k => impl_Matrix_turned.l1 k x4 x5 x13 x14 x18 x19 x20 x747000 x747001 x750000 x750001) (impl_Matrix_turned.l1d x4 x5 x13 x14 x18 x19 x20 x747000 x747001 x750000 x750001) := lim_spec (fun k => (impl_Matrix_turned.mono_l k).2 x4 x5 x13 x14 x18 x19 x20 x747000 x747001 x750000 x750001)
theorem impl_Matrix_turned.l0d_eq (x13 : Int) (x14 : Int) (x747000 : Int) (x747001 : List Int) (x750000 : Int) (x750001 : List Int) : impl_Matrix_turned.l0d x13 x14 x747000 x747001 x750000 x750001 = if x14 < x13 then (impl_Matrix_turned.l1d x14 0 x13 x14 x747001 (x747001.length : Int) 0 x747000 x747001 x750000 x750001) else (some (x750000, x750001)) := by
  refine IsLim.unique (impl_Matrix_turned.l0lim _ _ _ _ _ _) ?_
  refine IsLim.shift (by rfl) ?_
  simp only [impl_Matrix_turned.l0]
  repeat' (first | exact IsLim.const _ | refine IsLim.ite ?_ ?_ | refine IsLim.bind ?_ (fun _ => ?_) | exact impl_Matrix_turned.l1lim ..)
theorem impl_Matrix_turned.l1d_eq (x4 : Int) (x5 : Int) (x13 : Int) (x14 : Int) (x18 : List Int) (x19 : Int) (x20 : Int) (x747000 : Int) (x747001 : List Int) (x750000 : Int) (x750001 : List Int) : impl_Matrix_turned.l1d x4 x5 x13 x14 x18 x19 x20 x747000 x747001 x750000 x750001 = if x20 < x19 then (if 0 ≤ x20 then (if x20 < (x18.length : Int) then (if 0 ≤ x4 then (impl_Matrix_turned.l1d x4 (Go.bits .or .i64 x5 (shl .i64 (Go.bits .and .i64 (shr .i64 (rd x18 x20) x4) 1) x20)) x13 x14 x18 x19 (wrap64 (x20 + 1)) x747000 x747001 x750000 x750001) else (none)) else (none)) else (none)) else (if x750001.length < 17592186044416 then (impl_Matrix_turned.l0d x13 (wrap64 (x14 + 1)) x747000 x747001 x750000 (x750001 ++ [x5])) else (none)) := by
  refine IsLim.unique (impl_Matrix_turned.l1lim _ _ _ _ _ _ _ _ _ _ _) ?_
  refine IsLim.shift (by rfl) ?_
  simp only [impl_Matrix_turned.l1]
  repeat' (first | exact IsLim.const _ | refine IsLim.ite ?_ ?_ | refine IsLim.bind ?_ (fun _ => ?_) | exact impl_Matrix_turned.l1lim .. | exact impl_Matrix_turned.l0lim ..)
noncomputable def impl_Matrix_turned.d (a0_0 : Int) (l0_1 : List Int) : Option (Int × List Int) := lim (fun k => impl_Matrix_turned.f k a0_0 l0_1)
theorem impl_Matrix_turned.lim (a0_0 : Int) (l0_1 : List Int) : IsLim (fun k => impl_Matrix_turned.f k a0_0 l0_1) (impl_Matrix_turned.d a0_0 l0_1) := lim_spec (fun k => impl_Matrix_turned.mono a0_0 l0_1 k)
theorem impl_Matrix_turned.d_eq (a0_0 : Int) (l0_1 : List Int) : impl_Matrix_turned.d a0_0 l0_1 = (impl_size_int64_85.f l0_1).bind fun t748 => (impl_Matrix_turned.l0d a0_0 0 a0_0 l0_1 t748 ([] : List Int)) := by
  refine IsLim.unique (impl_Matrix_turned.lim _ _) ?_
  unfold impl_Matrix_turned.f
  repeat' (first | exact IsLim.const _ | refine IsLim.ite ?_ ?_ | refine IsLim.bind ?_ (fun _ => ?_) | exact impl_Matrix_turned.l0lim ..)
noncomputable def impl_ColumnSupport.d (a0_0 : Int) (a0_1 : Int) (l1 : List Int) : Option (Int × List Int × Int) := lim (fun k => impl_ColumnSupport.f k a0_0 a0_1 l1)
theorem impl_ColumnSupport.lim (a0_0 : Int) (a0_1 : Int) (l1 : List Int) : IsLim (fun k => impl_ColumnSupport.f k a0_0 a0_1 l1) (impl_ColumnSupport.d a0_0 a0_1 l1) := lim_spec (fun k => impl_ColumnSupport.mono a0_0 a0_1 l1 k)
theorem impl_ColumnSupport.d_eq (a0_0 : Int) (a0_1 : Int) (l1 : List Int) : impl_ColumnSupport.d a0_0 a0_1 l1 = (impl_Field_wordCode.d a0_0 a0_1 (([l1] : List (List Int)))).bind fun t759 => (if t759 = 0 then ((impl_Field_matrixOf.f a0_0 a0_1 l1).bind fun bt760 => ((impl_Matrix_turned.d bt760.1 bt760.2).bind fun bt764 => ((impl_Matrix_form.d bt764.1 bt764.2).bind fun bt768 => (some (bt768.1, bt768.2, 0))))) else (some (0, ([] : List Int), t759))) := by
  refine IsLim.unique (impl_ColumnSupport.lim _ _ _) ?_
  unfold impl_ColumnSupport.f
  repeat' (first | exact IsLim.const _ | refine IsLim.ite ?_ ?_ | refine IsLim.bind ?_ (fun _ => ?_) | exact impl_Field_wordCode.lim .. | exact impl_Matrix_turned.lim .. | exact impl_Matrix_form.lim ..)
end Go.Proofs.Ytngiionckbmkmaa.P
end
section
namespace Go.Proofs.Ytngiionckbmkmaa.P
open Go.RowKit Go.Proofs.YtngiionckbmkmaaW.PrintWords Go.Proofs.YtngiionckbmkmaaW.PrintLast Go.Proofs.YtngiionckbmkmaaW.PrintMore
set_option linter.unusedVariables false
noncomputable def laws_FnExactColumnSupport.j0d (x1 : List Int) (x6 : Int) (x7 : List Int) (x9 : Int) (x43 : Bool) (x773000 : Int) (x773001 : Int) (x784000 : Int) (x784001 : List Int) (x795000 : Int) (x795001 : List Int) : Option (Bool) := lim (fun k => laws_FnExactColumnSupport.j0 k x1 x6 x7 x9 x43 x773000 x773001 x784000 x784001 x795000 x795001)
theorem laws_FnExactColumnSupport.j0lim (x1 : List Int) (x6 : Int) (x7 : List Int) (x9 : Int) (x43 : Bool) (x773000 : Int) (x773001 : Int) (x784000 : Int) (x784001 : List Int) (x795000 : Int) (x795001 : List Int) : IsLim (fun k => laws_FnExactColumnSupport.j0 k x1 x6 x7 x9 x43 x773000 x773001 x784000 x784001 x795000 x795001) (laws_FnExactColumnSupport.j0d x1 x6 x7 x9 x43 x773000 x773001 x784000 x784001 x795000 x795001) := lim_spec (fun k => (laws_FnExactColumnSupport.mono_l k).1 x1 x6 x7 x9 x43 x773000 x773001 x784000 x784001 x795000 x795001)
noncomputable def laws_FnExactColumnSupport.j1d (x1 : List Int) (x6 : Int) (x64 : Bool) (x773000 : Int) (x773001 : Int) (x784000 : Int) (x784001 : List Int) (x795000 : Int) (x795001 : List Int) : Option (Bool) := lim (fun k => laws_FnExactColumnSupport.j1 k x1 x6 x64 x773000 x773001 x784000 x784001 x795000 x795001)
theorem laws_FnExactColumnSupport.j1lim (x1 : List Int) (x6 : Int) (x64 : Bool) (x773000 : Int) (x773001 : Int) (x784000 : Int) (x784001 : List Int) (x795000 : Int) (x795001 : List Int) : IsLim (fun k => laws_FnExactColumnSupport.j1 k x1 x6 x64 x773000 x773001 x784000 x784001 x795000 x795001) (laws_FnExactColumnSupport.j1d x1 x6 x64 x773000 x773001 x784000 x784001 x795000 x795001) := lim_spec (fun k => (laws_FnExactColumnSupport.mono_l k).2.1 x1 x6 x64 x773000 x773001 x784000 x784001 x795000 x795001)
noncomputable def laws_FnExactColumnSupport.j2d (x11 : Int) (x92 : Bool) (x795000 : Int) (x795001 : List Int) : Option (Bool) := lim (fun k => laws_FnExactColumnSupport.j2 k x11 x92 x795000 x795001)
theorem laws_FnExactColumnSupport.j2lim (x11 : Int) (x92 : Bool) (x795000 : Int) (x795001 : List Int) : IsLim (fun k => laws_FnExactColumnSupport.j2 k x11 x92 x795000 x795001) (laws_FnExactColumnSupport.j2d x11 x92 x795000 x795001) := lim_spec (fun k => (laws_FnExactColumnSupport.mono_l k).2.2 x11 x92 x795000 x795001)
theorem laws_FnExactColumnSupport.j0d_eq (x1 : List Int) (x6 : Int) (x7 : List Int) (x9 : Int) (x43 : Bool) (x773000 : Int) (x773001 : Int) (x784000 : Int) (x784001 : List Int) (x795000 : Int) (x795001 : List Int) : laws_FnExactColumnSupport.j0d x1 x6 x7 x9 x43 x773000 x773001 x784000 x784001 x795000 x795001 = if x43 = true then (some false) else ((laws_toInt64S.d x1).bind fun t796 => ((laws_eqInt64S.d x7 t796).bind fun t799 => (if t799 = true then ((laws_markInt64S.d x7 1).bind fun bt800 => (if bt800.1 < 0 then (laws_FnExactColumnSupport.j1d x1 x6 true x773000 x773001 x784000 x784001 x795000 x795001) else ((laws_eqMatrix.d x795000 x795001 x784000 x784001).bind fun t802 => (if t802 = true then (laws_FnExactColumnSupport.j1d x1 x6 (x9 != x6) x773000 x773001 x784000 x784001 x795000 x795001) else (laws_FnExactColumnSupport.j1d x1 x6 true x773000 x773001 x784000 x784001 x795000 x795001))))) else (some false)))) := by
  refine IsLim.unique (laws_FnExactColumnSupport.j0lim _ _ _ _ _ _ _ _ _ _ _) ?_
  refine IsLim.shift (by rfl) ?_
  simp only [laws_FnExactColumnSupport.j0]
  repeat' (first | exact IsLim.const _ | refine IsLim.ite ?_ ?_ | refine IsLim.bind ?_ (fun _ => ?_) | exact laws_toInt64S.lim .. | exact laws_eqInt64S.lim .. | exact laws_markInt64S.lim .. | exact laws_eqMatrix.lim .. | exact laws_FnExactColumnSupport.j1lim ..)
theorem laws_FnExactColumnSupport.j1d_eq (x1 : List Int) (x6 : Int) (x64 : Bool) (x773000 : Int) (x773001 : Int) (x784000 : Int) (x784001 : List Int) (x795000 : Int) (x795001 : List Int) : laws_FnExactColumnSupport.j1d x1 x6 x64 x773000 x773001 x784000 x784001 x795000 x795001 = if x64 = true then (some false) else ((laws_markMatrix.d x795000 x795001 1).bind fun bt803 => ((laws_heldMatrix.d x795000 bt803.2 1).bind fun t805 => (if t805 < 0 then (some false) else (if t805 = bt803.1 then ((laws_toField.f x773000 x773001).bind fun bt806 => ((laws_toInt64S.d x1).bind fun t808 => ((impl_ColumnSupport.d bt806.1 bt806.2 t808).bind fun bt811 => ((laws_eqMatrix.d bt811.1 bt811.2.1 x784000 x784001).bind fun t817 => (if t817 = true then (laws_FnExactColumnSupport.j2d bt803.1 (bt811.2.2 != x6) x795000 bt803.2) else (laws_FnExactColumnSupport.j2d bt803.1 true x795000 bt803.2)))))) else (some false))))) := by
  refine IsLim.unique (laws_FnExactColumnSupport.j1lim _ _ _ _ _ _ _ _ _) ?_
  refine IsLim.shift (by rfl) ?_
  simp only [laws_FnExactColumnSupport.j1]
  repeat' (first | exact IsLim.const _ | refine IsLim.ite ?_ ?_ | refine IsLim.bind ?_ (fun _ => ?_) | exact laws_markMatrix.lim .. | exact laws_heldMatrix.lim .. | exact laws_toInt64S.lim .. | exact impl_ColumnSupport.lim .. | exact laws_eqMatrix.lim .. | exact laws_FnExactColumnSupport.j2lim ..)
theorem laws_FnExactColumnSupport.j2d_eq (x11 : Int) (x92 : Bool) (x795000 : Int) (x795001 : List Int) : laws_FnExactColumnSupport.j2d x11 x92 x795000 x795001 = if x92 = true then (some false) else ((laws_heldMatrix.d x795000 x795001 1).bind fun t818 => (if t818 < 0 then (some false) else (if t818 = x11 then (some true) else (some false)))) := by
  refine IsLim.unique (laws_FnExactColumnSupport.j2lim _ _ _ _) ?_
  refine IsLim.shift (by rfl) ?_
  simp only [laws_FnExactColumnSupport.j2]
  repeat' (first | exact IsLim.const _ | refine IsLim.ite ?_ ?_ | refine IsLim.bind ?_ (fun _ => ?_) | exact laws_heldMatrix.lim ..)
noncomputable def laws_FnExactColumnSupport.d (a0_0 : Int) (a0_1 : Int) (l1 : List Int) : Option (Bool) := lim (fun k => laws_FnExactColumnSupport.f k a0_0 a0_1 l1)
theorem laws_FnExactColumnSupport.lim (a0_0 : Int) (a0_1 : Int) (l1 : List Int) : IsLim (fun k => laws_FnExactColumnSupport.f k a0_0 a0_1 l1) (laws_FnExactColumnSupport.d a0_0 a0_1 l1) := lim_spec (fun k => laws_FnExactColumnSupport.mono a0_0 a0_1 l1 k)
theorem laws_FnExactColumnSupport.d_eq (a0_0 : Int) (a0_1 : Int) (l1 : List Int) : laws_FnExactColumnSupport.d a0_0 a0_1 l1 = if (l1.length : Int) > 1048576 then (some true) else ((laws_toField.f a0_0 a0_1).bind fun bt773 => ((laws_toInt64S.d l1).bind fun t775 => ((spec_ColumnSupport.d bt773.1 bt773.2 t775).bind fun bt778 => ((laws_toInt64S.d l1).bind fun t784 => ((laws_toField.f a0_0 a0_1).bind fun bt787 => ((impl_ColumnSupport.d bt787.1 bt787.2 t784).bind fun bt789 => ((laws_eqMatrix.d bt789.1 bt789.2.1 bt778.1 bt778.2.1).bind fun t795 => (if t795 = true then (laws_FnExactColumnSupport.j0d l1 bt778.2.2 t784 bt789.2.2 (bt789.2.2 != bt778.2.2) a0_0 a0_1 bt778.1 bt778.2.1 bt789.1 bt789.2.1) else (laws_FnExactColumnSupport.j0d l1 bt778.2.2 t784 bt789.2.2 true a0_0 a0_1 bt778.1 bt778.2.1 bt789.1 bt789.2.1))))))))) := by
  refine IsLim.unique (laws_FnExactColumnSupport.lim _ _ _) ?_
  unfold laws_FnExactColumnSupport.f
  repeat' (first | exact IsLim.const _ | refine IsLim.ite ?_ ?_ | refine IsLim.bind ?_ (fun _ => ?_) | exact laws_toInt64S.lim .. | exact spec_ColumnSupport.lim .. | exact impl_ColumnSupport.lim .. | exact laws_eqMatrix.lim .. | exact laws_FnExactColumnSupport.j0lim ..)
end Go.Proofs.Ytngiionckbmkmaa.P
end
section
namespace Go.Proofs.Ytngiionckbmkmaa.P
open Go.RowKit Go.Proofs.YtngiionckbmkmaaW.PrintWords Go.Proofs.YtngiionckbmkmaaW.PrintLast Go.Proofs.YtngiionckbmkmaaW.PrintMore
set_option linter.unusedVariables false
theorem wr {x : Int} (h0 : -9223372036854775808 ≤ x) (h1 : x < 9223372036854775808) : wrap64 x = x := by
  unfold wrap64; omega
theorem wrS {i n : Nat} (h : i < n) (hn : n ≤ 17592186044416) : wrap64 ((i : Int) + 1) = ((i + 1 : Nat) : Int) := by rw [wr (by omega) (by omega)]; omega
theorem u64_id {x : Int} (h0 : 0 ≤ x) (h1 : x < 9223372036854775808) : IntKind.u64.wrap x = x := by rw [IntKind.wrap_u64]; omega
theorem down {Q : Nat → Prop} {n : Nat} (h0 : Q n) (hs : ∀ i, i < n → Q (i + 1) → Q i) : ∀ i, i ≤ n → Q i := by
  intro i hi
  obtain ⟨d, hd⟩ : ∃ d, d = n - i := ⟨_, rfl⟩
  induction d generalizing i with
  | zero => have : i = n := by omega
            exact this ▸ h0
  | succ d ih => exact hs i (by omega) (ih (i + 1) (by omega) (by omega))
theorem rd_get {l : List Int} {i : Nat} (h : i < l.length) : rd l (i : Int) = l[i] := rd_at l i h
theorem bind_some' {α β : Type} (a : α) (f : α → Option β) : (some a).bind f = f a := rfl
theorem bind_ok {α β : Type} {x : Option α} {f : α → Option β} {a : α} {b : β} (h : x = some a) (h' : f a = some b) : x.bind f = some b := by rw [h]; exact h'
theorem ite_t {α : Type} {c : Prop} [Decidable c] {a b : Option α} {v : α} (h : c) (h' : a = some v) : (if c then a else b) = some v := by rw [if_pos h]; exact h'
theorem ite_f {α : Type} {c : Prop} [Decidable c] {a b : Option α} {v : α} (h : ¬ c) (h' : b = some v) : (if c then a else b) = some v := by rw [if_neg h]; exact h'
theorem some_bind_ok {α β : Type} {f : α → Option β} {a : α} {b : β} (h' : f a = some b) : (some a).bind f = some b := h'
theorem bind_assoc_ok {α β γ : Type} {x : Option α} {f : α → Option β} {g : β → Option γ} {b : γ} (h : (x.bind fun y => (f y).bind g) = some b) : (x.bind f).bind g = some b := by rw [Option.bind_assoc]; exact h
theorem ite_bind_t {α β : Type} {c : Prop} [Decidable c] {x y : Option α} {g : α → Option β} {b : β} (h : c) (h' : x.bind g = some b) : (if c then x else y).bind g = some b := by rw [if_pos h]; exact h'
theorem ite_bind_f {α β : Type} {c : Prop} [Decidable c] {x y : Option α} {g : α → Option β} {b : β} (h : ¬ c) (h' : y.bind g = some b) : (if c then x else y).bind g = some b := by rw [if_neg h]; exact h'
/-- a, a + 1, .. -/
def iota (a : Int) : Nat → List Int
  | 0 => []
  | n + 1 => a :: iota (a + 1) n
theorem iota_length (a : Int) (n : Nat) : (iota a n).length = n := by
  induction n generalizing a with
  | zero => rfl
  | succ n ih => simp [iota, ih]
theorem iota_get (a : Int) (n : Nat) : ∀ (i : Nat) (h : i < (iota a n).length), (iota a n)[i] = a + i := by
  induction n generalizing a with
  | zero => intro i h; simp [iota] at h
  | succ n ih =>
    intro i h
    cases i with
    | zero => simp [iota]
    | succ i => simp only [iota, List.getElem_cons_succ]; rw [ih]; omega
theorem iota_snoc (a : Int) (n : Nat) : iota a (n + 1) = iota a n ++ [a + n] := by
  induction n generalizing a with
  | zero => simp [iota]
  | succ n ih => rw [iota, ih, iota]; simp; omega
theorem toInt64S_v {l : List Int} (h : l.length ≤ 17592186044416) : laws_toInt64S.d l = some l := by
  have key : ∀ i, i ≤ l.length → laws_toInt64S.l0d l (l.take i ++ List.replicate (l.length - i) 0) (i : Int) = some l := by
    apply down
    · rw [laws_toInt64S.l0d_eq, if_neg (by omega)]; simp
    · intro i hi ih
      rw [laws_toInt64S.l0d_eq, if_pos (by omega), if_pos (by omega), if_pos (by simp; omega), wrS hi h, rd_get hi]
      rw [← ih]
      congr 1
      rw [List.take_succ_eq_append_getElem hi, Int.toNat_natCast]
      apply List.ext_getElem
      · simp; omega
      · intro j h1 h2
        simp only [List.getElem_set, List.getElem_append, List.length_take, List.length_append, List.getElem_take, List.getElem_replicate, List.length_cons, List.length_nil]
        simp only [List.length_set, List.length_append, List.length_take, List.length_replicate] at h1
        by_cases c : i = j
        · subst c; rw [if_pos rfl, dif_pos (by omega), dif_neg (by omega)]; simp
        · rw [if_neg c]
          by_cases c2 : j < i
          · rw [dif_pos (by omega), dif_pos (by omega), dif_pos (by omega)]
          · rw [dif_neg (by omega), dif_neg (by omega)]
  rw [laws_toInt64S.d_eq, if_pos (by omega), if_pos (by omega)]
  have := key 0 (by omega)
  simpa using this
theorem eqInt64S_v {a b : List Int} (h : a.length ≤ 17592186044416) : laws_eqInt64S.d a b = some (decide (a = b)) := by
  rw [laws_eqInt64S.d_eq]
  by_cases hl : a.length = b.length
  · rw [if_pos (by omega)]
    have key : ∀ i, i ≤ a.length → laws_eqInt64S.l0d a b (i : Int) = some (decide (a.drop i = b.drop i)) := by
      apply down
      · rw [laws_eqInt64S.l0d_eq, if_neg (by omega)]; simp [hl]
      · intro i hi ih
        have hb : i < b.length := by omega
        rw [laws_eqInt64S.l0d_eq, if_pos (by omega), if_pos (by omega), if_pos (by omega), wrS hi h, rd_get hi, rd_get hb, ih]
        rw [List.drop_eq_getElem_cons hi, List.drop_eq_getElem_cons hb]
        by_cases c : a[i] = b[i]
        · rw [if_pos c]; simp only [List.cons.injEq, c, true_and]
        · rw [if_neg c]; simp only [List.cons.injEq, c, false_and, decide_false]
    have := key 0 (by omega)
    simpa using this
  · rw [if_neg (by omega)]
    have : a ≠ b := fun e => hl (by rw [e])
    simp [this]
theorem eqInt64S_self {a : List Int} (h : a.length ≤ 17592186044416) : laws_eqInt64S.d a a = some true := by rw [eqInt64S_v h]; simp
/-- a list built by a walk upward -/
theorem build_gen {α R : Type} {F : Int → List α → Option R} {n : Nat} {g : Nat → α} {r : Option R}
    (heq : ∀ i : Nat, i < n → ∀ acc : List α, acc.length = i → F (i : Int) acc = F ((i + 1 : Nat) : Int) (acc ++ [g i]))
    (hend : F (n : Int) ((List.range n).map g) = r) : F 0 [] = r := by
  have key : ∀ i, i ≤ n → F (i : Int) ((List.range i).map g) = r := by
    apply down
    · exact hend
    · intro i hi e
      rw [heq i hi _ (by simp), ← e, List.range_succ, List.map_append]; rfl
  exact key 0 (by omega)
/-- the first place where `q` holds, by a walk upward -/
theorem index_gen {F : Int → Option Int} {n : Nat} {q : Nat → Bool} (hend : F (n : Int) = some (-1))
    (heq : ∀ i : Nat, i < n → F (i : Int) = if q i = true then some (i : Int) else F ((i + 1 : Nat) : Int)) :
    ∃ v, F 0 = some v ∧ (decide (v ≥ 0) = !decide (∀ i, i < n → q i = false)) ∧ (0 ≤ v → v.toNat < n ∧ q v.toNat = true ∧ ∀ j, j < v.toNat → q j = false) := by
  have key : ∀ i, i ≤ n → ∃ v, F (i : Int) = some v ∧ (v ≥ 0 ↔ ¬ ∀ j, i ≤ j → j < n → q j = false) ∧ (0 ≤ v → i ≤ v.toNat ∧ v.toNat < n ∧ q v.toNat = true ∧ ∀ j, i ≤ j → j < v.toNat → q j = false) := by
    apply down
    · exact ⟨-1, hend, ⟨fun h => absurd h (by decide), fun h => absurd (fun j _ _ => by omega) h⟩, fun h => absurd h (by decide)⟩
    · intro i hi ⟨v, e, c, d⟩
      rw [heq i hi]
      by_cases hq : q i = true
      · rw [if_pos hq]
        exact ⟨i, rfl, ⟨fun _ h => (by rw [h i (by omega) hi] at hq; cases hq), fun _ => by omega⟩, fun _ => ⟨by simp, by simpa using hi, by simpa using hq, fun j h1 h2 => by simp at h2; omega⟩⟩
      · rw [if_neg hq]
        have hq' : q i = false := Bool.eq_false_iff.mpr hq
        refine ⟨v, e, c.trans ⟨fun h h' => h fun j a b => h' j (by omega) b, fun h h' => h fun j a b => ?_⟩, fun h => ?_⟩
        · rcases Nat.lt_or_ge i j with z | z
          · exact h' j z b
          · have : j = i := by omega
            rw [this, hq']
        · obtain ⟨a1, a2, a3, a4⟩ := d h
          refine ⟨by omega, a2, a3, fun j h1 h2 => ?_⟩
          rcases Nat.lt_or_ge i j with z | z
          · exact a4 j z h2
          · have : j = i := by omega
            rw [this, hq']
  obtain ⟨v, e, c, d⟩ := key 0 (by omega)
  refine ⟨v, e, ?_, fun h => ⟨(d h).2.1, (d h).2.2.1, fun j hj => (d h).2.2.2 j (by omega) hj⟩⟩
  rw [← decide_not]
  apply decide_eq_decide.mpr
  exact c.trans ⟨fun h h' => h fun j _ b => h' j b, fun h h' => h fun j b => h' j (by omega) b⟩
theorem all_gen {F : Int → Option Bool} {n : Nat} {q : Nat → Bool} (hend : F (n : Int) = some true)
    (heq : ∀ i : Nat, i < n → F (i : Int) = if q i = true then F ((i + 1 : Nat) : Int) else some false) :
    F 0 = some (decide (∀ i, i < n → q i = true)) := by
  have key : ∀ i, i ≤ n → ∃ b, F (i : Int) = some b ∧ (b = true ↔ ∀ j, i ≤ j → j < n → q j = true) := by
    apply down
    · exact ⟨true, hend, ⟨fun _ j a b => by omega, fun _ => rfl⟩⟩
    · intro i hi ⟨b, e, c⟩
      rw [heq i hi, e]
      by_cases hq : q i = true
      · rw [if_pos hq]
        refine ⟨b, rfl, c.trans ⟨fun h j a b => ?_, fun h j a b => h j (by omega) b⟩⟩
        rcases Nat.lt_or_ge i j with z | z
        · exact h j z b
        · have : j = i := by omega
          rw [this, hq]
      · rw [if_neg hq]
        exact ⟨false, rfl, ⟨(fun h => absurd h (by decide)), fun h => absurd (h i (by omega) hi) hq⟩⟩
  obtain ⟨b, e, c⟩ := key 0 (by omega)
  have e' : F 0 = some b := e
  rw [e']
  congr 1
  rw [Bool.eq_iff_iff, decide_eq_true_iff]
  exact c.trans ⟨fun h j b => h j (by omega) b, fun h j _ b => h j b⟩
theorem all_get {l : List Int} {q : Int → Bool} : decide (∀ i, i < l.length → q (rd l (i : Int)) = true) = l.all q := by
  rw [Bool.eq_iff_iff, decide_eq_true_iff, List.all_eq_true]
  constructor
  · intro h x hx
    obtain ⟨i, hi, e⟩ := List.getElem_of_mem hx
    have := h i hi
    rwa [rd_get hi, e] at this
  · intro h i hi
    rw [rd_get hi]; exact h _ (List.getElem_mem hi)
end Go.Proofs.Ytngiionckbmkmaa.P
end
section
namespace Go.Proofs.Ytngiionckbmkmaa.P
open Go.RowKit Go.Proofs.YtngiionckbmkmaaW.PrintWords Go.Proofs.YtngiionckbmkmaaW.PrintLast Go.Proofs.YtngiionckbmkmaaW.PrintMore
set_option linter.unusedVariables false
theorem markInt64S_v {l : List Int} {a : Int} (h : l.length ≤ 17592186044416) (h0 : 0 ≤ a) (h1 : a ≤ 4611686018427387904) :
    laws_markInt64S.d l a = some (a + l.length, iota a l.length) := by
  have key : ∀ i, i ≤ l.length → laws_markInt64S.l0d (iota a i ++ l.drop i) (a + i) (i : Int) = some (a + l.length, iota a l.length) := by
    apply down
    · rw [laws_markInt64S.l0d_eq, if_neg (by simp [iota_length])]; simp
    · intro i hi ih
      rw [laws_markInt64S.l0d_eq, if_pos (by simp [iota_length]; omega), if_pos (by omega), wrS hi h, wr (x := a + i + 1) (by omega) (by omega), ← ih]
      congr 1
      · rw [iota_snoc, Int.toNat_natCast, List.set_append]
        simp only [iota_length, Nat.lt_irrefl, if_false, Nat.sub_self]
        rw [List.drop_eq_getElem_cons hi]
        simp only [List.set_cons_zero, List.append_assoc, List.singleton_append]
      · omega
  rw [laws_markInt64S.d_eq]
  have := key 0 (by omega)
  simpa [iota] using this
theorem heldInt64S_v {n : Nat} {a : Int} (h : n ≤ 17592186044416) (h0 : 0 ≤ a) (h1 : a ≤ 4611686018427387904) :
    laws_heldInt64S.d (iota a n) a = some (a + n) := by
  have key : ∀ i, i ≤ n → laws_heldInt64S.l0d (iota a n) (a + i) (i : Int) = some (a + n) := by
    apply down
    · rw [laws_heldInt64S.l0d_eq, if_neg (by simp [iota_length])]
    · intro i hi ih
      have hi' : i < (iota a n).length := by rw [iota_length]; exact hi
      rw [laws_heldInt64S.l0d_eq, if_pos (by omega), if_pos (by omega), rd_get hi', iota_get, if_pos rfl, wrS hi h, wr (x := a + i + 1) (by omega) (by omega), ← ih]
      congr 1; omega
  rw [laws_heldInt64S.d_eq]
  have := key 0 (by omega)
  simpa using this
end Go.Proofs.Ytngiionckbmkmaa.P
end
section
namespace Go.Proofs.Ytngiionckbmkmaa.P
open Go.RowKit Go.Proofs.YtngiionckbmkmaaW.PrintWords Go.Proofs.YtngiionckbmkmaaW.PrintLast Go.Proofs.YtngiionckbmkmaaW.PrintMore
set_option linter.unusedVariables false
theorem wrap_nat {n : Nat} (h : n < 9223372036854775808) : IntKind.i64.wrap (n : Int) = (n : Int) := by rw [IntKind.wrap_i64]; omega
theorem bits_nat {a : Nat} (ha : a < 9223372036854775808) : (BitVec.ofInt IntKind.i64.bits (a : Int)).toNat = a := by
  show (BitVec.ofInt 64 (a : Int)).toNat = a
  rw [BitVec.ofInt_natCast, BitVec.toNat_ofNat]
  exact Nat.mod_eq_of_lt (by omega)
theorem bxor {a b : Nat} (ha : a < 9223372036854775808) (hb : b < 9223372036854775808) : Go.bits .xor .i64 (a : Int) (b : Int) = ((a ^^^ b : Nat) : Int) := by
  show IntKind.i64.wrap ((BitVec.ofInt IntKind.i64.bits (a : Int) ^^^ BitVec.ofInt IntKind.i64.bits (b : Int)).toNat : Int) = _
  rw [BitVec.toNat_xor, bits_nat ha, bits_nat hb]
  exact wrap_nat (Nat.xor_lt_two_pow (n := 63) (by omega) (by omega))
theorem band {a b : Nat} (ha : a < 9223372036854775808) (hb : b < 9223372036854775808) : Go.bits .and .i64 (a : Int) (b : Int) = ((a &&& b : Nat) : Int) := by
  show IntKind.i64.wrap ((BitVec.ofInt IntKind.i64.bits (a : Int) &&& BitVec.ofInt IntKind.i64.bits (b : Int)).toNat : Int) = _
  rw [BitVec.toNat_and, bits_nat ha, bits_nat hb]
  exact wrap_nat (Nat.and_lt_two_pow (n := 63) a (by omega))
theorem bor {a b : Nat} (ha : a < 9223372036854775808) (hb : b < 9223372036854775808) : Go.bits .or .i64 (a : Int) (b : Int) = ((a ||| b : Nat) : Int) := by
  show IntKind.i64.wrap ((BitVec.ofInt IntKind.i64.bits (a : Int) ||| BitVec.ofInt IntKind.i64.bits (b : Int)).toNat : Int) = _
  rw [BitVec.toNat_or, bits_nat ha, bits_nat hb]
  exact wrap_nat (Nat.or_lt_two_pow (n := 63) (by omega) (by omega))
theorem shr_nat {a c : Nat} (hc : c ≤ 64) : shr .i64 (a : Int) (c : Int) = ((a >>> c : Nat) : Int) := by
  show (a : Int) / 2 ^ min (c : Int).toNat 64 = _
  rw [Int.toNat_natCast, Nat.min_eq_left hc, Nat.shiftRight_eq_div_pow]
  simp
theorem shl_nat {a c : Nat} (hc : c ≤ 64) (h : a * 2 ^ c < 9223372036854775808) : shl .i64 (a : Int) (c : Int) = ((a * 2 ^ c : Nat) : Int) := by
  show IntKind.i64.wrap ((a : Int) * 2 ^ min (c : Int).toNat 64) = _
  rw [Int.toNat_natCast, Nat.min_eq_left hc, ← wrap_nat h]
  simp
theorem bit_test {a c : Nat} (ha : a < 9223372036854775808) (hc : c ≤ 64) : Go.bits .and .i64 (shr .i64 (a : Int) (c : Int)) 1 = if a.testBit c = true then 1 else 0 := by
  rw [shr_nat hc]
  have h1 : a >>> c < 9223372036854775808 := by
    rw [Nat.shiftRight_eq_div_pow]
    exact Nat.lt_of_le_of_lt (Nat.div_le_self _ _) ha
  have := band (a := a >>> c) (b := 1) h1 (by omega)
  rw [show ((1 : Nat) : Int) = 1 from rfl] at this
  rw [this, Nat.testBit, Nat.and_comm 1]
  rw [Nat.and_one_is_mod]
  rcases Nat.mod_two_eq_zero_or_one (a >>> c) with e | e <;> rw [e] <;> simp
theorem lt_mono {x a b : Nat} (h : x < 2 ^ a) (hab : a ≤ b) : x < 2 ^ b := Nat.lt_of_lt_of_le h (Nat.pow_le_pow_right (by omega) hab)
theorem small62 {x n : Nat} (hn : n ≤ 63) (h : x < 2 ^ n) : x < 9223372036854775808 := Nat.lt_of_lt_of_le h (Nat.le_trans (Nat.pow_le_pow_right (by omega) hn) (by decide))
/-- rows as the program holds them -/
def up (l : List Nat) : List Int := l.map fun (x : Nat) => (x : Int)
theorem up_length (l : List Nat) : (up l).length = l.length := by simp [up]
theorem up_get {l : List Nat} {i : Nat} (h : i < l.length) : rd (up l) (i : Int) = (l[i] : Int) := by
  rw [rd_get (by rw [up_length]; exact h)]; simp [up]
theorem up_set {l : List Nat} {i x : Nat} : (up l).set i (x : Int) = up (l.set i x) := by simp [up, List.map_set]
theorem up_append (l l' : List Nat) : up (l ++ l') = up l ++ up l' := by simp [up]
theorem up_drop (l : List Nat) (i : Nat) : (up l).drop i = up (l.drop i) := by simp [up, List.map_drop]
theorem up_take (l : List Nat) (i : Nat) : (up l).take i = up (l.take i) := by simp [up, List.map_take]
theorem up_of {l : List Int} (h : ∀ x ∈ l, 0 ≤ x) : up (l.map Int.toNat) = l := by
  unfold up
  rw [List.map_map]
  conv => rhs; rw [← List.map_id l]
  apply List.map_congr_left
  intro x hx
  show ((x.toNat : Nat) : Int) = x
  have := h x hx
  omega
/-- a walk upward that writes every place of a list -/
theorem map_gen {α R : Type} {F : List α → Int → R} {n : Nat} {g : Nat → α → α} {r : R} (Q : Nat → α → Prop) (l : List α) (hn : l.length = n)
    (hq : ∀ i, (h : i < l.length) → Q i l[i]) (hg : ∀ i x, Q i x → Q i (g i x))
    (heq : ∀ i : Nat, ∀ a : List α, (hi : i < a.length) → a.length = n → (∀ j, (h : j < a.length) → Q j a[j]) → (∀ j, i ≤ j → (h : j < a.length) → (h' : j < l.length) → a[j] = l[j]) →
      (∀ j, j < i → (h : j < a.length) → (h' : j < l.length) → a[j] = g j l[j]) → F a (i : Int) = F (a.set i (g i (a[i]'hi))) ((i + 1 : Nat) : Int))
    (hend : F (l.mapIdx g) (n : Int) = r) : F l 0 = r := by
  have key : ∀ i, i ≤ n → F (l.mapIdx fun j x => if j < i then g j x else x) (i : Int) = r := by
    apply down
    · have : (l.mapIdx fun j x => if j < n then g j x else x) = l.mapIdx g := by
        apply List.ext_getElem
        · simp
        · intro j h1 h2
          simp only [List.getElem_mapIdx]
          rw [if_pos (by simp at h1; omega)]
      rw [this]; exact hend
    · intro i hi e
      have hil : i < l.length := by omega
      rw [heq i _ (by simp; omega) (by simp; omega) ?_ ?_ ?_, ← e]
      · congr 1
        apply List.ext_getElem
        · simp
        · intro j h1 h2
          simp only [List.getElem_set, List.getElem_mapIdx]
          by_cases c : i = j
          · subst c; simp
          · rw [if_neg c]
            by_cases c2 : j < i
            · simp [c2, show j < i + 1 by omega]
            · simp [c2, show ¬ j < i + 1 by omega]
      · intro j h
        simp only [List.length_mapIdx] at h
        simp only [List.getElem_mapIdx]
        split
        · exact hg j _ (hq j h)
        · exact hq j h
      · intro j hij h h'
        simp only [List.getElem_mapIdx]
        rw [if_neg (by omega)]
      · intro j hij h h'
        simp only [List.getElem_mapIdx]
        rw [if_pos hij]
  have := key 0 (by omega)
  have e : (l.mapIdx fun j x => if j < 0 then g j x else x) = l := by
    apply List.ext_getElem
    · simp
    · intro j h1 h2; simp
  rw [e] at this
  exact this
theorem mapIdx_const {α : Type} (g : α → α) (l : List α) : (l.mapIdx fun _ x => g x) = l.map g := by
  apply List.ext_getElem
  · simp
  · intro j h1 h2; simp
end Go.Proofs.Ytngiionckbmkmaa.P
end
section
namespace Go.Proofs.Ytngiionckbmkmaa.P
open Go.RowKit Go.Proofs.YtngiionckbmkmaaW.PrintWords Go.Proofs.YtngiionckbmkmaaW.PrintLast Go.Proofs.YtngiionckbmkmaaW.PrintMore
set_option linter.unusedVariables false
theorem up_getD {ln : List Nat} {i : Nat} (h : i < ln.length) : rd (up ln) (i : Int) = ((ln.getD i 0 : Nat) : Int) := by
  rw [up_get h]; simp [List.getD, h]
theorem getD_mem {ln : List Nat} {i : Nat} (h : i < ln.length) : ln.getD i 0 ∈ ln := by
  have : ln.getD i 0 = ln[i] := by simp [List.getD, h]
  rw [this]; exact List.getElem_mem h
/-- a number of m places -/
def elemB (m x : Int) : Bool := decide (0 ≤ x) && decide (x < 2 ^ m.toNat)
end Go.Proofs.Ytngiionckbmkmaa.P
end
section
namespace Go.Proofs.Ytngiionckbmkmaa.P
open Go.RowKit Go.Proofs.YtngiionckbmkmaaW.PrintWords Go.Proofs.YtngiionckbmkmaaW.PrintLast Go.Proofs.YtngiionckbmkmaaW.PrintMore
set_option linter.unusedVariables false
/-- the irreducible polynomials of degree 1 .. 5, as numbers -/
def irrs : List Int := [2, 3, 7, 11, 13, 19, 25, 31, 37, 41, 47, 55, 59, 61]
def irrB (p : Int) : Bool := irrs.contains p
/-- the fields: degree and polynomial -/
def fields14 : List (Int × Int) := [(1, 2), (1, 3), (2, 7), (3, 11), (3, 13), (4, 19), (4, 25), (4, 31), (5, 37), (5, 41), (5, 47), (5, 55), (5, 59), (5, 61)]
def validB (m p : Int) : Bool := fields14.contains (m, p)
theorem of_range {P : Int → Prop} (n : Nat) (lo : Int) (h : ∀ i, i < n → P (lo + i)) : ∀ x, lo ≤ x → x < lo + n → P x := by
  intro x h0 h1
  have := h (x - lo).toNat (by omega)
  rwa [show lo + ((x - lo).toNat : Int) = x by omega] at this
theorem i_irr_small : ∀ i, i < 62 → impl_IsIrreducible.f 80 (2 + (i : Nat)) = some (irrB (2 + (i : Nat))) := by decide +kernel
theorem s_irr_small : ∀ i, i < 62 → spec_IsIrreducible.f 80 (2 + (i : Nat)) = some (irrB (2 + (i : Nat))) := by decide +kernel
theorem irrB_big {p : Int} (h : p < 2 ∨ 64 ≤ p) : irrB p = false := by
  have : p ∉ irrs := by
    have hb : ∀ q ∈ irrs, 2 ≤ q ∧ q < 64 := by decide +kernel
    intro hp
    have := hb p hp
    omega
  unfold irrB
  rw [List.contains_eq_mem, decide_eq_false this]
theorem i_IsIrreducible_v (p : Int) : impl_IsIrreducible.d p = some (irrB p) := by
  by_cases h : p < 2
  · rw [impl_IsIrreducible.d_eq, if_pos h, impl_IsIrreducible.j0d_eq, if_pos rfl, irrB_big (.inl h)]
  · by_cases h2 : p < 64
    · have := of_range (P := fun p => impl_IsIrreducible.f 80 p = some (irrB p)) 62 2 i_irr_small p (by omega) (by omega)
      exact ((impl_IsIrreducible.lim p).2 _).mpr ⟨_, this⟩
    · rw [impl_IsIrreducible.d_eq, if_neg h, impl_IsIrreducible.j0d_eq, if_pos (by simp; omega), irrB_big (.inr (by omega))]
theorem s_IsIrreducible_v (p : Int) : spec_IsIrreducible.d p = some (irrB p) := by
  by_cases h : p < 64
  · by_cases h2 : 2 ≤ p
    · have := of_range (P := fun p => spec_IsIrreducible.f 80 p = some (irrB p)) 62 2 s_irr_small p (by omega) (by omega)
      exact ((spec_IsIrreducible.lim p).2 _).mpr ⟨_, this⟩
    · by_cases h3 : p = 1
      · subst h3; exact ((spec_IsIrreducible.lim 1).2 _).mpr ⟨80, by decide +kernel⟩
      · rw [spec_IsIrreducible.d_eq, if_neg (by omega), irrB_big (.inl (by omega))]
  · rw [spec_IsIrreducible.d_eq, if_pos (by omega), if_neg h, irrB_big (.inr (by omega))]
theorem irrB_mem {p : Int} (h : irrB p = true) : p ∈ irrs := by simpa [irrB] using h
theorem i_deg_irr {p : Int} (h : irrB p = true) : ∀ m, ((m, p) ∈ fields14) = (impl_degreeOf.d p = some m) := by
  have h := irrB_mem h
  have key : ∀ p ∈ irrs, ∃ m, impl_degreeOf.f 80 p = some m ∧ (m, p) ∈ fields14 ∧ ∀ m', (m', p) ∈ fields14 → m' = m := by
    have : ∀ p ∈ irrs, ∃ m ∈ [1, 2, 3, 4, 5], impl_degreeOf.f 80 p = some m ∧ (m, p) ∈ fields14 ∧ ∀ f ∈ fields14, f.2 = p → f.1 = m := by decide +kernel
    intro p hp
    obtain ⟨m, _, a, b, c⟩ := this p hp
    exact ⟨m, a, b, fun m' h' => c (m', p) h' rfl⟩
  intro m
  obtain ⟨m0, a, b, c⟩ := key p h
  have e : impl_degreeOf.d p = some m0 := ((impl_degreeOf.lim p).2 _).mpr ⟨_, a⟩
  rw [e]
  apply propext
  exact ⟨fun h => by rw [c m h], fun h => by cases h; exact b⟩
theorem s_deg_irr {p : Int} (h : irrB p = true) : ∀ m, ((m, p) ∈ fields14) = (spec_l01Degree.d p = some m) := by
  have h := irrB_mem h
  have key : ∀ p ∈ irrs, ∃ m, spec_l01Degree.f 80 p = some m ∧ (m, p) ∈ fields14 ∧ ∀ m', (m', p) ∈ fields14 → m' = m := by
    have : ∀ p ∈ irrs, ∃ m ∈ [1, 2, 3, 4, 5], spec_l01Degree.f 80 p = some m ∧ (m, p) ∈ fields14 ∧ ∀ f ∈ fields14, f.2 = p → f.1 = m := by decide +kernel
    intro p hp
    obtain ⟨m, _, a, b, c⟩ := this p hp
    exact ⟨m, a, b, fun m' h' => c (m', p) h' rfl⟩
  intro m
  obtain ⟨m0, a, b, c⟩ := key p h
  have e : spec_l01Degree.d p = some m0 := ((spec_l01Degree.lim p).2 _).mpr ⟨_, a⟩
  rw [e]
  apply propext
  exact ⟨fun h => by rw [c m h], fun h => by cases h; exact b⟩
theorem deg_some {p : Int} (h : irrB p = true) : ∃ m, (m, p) ∈ fields14 := by
  have : ∀ p ∈ irrs, ∃ m ∈ [1, 2, 3, 4, 5], ((m, p) : Int × Int) ∈ fields14 := by decide +kernel
  obtain ⟨m, _, hm⟩ := this p (irrB_mem h)
  exact ⟨m, hm⟩
theorem fields_facts : ∀ f ∈ fields14, (1 ≤ f.1 ∧ f.1 ≤ 5) ∧ irrB f.2 = true := by decide +kernel
theorem valid_facts {m p : Int} (h : validB m p = true) : 1 ≤ m ∧ m ≤ 5 ∧ irrB p = true := by
  have h' : (m, p) ∈ fields14 := by simpa [validB] using h
  have := fields_facts _ h'
  exact ⟨this.1.1, this.1.2, this.2⟩
theorem validB_eq {m p : Int} : validB m p = decide ((m, p) ∈ fields14) := by simp [validB, List.contains_eq_mem]
theorem i_ValidField_v (m p : Int) : impl_ValidField.d m p = some (validB m p) := by
  rw [impl_ValidField.d_eq]
  unfold impl_within.f
  by_cases h1 : m ≥ 1
  · rw [if_pos h1, bind_some']
    by_cases h5 : m ≤ 5
    · rw [if_pos (by simpa using h5), i_IsIrreducible_v, bind_some']
      by_cases hi : irrB p = true
      · rw [if_pos hi]
        obtain ⟨m0, hm0⟩ := deg_some hi
        rw [i_deg_irr hi] at hm0
        rw [hm0, bind_some', validB_eq]
        have := i_deg_irr hi m
        rw [hm0] at this
        congr 1
        simp only [this, Option.some.injEq]
        by_cases e : m0 = m
        · simp [e]
        · simp [e]
      · rw [if_neg hi]
        congr 1
        have : ¬ validB m p = true := fun h => hi (valid_facts h).2.2
        exact (Bool.eq_false_iff.mpr this).symm
    · rw [if_neg (by simpa using h5)]
      have : ¬ validB m p = true := fun h => h5 (valid_facts h).2.1
      rw [Bool.eq_false_iff.mpr this]
  · rw [if_neg h1, bind_some', if_neg (by decide)]
    have : ¬ validB m p = true := fun h => h1 (valid_facts h).1
    rw [Bool.eq_false_iff.mpr this]
theorem s_l01Ok_v (m p : Int) : spec_l01Ok.d m p = some (validB m p) := by
  rw [spec_l01Ok.d_eq]
  unfold spec_l00In.f
  by_cases h1 : m ≥ 1
  · rw [if_pos h1, bind_some']
    by_cases h5 : m ≤ 5
    · rw [if_pos (by simpa using h5), s_IsIrreducible_v, bind_some']
      by_cases hi : irrB p = true
      · rw [if_pos hi]
        obtain ⟨m0, hm0⟩ := deg_some hi
        rw [s_deg_irr hi] at hm0
        rw [hm0, bind_some', validB_eq]
        have := s_deg_irr hi m
        rw [hm0] at this
        congr 1
        simp only [this, Option.some.injEq]
        by_cases e : m0 = m
        · simp [e]
        · simp [e]
      · rw [if_neg hi]
        congr 1
        have : ¬ validB m p = true := fun h => hi (valid_facts h).2.2
        exact (Bool.eq_false_iff.mpr this).symm
    · rw [if_neg (by simpa using h5)]
      have : ¬ validB m p = true := fun h => h5 (valid_facts h).2.1
      rw [Bool.eq_false_iff.mpr this]
  · rw [if_neg h1, bind_some', if_neg (by decide)]
    have : ¬ validB m p = true := fun h => h1 (valid_facts h).1
    rw [Bool.eq_false_iff.mpr this]
end Go.Proofs.Ytngiionckbmkmaa.P
end
section
namespace Go.Proofs.Ytngiionckbmkmaa.P
open Go.RowKit Go.Proofs.YtngiionckbmkmaaW.PrintWords Go.Proofs.YtngiionckbmkmaaW.PrintLast Go.Proofs.YtngiionckbmkmaaW.PrintMore
set_option linter.unusedVariables false
theorem m_cases {m p : Int} (h : validB m p = true) : m = 1 ∨ m = 2 ∨ m = 3 ∨ m = 4 ∨ m = 5 := by
  have := valid_facts h; omega
theorem i_count_v {m p : Int} (h : validB m p = true) (q : Int) : impl_Field_count.f m q = some (2 ^ m.toNat) := by
  rcases m_cases h with rfl | rfl | rfl | rfl | rfl <;> rfl
theorem s_l01Size_v {m p : Int} (h : validB m p = true) (q : Int) : spec_l01Size.f m q = some (2 ^ m.toNat) := by
  rcases m_cases h with rfl | rfl | rfl | rfl | rfl <;> rfl
theorem pow_bound {m p : Int} (h : validB m p = true) : (2 : Int) ≤ 2 ^ m.toNat ∧ (2 : Int) ^ m.toNat ≤ 32 := by
  rcases m_cases h with rfl | rfl | rfl | rfl | rfl <;> decide
theorem i_has_1_v {m p : Int} (h : validB m p = true) (q x : Int) : impl_Field_has_1.f x m q = some (!(elemB m x)) := by
  unfold impl_Field_has_1.f impl_within.f elemB
  have hb := pow_bound h
  rw [i_count_v h, bind_some', wr (by omega) (by omega)]
  by_cases c : 0 ≤ x
  · rw [if_pos (by omega), bind_some']
    simp only [decide_eq_true c, Bool.true_and]
    congr 2
    apply decide_eq_decide.mpr; omega
  · rw [if_neg (by omega), bind_some']
    simp only [decide_eq_false c, Bool.false_and]
theorem i_has_v {m p : Int} (h : validB m p = true) (q : Int) {l : List Int} (hl : l.length ≤ 17592186044416) : impl_Field_has.d m q l = some (l.all (elemB m)) := by
  rw [impl_Field_has.d_eq, slices_ContainsFunc_int64_int64_AT_impl_Field_has_1.d_eq, slices_IndexFunc_int64_int64_AT_impl_Field_has_1.d_eq]
  obtain ⟨v, e, c, _⟩ := index_gen (F := fun i => slices_IndexFunc_int64_int64_AT_impl_Field_has_1.l0d l (l.length : Int) i m q) (n := l.length) (q := fun i => !(elemB m (rd l (i : Int))))
    (by show slices_IndexFunc_int64_int64_AT_impl_Field_has_1.l0d l (l.length : Int) (l.length : Int) m q = _
        rw [slices_IndexFunc_int64_int64_AT_impl_Field_has_1.l0d_eq, if_neg (by omega)])
    (by intro i hi
        show slices_IndexFunc_int64_int64_AT_impl_Field_has_1.l0d l (l.length : Int) (i : Int) m q = _
        rw [slices_IndexFunc_int64_int64_AT_impl_Field_has_1.l0d_eq, if_pos (by omega), if_pos (by omega), if_pos (by omega), i_has_1_v h, bind_some', wrS hi hl])
  have e' : slices_IndexFunc_int64_int64_AT_impl_Field_has_1.l0d l (l.length : Int) 0 m q = some v := e
  rw [e', bind_some', bind_some', c, Bool.not_not]
  congr 1
  rw [← all_get]
  apply decide_eq_decide.mpr
  simp only [Bool.not_eq_false']
theorem s_l04Elements_v {m p : Int} (h : validB m p = true) (q : Int) {l : List Int} (hl : l.length ≤ 17592186044416) : spec_l04Elements.d m q l = some (l.all (elemB m)) := by
  have hb := pow_bound h
  rw [spec_l04Elements.d_eq]
  have := all_gen (F := fun i => spec_l04Elements.l0d l i m q) (n := l.length) (q := fun i => elemB m (rd l (i : Int)))
    (by show spec_l04Elements.l0d l (l.length : Int) m q = _
        rw [spec_l04Elements.l0d_eq, if_neg (by omega)])
    (by intro i hi
        show spec_l04Elements.l0d l (i : Int) m q = _
        have e : spec_l00In.f (rd l (i : Int)) 0 (2 ^ m.toNat - 1) = some (elemB m (rd l (i : Int))) := by
          unfold spec_l00In.f elemB
          by_cases c : rd l (i : Int) ≥ 0
          · rw [if_pos c]
            simp only [decide_eq_true (show 0 ≤ rd l (i : Int) from c), Bool.true_and]
            congr 1
            apply decide_eq_decide.mpr; omega
          · rw [if_neg c]
            simp only [decide_eq_false (show ¬ 0 ≤ rd l (i : Int) from c), Bool.false_and]
        rw [spec_l04Elements.l0d_eq, if_pos (by omega), if_pos (by omega), s_l01Size_v h, bind_some', wr (by omega) (by omega), e, bind_some', wrS hi hl])
  have this' : spec_l04Elements.l0d l 0 m q = some (decide (∀ i, i < l.length → elemB m (rd l (i : Int)) = true)) := this
  rw [this']
  congr 1
  exact all_get
def wordB (m : Int) (l : List Int) : Bool := (decide (1 ≤ l.length) && decide (l.length ≤ 5)) && l.all (elemB m)
theorem s_l04Word_v {m p : Int} (h : validB m p = true) (q : Int) {l : List Int} (hl : l.length ≤ 17592186044416) : spec_l04Word.d m q l = some (wordB m l) := by
  rw [spec_l04Word.d_eq]
  unfold spec_l00In.f wordB
  by_cases c : 1 ≤ l.length
  · rw [if_pos (by omega), bind_some']
    by_cases d : l.length ≤ 5
    · rw [if_pos (by simp; omega), s_l04Elements_v h q hl, bind_some']; simp [c, d]
    · rw [if_neg (by simp; omega)]; simp [d]
  · rw [if_neg (by omega), bind_some', if_neg (by decide)]; simp [c]
theorem i_isWord_v {m p : Int} (h : validB m p = true) (q : Int) {l : List Int} (hl : l.length ≤ 17592186044416) : impl_Field_isWord.d m q l = some (wordB m l) := by
  rw [impl_Field_isWord.d_eq]
  unfold impl_size_int64_85.f impl_within.f wordB
  rw [bind_some']
  by_cases c : 1 ≤ l.length
  · rw [if_pos (by omega), bind_some']
    by_cases d : l.length ≤ 5
    · rw [if_pos (by simp; omega), i_has_v h q hl, bind_some']; simp [c, d]
    · rw [if_neg (by simp; omega)]; simp [d]
  · rw [if_neg (by omega), bind_some', if_neg (by decide)]; simp [c]
/-- what both tell of a word handed in alone: 0, 1 (no field), 2 (no word) -/
def wordCode (m p : Int) (l : List Int) : Int := if validB m p = true then (if wordB m l = true then 0 else 2) else 1
theorem i_wordCode_v (m p : Int) {l : List Int} (hl : l.length ≤ 17592186044416) : impl_Field_wordCode.d m p [l] = some (wordCode m p l) := by
  rw [impl_Field_wordCode.d_eq, i_ValidField_v, bind_some']
  unfold wordCode
  by_cases h : validB m p = true
  · rw [if_pos h, if_pos h, slices_ContainsFunc_int64_int64_AT_impl_Field_wordCode_1.d_eq, slices_IndexFunc_int64_int64_AT_impl_Field_wordCode_1.d_eq]
    have hq : impl_Field_wordCode_1.d (rd_L1 [l] 0) m p [l] = some (!(wordB m l)) := by
      rw [impl_Field_wordCode_1.d_eq]
      show (impl_Field_isWord.d m p l).bind _ = _
      rw [i_isWord_v h p hl, bind_some']
      by_cases c : wordB m l = true
      · rw [if_pos c, if_pos (by simp)]
        show some ((l.length : Int) != (l.length : Int)) = _
        simp [c]
      · rw [if_neg c]; simp [Bool.eq_false_iff.mpr c]
    rw [slices_IndexFunc_int64_int64_AT_impl_Field_wordCode_1.l0d_eq, if_pos (by simp), if_pos (by omega), if_pos (by simp), hq, bind_some']
    by_cases c : wordB m l = true
    · rw [if_neg (by simp [c]), slices_IndexFunc_int64_int64_AT_impl_Field_wordCode_1.l0d_eq, if_neg (by rw [wr (by omega) (by omega)]; simp)]
      rw [bind_some', bind_some', if_neg (by decide), if_pos c]
    · rw [if_pos (by simp [c]), bind_some', bind_some', if_pos (by decide), if_neg c]
  · rw [if_neg h, if_neg h]
end Go.Proofs.Ytngiionckbmkmaa.P
end
section
namespace Go.Proofs.Ytngiionckbmkmaa.P
open Go.RowKit Go.Proofs.YtngiionckbmkmaaW.PrintWords Go.Proofs.YtngiionckbmkmaaW.PrintLast Go.Proofs.YtngiionckbmkmaaW.PrintMore
set_option linter.unusedVariables false
theorem s_l04Given_v (m p : Int) {l : List Int} (hl : l.length ≤ 17592186044416) : spec_l04Given.d m p l = some (wordCode m p l) := by
  rw [spec_l04Given.d_eq, s_l01Ok_v, bind_some']
  unfold wordCode
  by_cases h : validB m p = true
  · rw [if_pos h, if_pos h, s_l04Word_v h p hl, bind_some']
    by_cases c : wordB m l = true
    · rw [if_pos c, if_pos c]
    · rw [if_neg c, if_neg c]
  · rw [if_neg h, if_neg h]
end Go.Proofs.Ytngiionckbmkmaa.P
end
section
namespace Go.Proofs.Ytngiionckbmkmaa.P
open Go.RowKit Go.Proofs.YtngiionckbmkmaaW.PrintWords Go.Proofs.YtngiionckbmkmaaW.PrintLast Go.Proofs.YtngiionckbmkmaaW.PrintMore
set_option linter.unusedVariables false
theorem word_up {m p : Int} {l : List Int} (h : wordCode m p l = 0) : ∃ N : Nat, ∃ ln : List Nat, m = (N : Int) ∧ N ≤ 5 ∧ 1 ≤ N ∧ l = up ln ∧ (∀ x ∈ ln, x < 2 ^ N) ∧ 1 ≤ ln.length ∧ ln.length ≤ 5 ∧ validB m p = true := by
  unfold wordCode at h
  by_cases hv : validB m p = true
  · rw [if_pos hv] at h
    by_cases hw : wordB m l = true
    · have hv' := valid_facts hv
      unfold wordB at hw
      simp only [Bool.and_eq_true, decide_eq_true_eq] at hw
      obtain ⟨⟨h1, h5⟩, ha⟩ := hw
      rw [List.all_eq_true] at ha
      have he : ∀ x ∈ l, 0 ≤ x ∧ x < 2 ^ m.toNat := fun x hx => by
        have := ha x hx
        unfold elemB at this
        simpa using this
      refine ⟨m.toNat, l.map Int.toNat, by omega, by omega, by omega, (up_of fun x hx => (he x hx).1).symm, fun x hx => ?_, by simpa using h1, by simpa using h5, hv⟩
      obtain ⟨y, hy, rfl⟩ := List.mem_map.mp hx
      have := he y hy
      have e : ((2 ^ m.toNat : Nat) : Int) = (2 : Int) ^ m.toNat := by simp
      omega
    · rw [if_neg hw] at h; exact absurd h (by decide)
  · rw [if_neg hv] at h; exact absurd h (by decide)
end Go.Proofs.Ytngiionckbmkmaa.P
end
section
namespace Go.Proofs.Ytngiionckbmkmaa.P
set_option linter.unusedVariables false
/-- a sum of some of the rows -/
inductive Sp (R : List Nat) : Nat → Prop
  | zero : Sp R 0
  | add {r v : Nat} : r ∈ R → Sp R v → Sp R (v ^^^ r)
theorem Sp.mem {R : List Nat} {r : Nat} (h : r ∈ R) : Sp R r := by
  have := Sp.add h Sp.zero
  rwa [Nat.zero_xor] at this
theorem Sp.xor {R : List Nat} {u v : Nat} (hu : Sp R u) (hv : Sp R v) : Sp R (u ^^^ v) := by
  induction hv with
  | zero => rwa [Nat.xor_zero]
  | add h _ ih => rw [← Nat.xor_assoc]; exact Sp.add h ih
theorem Sp.sub {R R' : List Nat} (h : ∀ r ∈ R, Sp R' r) {v : Nat} (hv : Sp R v) : Sp R' v := by
  induction hv with
  | zero => exact Sp.zero
  | add hr _ ih => exact ih.xor (h _ hr)
theorem Sp.mono {R R' : List Nat} (h : ∀ r ∈ R, r ∈ R') {v : Nat} (hv : Sp R v) : Sp R' v := hv.sub fun r hr => Sp.mem (h r hr)
theorem Sp.nil {v : Nat} (h : Sp [] v) : v = 0 := by
  cases h with
  | zero => rfl
  | add h _ => cases h
theorem Sp.cons {r : Nat} {R : List Nat} {v : Nat} (h : Sp (r :: R) v) : Sp R v ∨ Sp R (v ^^^ r) := by
  induction h with
  | zero => exact .inl .zero
  | @add s v hs _ ih =>
    rcases List.mem_cons.mp hs with rfl | hs
    · rcases ih with ih | ih
      · right; rw [Nat.xor_assoc, Nat.xor_self, Nat.xor_zero]; exact ih
      · left; exact ih
    · rcases ih with ih | ih
      · left; exact ih.add hs
      · right; rw [Nat.xor_assoc, Nat.xor_comm s r, ← Nat.xor_assoc]; exact ih.add hs
theorem Sp.bit {R : List Nat} {b : Nat} (h : ∀ r ∈ R, r.testBit b = false) {v : Nat} (hv : Sp R v) : v.testBit b = false := by
  induction hv with
  | zero => exact Nat.zero_testBit b
  | add hr _ ih => rw [Nat.testBit_xor, ih, h _ hr]; rfl
/-- reduced rows R with their leading places C, growing -/
def RED : List Nat → List Nat → Prop
  | [], [] => True
  | r :: R, c :: C => r.testBit c = true ∧ (∀ b, b < c → r.testBit b = false) ∧ (∀ d ∈ C, c < d ∧ r.testBit d = false) ∧ RED R C
  | _, _ => False
theorem RED.low {R C : List Nat} (h : RED R C) {b : Nat} (hb : ∀ d ∈ C, b < d) : ∀ r ∈ R, r.testBit b = false := by
  induction R generalizing C with
  | nil => intro r hr; cases hr
  | cons r R ih =>
    cases C with
    | nil => exact h.elim
    | cons c C =>
      obtain ⟨h1, h2, h3, h4⟩ := h
      intro s hs
      rcases List.mem_cons.mp hs with rfl | hs
      · exact h2 b (hb c (by simp))
      · exact ih h4 (fun d hd => hb d (by simp [hd])) s hs
theorem RED.zero {R C : List Nat} (h : RED R C) {v : Nat} (hv : Sp R v) (h0 : ∀ c ∈ C, v.testBit c = false) : v = 0 := by
  induction R generalizing C v with
  | nil => exact hv.nil
  | cons r R ih =>
    cases C with
    | nil => exact h.elim
    | cons c C =>
      obtain ⟨h1, h2, h3, h4⟩ := h
      have low : ∀ s ∈ R, s.testBit c = false := h4.low fun d hd => (h3 d hd).1
      rcases hv.cons with hv | hv
      · exact ih h4 hv fun d hd => h0 d (by simp [hd])
      · have := hv.bit low
        rw [Nat.testBit_xor, h1, h0 c (by simp)] at this
        cases this
theorem RED.lead {R C : List Nat} (h : RED R C) {v : Nat} (hv : Sp R v) (h0 : v ≠ 0) : ∃ c ∈ C, v.testBit c = true ∧ ∀ b, b < c → v.testBit b = false := by
  induction R generalizing C v with
  | nil => exact absurd hv.nil h0
  | cons r R ih =>
    cases C with
    | nil => exact h.elim
    | cons c C =>
      obtain ⟨h1, h2, h3, h4⟩ := h
      rcases hv.cons with hv | hv
      · obtain ⟨d, hd, a, b⟩ := ih h4 hv h0
        exact ⟨d, by simp [hd], a, b⟩
      · refine ⟨c, by simp, ?_, fun b hb => ?_⟩
        · have := hv.bit (h4.low fun d hd => (h3 d hd).1)
          rw [Nat.testBit_xor, h1] at this
          revert this; cases v.testBit c <;> simp
        · have := hv.bit (h4.low (b := b) fun d hd => Nat.lt_trans hb (h3 d hd).1)
          rw [Nat.testBit_xor, h2 b hb] at this
          revert this; cases v.testBit b <;> simp
theorem RED.nonzero {r c : Nat} (h : r.testBit c = true) : r ≠ 0 := by rintro rfl; rw [Nat.zero_testBit] at h; cases h
theorem RED.head_le {r c : Nat} {R C R' C' : List Nat} {r' c' : Nat} (h : RED (r :: R) (c :: C)) (h' : RED (r' :: R') (c' :: C'))
    (hs : ∀ v, Sp (r' :: R') v → Sp (r :: R) v) : c ≤ c' := by
  obtain ⟨d, hd, a, b⟩ := h.lead (hs r' (Sp.mem (by simp))) (RED.nonzero h'.1)
  have : c ≤ d := by
    rcases List.mem_cons.mp hd with rfl | hd
    · exact Nat.le_refl _
    · exact Nat.le_of_lt (h.2.2.1 d hd).1
  rcases Nat.lt_or_ge c' d with z | z
  · have := b c' z; rw [h'.1] at this; cases this
  · omega
theorem RED.tail {r c : Nat} {R C : List Nat} (h : RED (r :: R) (c :: C)) {v : Nat} : Sp R v ↔ (Sp (r :: R) v ∧ v.testBit c = false) := by
  have low : ∀ s ∈ R, s.testBit c = false := h.2.2.2.low fun d hd => (h.2.2.1 d hd).1
  constructor
  · intro hv; exact ⟨hv.mono fun s hs => by simp [hs], hv.bit low⟩
  · rintro ⟨hv, h0⟩
    rcases hv.cons with hv | hv
    · exact hv
    · have := hv.bit low
      rw [Nat.testBit_xor, h.1, h0] at this; cases this
theorem RED.unique {R C R' C' : List Nat} (h : RED R C) (h' : RED R' C') (hs : ∀ v, Sp R v ↔ Sp R' v) : R = R' ∧ C = C' := by
  induction R generalizing C R' C' with
  | nil =>
    cases C with
    | cons c C => exact h.elim
    | nil =>
      cases R' with
      | nil => cases C' with
        | nil => exact ⟨rfl, rfl⟩
        | cons c' C' => exact h'.elim
      | cons r' R' => cases C' with
        | nil => exact h'.elim
        | cons c' C' => exact absurd ((hs r').mpr (Sp.mem (by simp))).nil (RED.nonzero h'.1)
  | cons r R ih =>
    cases C with
    | nil => exact h.elim
    | cons c C =>
      cases R' with
      | nil => cases C' with
        | nil => exact absurd ((hs r).mp (Sp.mem (by simp))).nil (RED.nonzero h.1)
        | cons c' C' => exact h'.elim
      | cons r' R' =>
        cases C' with
        | nil => exact h'.elim
        | cons c' C' =>
          have e : c = c' := Nat.le_antisymm (h.head_le h' fun v => (hs v).mpr) (h'.head_le h fun v => (hs v).mp)
          subst e
          obtain ⟨e1, e2⟩ := ih h.2.2.2 h'.2.2.2 fun v => by rw [h.tail, h'.tail, hs v]
          subst e1 e2
          refine ⟨?_, rfl⟩
          have hz : r ^^^ r' = 0 := by
            refine h.zero (Sp.xor (Sp.mem (by simp)) ((hs r').mpr (Sp.mem (by simp)))) fun d hd => ?_
            rw [Nat.testBit_xor]
            rcases List.mem_cons.mp hd with rfl | hd
            · rw [h.1, h'.1]; rfl
            · rw [(h.2.2.1 d hd).2, (h'.2.2.1 d hd).2]; rfl
          have : r = r' := by
            have := congrArg (· ^^^ r') hz
            simp only [Nat.xor_assoc, Nat.xor_self, Nat.xor_zero, Nat.zero_xor] at this
            exact this
          rw [this]
theorem RED.snoc {R C : List Nat} (h : RED R C) {r c : Nat} (h1 : r.testBit c = true) (h2 : ∀ b, b < c → r.testBit b = false) (hC : ∀ d ∈ C, d < c) (hR : ∀ s ∈ R, s.testBit c = false) : RED (R ++ [r]) (C ++ [c]) := by
  induction R generalizing C with
  | nil =>
    cases C with
    | cons c C => exact h.elim
    | nil => exact ⟨h1, h2, (fun d hd => by cases hd), trivial⟩
  | cons s R ih =>
    cases C with
    | nil => exact h.elim
    | cons d C =>
      refine ⟨h.1, h.2.1, fun e he => ?_, ih h.2.2.2 (fun e he => hC e (by simp [he])) (fun s hs => hR s (by simp [hs]))⟩
      rcases List.mem_append.mp he with he | he
      · exact h.2.2.1 e he
      · rw [List.mem_singleton] at he
        subst he
        exact ⟨hC d (by simp), hR s (by simp)⟩
/-- a row x becomes x + r where it has the place c -/
def clr (c r x : Nat) : Nat := if x.testBit c = true then x ^^^ r else x
theorem clr_bit {c r x : Nat} (h : r.testBit c = true) : (clr c r x).testBit c = false := by
  unfold clr
  split
  · rename_i hx; rw [Nat.testBit_xor, hx, h]; rfl
  · rename_i hx; exact Bool.eq_false_iff.mpr hx
theorem clr_low {c r x b : Nat} (h : r.testBit b = false) : (clr c r x).testBit b = x.testBit b := by
  unfold clr
  split
  · rw [Nat.testBit_xor, h, Bool.xor_false]
  · rfl
theorem clr_lt {c r x n : Nat} (hr : r < 2 ^ n) (hx : x < 2 ^ n) : clr c r x < 2 ^ n := by
  unfold clr
  split
  · exact Nat.xor_lt_two_pow hx hr
  · exact hx
theorem RED.clr {R C : List Nat} (h : RED R C) {r c : Nat} (hr : ∀ d ∈ C, r.testBit d = false) (hl : ∀ d ∈ C, ∀ b, b < d → r.testBit b = false) : RED (R.map (clr c r)) C := by
  induction R generalizing C with
  | nil => exact h
  | cons s R ih =>
    cases C with
    | nil => exact h.elim
    | cons d C =>
      refine ⟨?_, fun b hb => ?_, fun e he => ⟨(h.2.2.1 e he).1, ?_⟩, ih h.2.2.2 (fun e he => hr e (by simp [he])) (fun e he => hl e (by simp [he]))⟩
      · rw [clr_low (hr d (by simp))]; exact h.1
      · rw [clr_low (hl d (by simp) b hb)]; exact h.2.1 b hb
      · rw [clr_low (hr e (by simp [he]))]; exact (h.2.2.1 e he).2
theorem Sp.clr {R : List Nat} {c r x : Nat} (hr : Sp R r) (hx : Sp R x) : Sp R (clr c r x) := by
  unfold P.clr
  split
  · exact hx.xor hr
  · exact hx
theorem Sp.of_clr {R : List Nat} {c r x : Nat} (hr : Sp R r) (hx : Sp R (P.clr c r x)) : Sp R x := by
  unfold P.clr at hx
  split at hx
  · have := hx.xor hr
    rwa [Nat.xor_assoc, Nat.xor_self, Nat.xor_zero] at this
  · exact hx
end Go.Proofs.Ytngiionckbmkmaa.P
end
section
namespace Go.Proofs.Ytngiionckbmkmaa.P
open Go.RowKit Go.Proofs.YtngiionckbmkmaaW.PrintWords Go.Proofs.YtngiionckbmkmaaW.PrintLast Go.Proofs.YtngiionckbmkmaaW.PrintMore
set_option linter.unusedVariables false
theorem s_bit_v {a k : Nat} (ha : a < 4611686018427387904) (hk : k ≤ 62) : spec_l02Bit.f (a : Int) (k : Int) = some (if a.testBit k = true then 1 else 0) := by
  unfold spec_l02Bit.f
  rw [u64_id (by omega) (by omega), if_pos (by omega), bit_test (by omega) (by omega)]
theorem bit_if_pos {b : Bool} (h : b = true) : ((if b = true then 1 else 0 : Int) = 1) = True := by rw [h]; simp
theorem bit_if_neg {b : Bool} (h : b = false) : ((if b = true then 1 else 0 : Int) = 1) = False := by rw [h]; simp
theorem s_find_none {N k : Nat} (hk : k ≤ 61) {ln : List Nat} {out : List Int} (hl : ln.length ≤ 17592186044416) (hb : ∀ x ∈ ln, x < 4611686018427387904)
    (h : ∀ j, (hj : j < ln.length) → ln[j].testBit k = false) : spec_l02Echelon.l1d (N : Int) (up ln) out (k : Int) (-1) 0 = spec_l02Echelon.l0d (N : Int) (up ln) out ((k + 1 : Nat) : Int) := by
  have key : ∀ i, i ≤ ln.length → spec_l02Echelon.l1d (N : Int) (up ln) out (k : Int) (-1) (i : Int) = spec_l02Echelon.l0d (N : Int) (up ln) out ((k + 1 : Nat) : Int) := by
    apply down
    · rw [spec_l02Echelon.l1d_eq, if_neg (by rw [up_length]; omega), spec_l02Echelon.j2d_eq, if_neg (by decide), if_pos (by decide), wrS (n := 62) (by omega) (by omega)]
    · intro i hi e
      rw [spec_l02Echelon.l1d_eq, if_pos (by rw [up_length]; omega), spec_l02Echelon.j2d_eq, if_pos (by decide), if_pos (by omega), if_pos (by rw [up_length]; omega), up_get hi, s_bit_v (hb _ (List.getElem_mem hi)) (by omega), bind_some',
        if_neg (by rw [bit_if_neg (h i hi)]; exact id), wrS hi hl, e]
  exact key 0 (by omega)
theorem s_find_some {N k : Nat} (hk : k ≤ 61) {ln : List Nat} {out : List Int} (hl : ln.length ≤ 17592186044416) (hb : ∀ x ∈ ln, x < 4611686018427387904)
    {j : Nat} (hj : j < ln.length) (hbit : ln[j].testBit k = true) (h : ∀ t, (ht : t < j) → (ln[t]'(by omega)).testBit k = false) :
    spec_l02Echelon.l1d (N : Int) (up ln) out (k : Int) (-1) 0 = spec_l02Echelon.l2d (N : Int) (up (ln.set j 0)) out (k : Int) (ln[j] : Int) 0 := by
  have key : ∀ i, i ≤ j → spec_l02Echelon.l1d (N : Int) (up ln) out (k : Int) (-1) (i : Int) = spec_l02Echelon.l2d (N : Int) (up (ln.set j 0)) out (k : Int) (ln[j] : Int) 0 := by
    apply down
    · have e2 : ∀ i : Int, spec_l02Echelon.j2d (N : Int) (up ln) out (k : Int) (j : Int) i false = spec_l02Echelon.l2d (N : Int) (up (ln.set j 0)) out (k : Int) (ln[j] : Int) 0 := by
        intro i
        rw [spec_l02Echelon.j2d_eq, if_neg (by decide), if_neg (by omega), if_pos (by omega), if_pos (by rw [up_length]; omega), up_get hj, Int.toNat_natCast]
        rw [← up_set]; rfl
      rw [spec_l02Echelon.l1d_eq, if_pos (by rw [up_length]; omega), spec_l02Echelon.j2d_eq, if_pos (by decide), if_pos (by omega), if_pos (by rw [up_length]; omega), up_get hj, s_bit_v (hb _ (List.getElem_mem hj)) (by omega), bind_some',
        if_pos (by rw [bit_if_pos hbit]; trivial), spec_l02Echelon.l1d_eq]
      have e3 : decide ((j : Int) < 0) = false := decide_eq_false (by omega)
      rw [e3]
      split
      · exact e2 _
      · exact e2 _
    · intro i hi e
      have hi' : i < ln.length := by omega
      rw [spec_l02Echelon.l1d_eq, if_pos (by rw [up_length]; omega), spec_l02Echelon.j2d_eq, if_pos (by decide), if_pos (by omega), if_pos (by rw [up_length]; omega), up_get hi', s_bit_v (hb _ (List.getElem_mem hi')) (by omega), bind_some',
        if_neg (by rw [bit_if_neg (h i hi)]; exact id), wrS hi' hl, e]
  exact key 0 (by omega)
theorem clr_lt62 {c r x : Nat} (hr : r < 4611686018427387904) (hx : x < 4611686018427387904) : clr c r x < 4611686018427387904 := by
  have := clr_lt (n := 62) (c := c) (r := r) (x := x) (by omega) (by omega)
  omega
theorem clr_set {c r : Nat} {a : List Nat} {i : Nat} (hi : i < a.length) (h : a[i].testBit c = false) : a.set i (clr c r a[i]) = a := by
  unfold clr
  rw [if_neg (by rw [h]; decide), List.set_getElem_self]
theorem s_clear_left {N k lead : Nat} (hk : k ≤ 61) {ln : List Nat} {out : List Int} (hl : ln.length ≤ 17592186044416) (hb : ∀ x ∈ ln, x < 4611686018427387904) (hlead : lead < 4611686018427387904) :
    spec_l02Echelon.l2d (N : Int) (up ln) out (k : Int) (lead : Int) 0 = spec_l02Echelon.l3d (N : Int) (up (ln.map (clr k lead))) out (k : Int) (lead : Int) 0 := by
  refine map_gen (F := fun a i => spec_l02Echelon.l2d (N : Int) (up a) out (k : Int) (lead : Int) i) (n := ln.length) (g := fun _ x => clr k lead x) (fun _ x => x < 4611686018427387904) ln rfl
    (fun i h => hb _ (List.getElem_mem h)) (fun _ _ h => clr_lt62 hlead h) ?_ ?_
  · intro i a hi ha hq _ _
    show spec_l02Echelon.l2d (N : Int) (up a) out (k : Int) (lead : Int) (i : Int) = spec_l02Echelon.l2d (N : Int) (up (a.set i (clr k lead a[i]))) out (k : Int) (lead : Int) ((i + 1 : Nat) : Int)
    rw [spec_l02Echelon.l2d_eq, if_pos (by rw [up_length]; omega), if_pos (by omega), up_get hi, s_bit_v (hq i hi) (by omega), bind_some', wrS (n := ln.length) (by omega) hl]
    by_cases c : a[i].testBit k = true
    · rw [if_pos (by rw [bit_if_pos c]; trivial), bxor (by have := hq i hi; omega) (by omega), Int.toNat_natCast, up_set]
      unfold clr; rw [if_pos c]
    · have c' := Bool.eq_false_iff.mpr c
      rw [if_neg (by rw [bit_if_neg c']; exact id), clr_set hi c']
  · show spec_l02Echelon.l2d (N : Int) (up (ln.mapIdx fun _ x => clr k lead x)) out (k : Int) (lead : Int) (ln.length : Int) = _
    rw [mapIdx_const, spec_l02Echelon.l2d_eq, if_neg (by rw [up_length, List.length_map]; omega)]
theorem s_clear_out {N k lead : Nat} (hk : k ≤ 61) {left : List Int} {on : List Nat} (hl : on.length ≤ 62) (hb : ∀ x ∈ on, x < 4611686018427387904) (hlead : lead < 4611686018427387904) :
    spec_l02Echelon.l3d (N : Int) left (up on) (k : Int) (lead : Int) 0 = spec_l02Echelon.l0d (N : Int) left (up (on.map (clr k lead) ++ [lead])) ((k + 1 : Nat) : Int) := by
  refine map_gen (F := fun a i => spec_l02Echelon.l3d (N : Int) left (up a) (k : Int) (lead : Int) i) (n := on.length) (g := fun _ x => clr k lead x) (fun _ x => x < 4611686018427387904) on rfl
    (fun i h => hb _ (List.getElem_mem h)) (fun _ _ h => clr_lt62 hlead h) ?_ ?_
  · intro i a hi ha hq _ _
    show spec_l02Echelon.l3d (N : Int) left (up a) (k : Int) (lead : Int) (i : Int) = spec_l02Echelon.l3d (N : Int) left (up (a.set i (clr k lead a[i]))) (k : Int) (lead : Int) ((i + 1 : Nat) : Int)
    rw [spec_l02Echelon.l3d_eq, if_pos (by rw [up_length]; omega), if_pos (by omega), up_get hi, s_bit_v (hq i hi) (by omega), bind_some', wrS (n := on.length) (by omega) (by omega)]
    by_cases c : a[i].testBit k = true
    · rw [if_pos (by rw [bit_if_pos c]; trivial), bxor (by have := hq i hi; omega) (by omega), Int.toNat_natCast, up_set]
      unfold clr; rw [if_pos c]
    · have c' := Bool.eq_false_iff.mpr c
      rw [if_neg (by rw [bit_if_neg c']; exact id), clr_set hi c']
  · show spec_l02Echelon.l3d (N : Int) left (up (on.mapIdx fun _ x => clr k lead x)) (k : Int) (lead : Int) (on.length : Int) = _
    rw [mapIdx_const, spec_l02Echelon.l3d_eq, if_neg (by rw [up_length, List.length_map]; omega), if_pos (by rw [up_length, List.length_map]; omega), wrS (n := 62) (by omega) (by omega), up_append]; rfl
theorem low_zero {N x : Nat} (h : x < 2 ^ N) (h0 : ∀ b, b < N → x.testBit b = false) : x = 0 := by
  apply Nat.eq_of_testBit_eq
  intro b
  rw [Nat.zero_testBit]
  rcases Nat.lt_or_ge b N with z | z
  · exact h0 b z
  · exact Nat.testBit_lt_two_pow (Nat.lt_of_lt_of_le h (Nat.pow_le_pow_right (by omega) z))
theorem pow62 {N x : Nat} (hN : N ≤ 62) (h : x < 2 ^ N) : x < 4611686018427387904 :=
  Nat.lt_of_lt_of_le h (Nat.le_trans (Nat.pow_le_pow_right (by omega) hN) (by decide))
/-- the first place that has the bit, or none -/
theorem first_bit (l : List Nat) (k : Nat) : (∀ j, (h : j < l.length) → l[j].testBit k = false) ∨
    ∃ j, ∃ h : j < l.length, l[j].testBit k = true ∧ ∀ t, (ht : t < j) → (l[t]'(by omega)).testBit k = false := by
  induction l with
  | nil => exact .inl fun j h => by simp at h
  | cons x l ih =>
    by_cases c : x.testBit k = true
    · exact .inr ⟨0, by simp, c, fun t ht => by omega⟩
    · have c' := Bool.eq_false_iff.mpr c
      rcases ih with ih | ⟨j, h, a, b⟩
      · refine .inl fun j h => ?_
        cases j with
        | zero => exact c'
        | succ j => exact ih j (by simpa using h)
      · refine .inr ⟨j + 1, by simpa using h, a, fun t ht => ?_⟩
        cases t with
        | zero => exact c'
        | succ t => exact b t (by omega)
theorem s_ech_loop {N : Nat} (hN : N ≤ 62) : ∀ k, k ≤ N → ∀ (left out : List Nat), left.length ≤ 17592186044416 → (∀ x ∈ left, x < 2 ^ N ∧ ∀ b, b < k → x.testBit b = false) →
    (∀ x ∈ out, x < 2 ^ N) → out.length ≤ k → (∃ C, RED out C ∧ ∀ d ∈ C, d < k) →
    ∃ R C, spec_l02Echelon.l0d (N : Int) (up left) (up out) (k : Int) = some (up R) ∧ RED R C ∧ (∀ v, Sp R v ↔ Sp (out ++ left) v) ∧ (∀ x ∈ R, x < 2 ^ N) ∧ R.length ≤ N ∧ (∀ d ∈ C, d < N) := by
  apply down
  · intro left out hll hleft hout hlen ⟨C, hC, hd⟩
    refine ⟨out, C, ?_, hC, fun v => ⟨fun h => h.mono fun r hr => by simp [hr], fun h => h.sub fun r hr => ?_⟩, hout, hlen, hd⟩
    · rw [spec_l02Echelon.l0d_eq, if_neg (by omega)]
    · rcases List.mem_append.mp hr with hr | hr
      · exact Sp.mem hr
      · rw [low_zero (hleft r hr).1 (hleft r hr).2]; exact Sp.zero
  · intro k hk ih left out hll hleft hout hlen ⟨C, hC, hd⟩
    have b62 : ∀ x ∈ left, x < 4611686018427387904 := fun x hx => pow62 hN (hleft x hx).1
    rw [spec_l02Echelon.l0d_eq, if_pos (by omega)]
    rcases first_bit left k with h | ⟨j, hj, hbit, hfirst⟩
    · rw [s_find_none (by omega) hll b62 h]
      refine ih left out hll (fun x hx => ⟨(hleft x hx).1, fun b hb => ?_⟩) hout (by omega) ⟨C, hC, fun d hd' => Nat.lt_succ_of_lt (hd d hd')⟩
      rcases Nat.lt_or_ge b k with z | z
      · exact (hleft x hx).2 b z
      · obtain ⟨t, ht, e⟩ := List.getElem_of_mem hx
        rw [show b = k by omega, ← e]; exact h t ht
    · obtain ⟨lead, hlead⟩ : ∃ lead, lead = left[j] := ⟨_, rfl⟩
      have hmem : lead ∈ left := hlead ▸ List.getElem_mem hj
      have hl1 := (hleft lead hmem).1
      have hl2 := (hleft lead hmem).2
      rw [← hlead] at hbit
      have bset : ∀ x ∈ left.set j 0, x < 2 ^ N ∧ ∀ b, b < k → x.testBit b = false := by
        intro x hx
        rcases List.mem_or_eq_of_mem_set hx with hx | rfl
        · exact hleft x hx
        · exact ⟨Nat.two_pow_pos N, fun b _ => Nat.zero_testBit b⟩
      rw [s_find_some (by omega) hll b62 hj (by rw [← hlead]; exact hbit) hfirst, ← hlead,
        s_clear_left (by omega) (by rw [List.length_set]; exact hll) (fun x hx => pow62 hN (bset x hx).1) (pow62 hN hl1),
        s_clear_out (by omega) (by omega) (fun x hx => pow62 hN (hout x hx)) (pow62 hN hl1)]
      obtain ⟨R, C', e, hR, hs, hb, hlen', hd'⟩ := ih ((left.set j 0).map (clr k lead)) (out.map (clr k lead) ++ [lead]) (by simp; exact hll)
        (by
          intro x hx
          obtain ⟨y, hy, rfl⟩ := List.mem_map.mp hx
          refine ⟨clr_lt hl1 (bset y hy).1, fun b hb => ?_⟩
          rcases Nat.lt_or_ge b k with z | z
          · rw [clr_low (hl2 b z)]; exact (bset y hy).2 b z
          · rw [show b = k by omega]; exact clr_bit hbit)
        (by
          intro x hx
          rcases List.mem_append.mp hx with hx | hx
          · obtain ⟨y, hy, rfl⟩ := List.mem_map.mp hx
            exact clr_lt hl1 (hout y hy)
          · rw [List.mem_singleton] at hx; rw [hx]; exact hl1)
        (by simp; omega)
        ⟨C ++ [k], RED.snoc (hC.clr (fun d h => hl2 d (hd d h)) (fun d h b hb => hl2 b (Nat.lt_trans hb (hd d h)))) hbit hl2 hd (by
            intro s hs
            obtain ⟨y, hy, rfl⟩ := List.mem_map.mp hs
            exact clr_bit hbit), by
          intro d h
          rcases List.mem_append.mp h with h | h
          · exact Nat.lt_succ_of_lt (hd d h)
          · rw [List.mem_singleton] at h; omega⟩
      refine ⟨R, C', e, hR, fun v => (hs v).trans ⟨fun h => h.sub fun r hr => ?_, fun h => h.sub fun r hr => ?_⟩, hb, hlen', hd'⟩
      · have sl : Sp (out ++ left) lead := Sp.mem (by simp [hmem])
        rcases List.mem_append.mp hr with hr | hr
        · rcases List.mem_append.mp hr with hr | hr
          · obtain ⟨y, hy, rfl⟩ := List.mem_map.mp hr
            exact Sp.clr sl (Sp.mem (by simp [hy]))
          · rw [List.mem_singleton] at hr; rw [hr]; exact sl
        · obtain ⟨y, hy, rfl⟩ := List.mem_map.mp hr
          refine Sp.clr sl ?_
          rcases List.mem_or_eq_of_mem_set hy with hy | rfl
          · exact Sp.mem (by simp [hy])
          · exact Sp.zero
      · have sl : Sp (List.map (clr k lead) out ++ [lead] ++ List.map (clr k lead) (left.set j 0)) lead := Sp.mem (by simp)
        rcases List.mem_append.mp hr with hr | hr
        · exact Sp.of_clr sl (Sp.mem (List.mem_append.mpr (.inl (List.mem_append.mpr (.inl (List.mem_map.mpr ⟨r, hr, rfl⟩))))))
        · obtain ⟨t, ht, e⟩ := List.getElem_of_mem hr
          by_cases c : j = t
          · subst c; rw [← e, ← hlead]; exact sl
          · refine Sp.of_clr sl (Sp.mem (List.mem_append.mpr (.inr (List.mem_map.mpr ⟨r, ?_, rfl⟩))))
            rw [← e, ← List.getElem_set_ne (l := left) (a := 0) c (by simpa using ht)]
            exact List.getElem_mem _
theorem s_ech_v {N : Nat} (hN : N ≤ 62) {ln : List Nat} (hl : ln.length ≤ 1048576) (hb : ∀ x ∈ ln, x < 2 ^ N) :
    ∃ R C, spec_l02Echelon.d (N : Int) (up ln) = some (up R) ∧ RED R C ∧ (∀ v, Sp R v ↔ Sp ln v) ∧ (∀ x ∈ R, x < 2 ^ N) ∧ R.length ≤ N ∧ (∀ d ∈ C, d < N) := by
  obtain ⟨R, C, e, h⟩ := s_ech_loop hN 0 (by omega) ln [] (by omega) (fun x hx => ⟨hb x hx, fun b h => by omega⟩) (fun x hx => nomatch hx) (by simp) ⟨[], trivial, fun d hd => nomatch hd⟩
  refine ⟨R, C, ?_, by simpa using h⟩
  rw [spec_l02Echelon.d_eq]
  unfold spec_l00Own.f
  rw [bind_some', if_pos (by simp [up_length]; omega), bind_some', List.nil_append]
  exact e
theorem i_bit_v {a c : Nat} (ha : a < 4611686018427387904) (hc : c ≤ 62) : impl_echelon_1.f (a : Int) (c : Int) = some (a.testBit c) := by
  unfold impl_echelon_1.f
  rw [if_pos (by omega), bit_test (by omega) (by omega)]
  cases a.testBit c <;> simp
theorem i_find_v {m : List Nat} {c : Nat} (hc : c ≤ 61) (hl : m.length ≤ 17592186044416) (hb : ∀ x ∈ m, x < 4611686018427387904) :
    ∃ v, slices_IndexFunc_int64_int64_AT_impl_echelon_1.d (up m) (c : Int) = some v ∧ ((v < 0 ∧ ∀ j, (h : j < m.length) → m[j].testBit c = false) ∨ ∃ j, ∃ h : j < m.length, v = (j : Int) ∧ m[j].testBit c = true) := by
  rw [slices_IndexFunc_int64_int64_AT_impl_echelon_1.d_eq]
  obtain ⟨v, e, d, s⟩ := index_gen (F := fun i => slices_IndexFunc_int64_int64_AT_impl_echelon_1.l0d (up m) ((up m).length : Int) i (c : Int)) (n := m.length) (q := fun i => (m.getD i 0).testBit c)
    (by show slices_IndexFunc_int64_int64_AT_impl_echelon_1.l0d (up m) ((up m).length : Int) (m.length : Int) (c : Int) = _
        rw [slices_IndexFunc_int64_int64_AT_impl_echelon_1.l0d_eq, if_neg (by rw [up_length]; omega)])
    (by intro i hi
        show slices_IndexFunc_int64_int64_AT_impl_echelon_1.l0d (up m) ((up m).length : Int) (i : Int) (c : Int) = _
        have hg : m.getD i 0 = m[i] := by simp [List.getD_eq_getElem?_getD, hi]
        rw [slices_IndexFunc_int64_int64_AT_impl_echelon_1.l0d_eq, if_pos (by rw [up_length]; omega), if_pos (by omega), if_pos (by rw [up_length]; omega), up_get hi, i_bit_v (hb _ (List.getElem_mem hi)) (by omega), bind_some', wrS hi hl, hg])
  refine ⟨v, e, ?_⟩
  by_cases h : ∀ i, i < m.length → (m.getD i 0).testBit c = false
  · left
    rw [decide_eq_true h] at d
    refine ⟨by have : ¬ v ≥ 0 := by simpa using d
               omega, fun j hj => ?_⟩
    have := h j hj
    rwa [List.getD_eq_getElem?_getD, List.getElem?_eq_getElem hj] at this
  · right
    rw [decide_eq_false h] at d
    have hv : 0 ≤ v := by simpa using d
    obtain ⟨a1, a2, _⟩ := s hv
    refine ⟨v.toNat, a1, by omega, ?_⟩
    rwa [List.getD_eq_getElem?_getD, List.getElem?_eq_getElem a1] at a2
/-- two places change their rows -/
def swp (x : List Nat) (d p : Nat) (hd : d < x.length) (hp : p < x.length) : List Nat := (x.set d x[p]).set p x[d]
theorem swp_length {x : List Nat} {d p : Nat} (hd : d < x.length) (hp : p < x.length) : (swp x d p hd hp).length = x.length := by simp [swp]
theorem swp_get {x : List Nat} {d p : Nat} (hd : d < x.length) (hp : p < x.length) {j : Nat} (h : j < (swp x d p hd hp).length) :
    (swp x d p hd hp)[j] = if p = j then x[d] else if d = j then x[p] else x[j]'(by rw [swp_length] at h; exact h) := by
  have h2 : j < ((x.set d x[p]).set p x[d]).length := h
  have e : ((x.set d x[p]).set p x[d])[j]'h2 = if p = j then x[d] else if d = j then x[p] else x[j]'(by rw [swp_length] at h; exact h) := by
    rw [List.getElem_set, List.getElem_set]
  exact e
theorem swp_mem {x : List Nat} {d p : Nat} (hd : d < x.length) (hp : p < x.length) {r : Nat} (h : r ∈ swp x d p hd hp) : r ∈ x := by
  obtain ⟨j, hj, e⟩ := List.getElem_of_mem h
  rw [swp_get] at e
  split at e
  · rw [← e]; exact List.getElem_mem _
  · split at e
    · rw [← e]; exact List.getElem_mem _
    · rw [← e]; exact List.getElem_mem _
def clrBut (d c lead : Nat) (i x : Nat) : Nat := if i = d then x else clr c lead x
theorem i_clear {x : List Nat} {d c : Nat} (hc : c ≤ 61) (hd : d < x.length) (hl : x.length ≤ 17592186044416) (hb : ∀ y ∈ x, y < 4611686018427387904) :
    impl_echelon.l1d (up x) (d : Int) (x.length : Int) 0 (c : Int) = impl_echelon.l0d (up (x.mapIdx (clrBut d c x[d]))) ((d + 1 : Nat) : Int) ((c + 1 : Nat) : Int) := by
  have hlead := hb _ (List.getElem_mem hd)
  refine map_gen (F := fun a i => impl_echelon.l1d (up a) (d : Int) (x.length : Int) i (c : Int)) (n := x.length) (g := clrBut d c x[d]) (fun _ y => y < 4611686018427387904) x rfl
    (fun i h => hb _ (List.getElem_mem h)) (fun i y h => ?_) ?_ ?_
  · unfold clrBut
    split
    · exact h
    · exact clr_lt62 hlead h
  · intro i a hi ha hq hge hlt
    show impl_echelon.l1d (up a) (d : Int) (x.length : Int) (i : Int) (c : Int) = impl_echelon.l1d (up (a.set i (clrBut d c x[d] i a[i]))) (d : Int) (x.length : Int) ((i + 1 : Nat) : Int) (c : Int)
    have had : a[d]'(by omega) = x[d] := by
      rcases Nat.lt_or_ge d i with z | z
      · rw [hlt d z (by omega) hd]; unfold clrBut; rw [if_pos rfl]
      · exact hge d z (by omega) hd
    rw [impl_echelon.l1d_eq, if_pos (by omega)]
    by_cases e : i = d
    · rw [if_pos (by omega), wrS (n := x.length) (by omega) hl]
      unfold clrBut
      rw [if_pos e, List.set_getElem_self]
    · rw [if_neg (by omega), if_pos (by omega), if_pos (by rw [up_length]; omega), if_pos (by omega), up_get hi, bit_test (by have := hq i hi; omega) (by omega), wrS (n := x.length) (by omega) hl, up_get (show d < a.length by omega), had]
      unfold clrBut
      rw [if_neg e]
      by_cases t : a[i].testBit c = true
      · rw [if_pos (by rw [bit_if_pos t]; trivial), if_pos (by omega), if_pos (by rw [up_length]; omega), bxor (by have := hq i hi; omega) (by omega), Int.toNat_natCast, up_set]
        unfold clr; rw [if_pos t]
      · have t' := Bool.eq_false_iff.mpr t
        rw [if_neg (by rw [bit_if_neg t']; exact id), clr_set hi t']
  · show impl_echelon.l1d (up (x.mapIdx (clrBut d c x[d]))) (d : Int) (x.length : Int) (x.length : Int) (c : Int) = _
    rw [impl_echelon.l1d_eq, if_neg (by omega), wrS (n := x.length) (by omega) hl, wrS (n := 62) (by omega) (by omega)]
theorem i_ech_end {N : Nat} (hN : N ≤ 62) {x : List Nat} {d : Nat} {c : Int} (hd : d ≤ x.length) : impl_echelon.j1d (up x) (d : Int) false c = some (up (x.take d)) := by
  rw [impl_echelon.j1d_eq, if_neg (by decide), if_pos (by omega), if_pos (by rw [up_length]; omega), Int.toNat_natCast, up_take]
theorem i_ech_loop {N : Nat} (hN : N ≤ 62) : ∀ c, c ≤ 62 → ∀ (x : List Nat) (d : Nat), x.length ≤ 17592186044416 → d ≤ x.length → (∀ y ∈ x, y < 2 ^ N) →
    (∀ j, d ≤ j → (h : j < x.length) → ∀ b, b < c → x[j].testBit b = false) → (∃ C, RED (x.take d) C ∧ ∀ e ∈ C, e < c) →
    ∃ R C, impl_echelon.l0d (up x) (d : Int) (c : Int) = some (up R) ∧ RED R C ∧ (∀ v, Sp R v ↔ Sp x v) := by
  apply down
  · intro x d hl hd hb hlow ⟨C, hC, _⟩
    refine ⟨x.take d, C, ?_, hC, fun v => ⟨fun h => h.mono fun r hr => List.mem_of_mem_take hr, fun h => h.sub fun r hr => ?_⟩⟩
    · rw [impl_echelon.l0d_eq, if_neg (by omega), i_ech_end hN hd]
    · obtain ⟨j, hj, e⟩ := List.getElem_of_mem hr
      rcases Nat.lt_or_ge j d with z | z
      · refine Sp.mem ?_
        have hjt : j < (x.take d).length := by rw [List.length_take]; omega
        have := List.getElem_mem hjt
        rw [List.getElem_take] at this
        rw [← e]; exact this
      · have : r = 0 := low_zero (N := 62) (Nat.lt_of_lt_of_le (hb r hr) (Nat.pow_le_pow_right (by omega) hN)) (by rw [← e]; exact hlow j z hj)
        rw [this]; exact Sp.zero
  · intro c hc ih x d hl hd hb hlow ⟨C, hC, hCc⟩
    have b62 : ∀ y ∈ x, y < 4611686018427387904 := fun y hy => pow62 hN (hb y hy)
    rw [impl_echelon.l0d_eq, if_pos (by omega)]
    by_cases hdl : d < x.length
    · rw [decide_eq_true (by rw [up_length]; omega), impl_echelon.j1d_eq, if_pos rfl, if_pos (by omega), if_pos (by rw [up_length]; omega), Int.toNat_natCast, up_drop]
      obtain ⟨v, ev, hv⟩ := i_find_v (m := x.drop d) (c := c) (by omega) (by rw [List.length_drop]; omega) (fun y hy => b62 y (List.mem_of_mem_drop hy))
      rw [ev, bind_some']
      rcases hv with ⟨hv, hnone⟩ | ⟨t, ht, rfl, hbit⟩
      · rw [if_pos hv, wrS (n := 62) (by omega) (by omega)]
        refine ih x d hl hd hb (fun j hj h b hbc => ?_) ⟨C, hC, fun e he => Nat.lt_succ_of_lt (hCc e he)⟩
        rcases Nat.lt_or_ge b c with z | z
        · exact hlow j hj h b z
        · have := hnone (j - d) (by rw [List.length_drop]; omega)
          rw [List.getElem_drop] at this
          simp only [show d + (j - d) = j by omega] at this
          rw [show b = c by omega]; exact this
      · rw [List.length_drop] at ht
        rw [List.getElem_drop] at hbit
        have hp : d + t < x.length := by omega
        have ep : wrap64 ((d : Int) + (t : Int)) = ((d + t : Nat) : Int) := by rw [wr (by omega) (by omega)]; omega
        rw [if_neg (by omega), ep, if_pos (by omega), if_pos (by rw [up_length]; omega), if_pos (by rw [up_length]; omega), up_get hp, up_get hdl]
        simp only [Int.toNat_natCast]
        rw [up_set, up_set, up_length]
        obtain ⟨p, hpe⟩ : ∃ p, p = d + t := ⟨_, rfl⟩
        have hp' : p < x.length := by omega
        have esw : (x.set d (x[d + t]'hp)).set (d + t) x[d] = swp x d p hdl hp' := by subst hpe; rfl
        have hbit' : x[p].testBit c = true := by subst hpe; exact hbit
        rw [esw]
        obtain ⟨s, hs⟩ : ∃ s, s = swp x d p hdl hp' := ⟨_, rfl⟩
        rw [← hs]
        have hsl : s.length = x.length := by rw [hs, swp_length]
        have hsd : d < s.length := by omega
        have hg : ∀ j, (h : j < s.length) → s[j] = if p = j then x[d] else if d = j then x[p] else x[j]'(by omega) := by
          intro j h; subst hs; exact swp_get hdl hp' h
        have hsm : ∀ r ∈ s, r ∈ x := fun r hr => swp_mem hdl hp' (hs ▸ hr)
        have hdp : d ≤ p := by omega
        obtain ⟨lead, hlead⟩ : ∃ lead, lead = s[d] := ⟨_, rfl⟩
        have elead : lead = x[p] := by
          rw [hlead, hg d hsd]
          by_cases z : p = d
          · rw [if_pos z]; simp only [z]
          · rw [if_neg z, if_pos rfl]
        have lbit : lead.testBit c = true := by rw [elead]; exact hbit'
        have llow : ∀ b, b < c → lead.testBit b = false := by rw [elead]; exact hlow p hdp hp'
        have llt : lead < 2 ^ N := by rw [elead]; exact hb _ (List.getElem_mem hp')
        have hlen : (s.mapIdx (clrBut d c lead)).length = x.length := by rw [List.length_mapIdx]; exact hsl
        have hm : ∀ j, (h : j < (s.mapIdx (clrBut d c lead)).length) → (s.mapIdx (clrBut d c lead))[j] = if j = d then lead else clr c lead (s[j]'(by rw [List.length_mapIdx] at h; exact h)) := by
          intro j h
          rw [List.getElem_mapIdx]
          unfold clrBut
          by_cases z : j = d
          · rw [if_pos z, if_pos z]; refine Eq.trans ?_ hlead.symm; simp only [z]
          · rw [if_neg z, if_neg z]
        have i1 := i_clear (x := s) (d := d) (c := c) (by omega) hsd (by omega) (fun y hy => b62 y (hsm y hy))
        rw [hsl] at i1
        rw [i1, ← hlead]
        have htake : (s.mapIdx (clrBut d c lead)).take (d + 1) = (x.take d).map (clr c lead) ++ [lead] := by
          apply List.ext_getElem
          · simp; omega
          · intro j h1 h2
            rw [List.length_take, hlen] at h1
            rw [List.getElem_take, hm]
            by_cases z : j = d
            · have hle : ((x.take d).map (clr c lead)).length ≤ j := by rw [List.length_map, List.length_take, z]; exact Nat.min_le_left _ _
              rw [if_pos z, List.getElem_append_right hle]
              simp
            · have hjd : j < d := by omega
              rw [if_neg z, List.getElem_append_left (by simp; omega), List.getElem_map, List.getElem_take, hg j (by omega), if_neg (by omega), if_neg (by omega)]
        obtain ⟨R, C', e, hR, hSp⟩ := ih (s.mapIdx (clrBut d c lead)) (d + 1) (by rw [hlen]; exact hl) (by rw [hlen]; omega)
          (by
            intro y hy
            obtain ⟨j, hj, ej⟩ := List.getElem_of_mem hy
            rw [hm j hj] at ej
            rw [← ej]
            split
            · exact llt
            · exact clr_lt llt (hb _ (hsm _ (List.getElem_mem _))))
          (by
            intro j hj h b hbc
            have hjs : j < s.length := by rw [hlen] at h; omega
            rw [hm j h, if_neg (by omega)]
            rcases Nat.lt_or_ge b c with z | z
            · rw [clr_low (llow b z), hg j hjs]
              split
              · exact hlow d (Nat.le_refl _) hdl b z
              · rw [if_neg (by omega)]; exact hlow j (by omega) (by omega) b z
            · rw [show b = c by omega]; exact clr_bit lbit)
          ⟨C ++ [c], by
            rw [htake]
            exact RED.snoc (hC.clr (fun e h => llow e (hCc e h)) (fun e h b hb' => llow b (Nat.lt_trans hb' (hCc e h)))) lbit llow hCc (by
              intro y hy
              obtain ⟨z, hz, rfl⟩ := List.mem_map.mp hy
              exact clr_bit lbit), by
            intro e h
            rcases List.mem_append.mp h with h | h
            · exact Nat.lt_succ_of_lt (hCc e h)
            · rw [List.mem_singleton] at h; omega⟩
        refine ⟨R, C', e, hR, fun v => (hSp v).trans ⟨fun h => h.sub fun r hr => ?_, fun h => h.sub fun r hr => ?_⟩⟩
        · have sl : Sp x lead := by rw [elead]; exact Sp.mem (List.getElem_mem _)
          obtain ⟨j, hj, ej⟩ := List.getElem_of_mem hr
          rw [hm j hj] at ej
          rw [← ej]
          split
          · exact sl
          · exact Sp.clr sl (Sp.mem (hsm _ (List.getElem_mem _)))
        · have hdn : d < (s.mapIdx (clrBut d c lead)).length := by rw [hlen]; exact hdl
          have sl : Sp (s.mapIdx (clrBut d c lead)) lead := by
            have := hm d hdn
            rw [if_pos rfl] at this
            have hmem := Sp.mem (List.getElem_mem hdn)
            rw [this] at hmem
            exact hmem
          have sj : ∀ j, (h : j < s.length) → Sp (s.mapIdx (clrBut d c lead)) s[j] := by
            intro j h
            by_cases z : j = d
            · have ez : s[j] = lead := by rw [hlead]; simp only [z]
              rw [ez]; exact sl
            · have hj' : j < (s.mapIdx (clrBut d c lead)).length := by rw [List.length_mapIdx]; exact h
              have := hm j hj'
              rw [if_neg z] at this
              refine Sp.of_clr (c := c) sl ?_
              rw [← this]; exact Sp.mem (List.getElem_mem hj')
          obtain ⟨j, hj, ej⟩ := List.getElem_of_mem hr
          rw [← ej]
          by_cases z : j = d
          · have hps : p < s.length := hsl.symm ▸ hp'
            have := sj p hps
            rw [hg p hps, if_pos rfl] at this
            have ez : x[j] = x[d] := by simp only [z]
            rw [ez]; exact this
          · by_cases z2 : j = p
            · have ez : x[j] = x[p] := by simp only [z2]
              rw [ez, ← elead]; exact sl
            · have hjs : j < s.length := hsl.symm ▸ hj
              have := sj j hjs
              rw [hg j hjs, if_neg (fun e => z2 e.symm), if_neg (fun e => z e.symm)] at this
              exact this
    · rw [decide_eq_false (by rw [up_length]; omega), i_ech_end hN hd]
      refine ⟨x.take d, C, rfl, hC, fun v => ?_⟩
      rw [List.take_of_length_le (by omega)]
theorem i_ech_v {N : Nat} (hN : N ≤ 62) {ln : List Nat} (hl : ln.length ≤ 1048576) (hb : ∀ x ∈ ln, x < 2 ^ N) :
    ∃ R C, impl_echelon.d (up ln) = some (up R) ∧ RED R C ∧ (∀ v, Sp R v ↔ Sp ln v) := by
  rw [impl_echelon.d_eq]
  unfold slices_Clone_int64_int64.f
  rw [if_pos (by rw [up_length]; omega), bind_some']
  exact i_ech_loop hN 0 (by omega) ln 0 (by omega) (by omega) hb (fun j _ h b hb => by omega) ⟨[], trivial, fun d hd => nomatch hd⟩
/-- both sides: the one list of reduced rows with these sums -/
theorem ech_v {N : Nat} (hN : N ≤ 62) {ln : List Nat} (hl : ln.length ≤ 1048576) (hb : ∀ x ∈ ln, x < 2 ^ N) :
    ∃ R C, spec_l02Echelon.d (N : Int) (up ln) = some (up R) ∧ impl_echelon.d (up ln) = some (up R) ∧ RED R C ∧ (∀ v, Sp R v ↔ Sp ln v) ∧ (∀ x ∈ R, x < 2 ^ N) ∧ R.length ≤ N ∧ (∀ d ∈ C, d < N) := by
  obtain ⟨R, C, e, h, hs, hb', hl', hd⟩ := s_ech_v hN hl hb
  obtain ⟨R', C', e', h', hs'⟩ := i_ech_v hN hl hb
  obtain ⟨rfl, rfl⟩ := h.unique h' fun v => (hs v).trans (hs' v).symm
  exact ⟨R, C, e, e', h, hs, hb', hl', hd⟩
end Go.Proofs.Ytngiionckbmkmaa.P
end
section
namespace Go.Proofs.Ytngiionckbmkmaa.P
open Go.RowKit Go.Proofs.YtngiionckbmkmaaW.PrintWords Go.Proofs.YtngiionckbmkmaaW.PrintLast Go.Proofs.YtngiionckbmkmaaW.PrintMore
set_option linter.unusedVariables false
/-- the place k of the rows, as one row -/
def trow (ln : List Nat) (k : Nat) : Nat → Nat
  | 0 => 0
  | i + 1 => trow ln k i ||| (if (ln.getD i 0).testBit k = true then 2 ^ i else 0)
theorem trow_lt (ln : List Nat) (k : Nat) : ∀ i, trow ln k i < 2 ^ i
  | 0 => by simp [trow]
  | i + 1 => by
    refine Nat.or_lt_two_pow (Nat.lt_of_lt_of_le (trow_lt ln k i) (Nat.pow_le_pow_right (by omega) (by omega))) ?_
    split
    · exact Nat.pow_lt_pow_right (by omega) (by omega)
    · exact Nat.two_pow_pos _
/-- the turned rows -/
def trows (n : Nat) (ln : List Nat) : List Nat := (List.range n).map fun k => trow ln k ln.length
theorem trows_length (n : Nat) (ln : List Nat) : (trows n ln).length = n := by simp [trows]
theorem trows_lt (n : Nat) (ln : List Nat) : ∀ x ∈ trows n ln, x < 2 ^ ln.length := by
  intro x hx
  obtain ⟨k, _, rfl⟩ := List.mem_map.mp hx
  exact trow_lt ln k ln.length
theorem up_range (n : Nat) (f : Nat → Nat) : (List.range n).map (fun k => ((f k : Nat) : Int)) = up ((List.range n).map f) := by
  unfold up; rw [List.map_map]; rfl
theorem shl_bit {b : Bool} {i : Nat} (hi : i ≤ 60) : shl .i64 (if b = true then 1 else 0 : Int) (i : Int) = (((if b = true then 2 ^ i else 0 : Nat)) : Int) := by
  have h2 : 2 ^ i ≤ 2 ^ 60 := Nat.pow_le_pow_right (by omega) hi
  cases b
  · have := shl_nat (a := 0) (c := i) (by omega) (by omega)
    rw [Nat.zero_mul] at this
    simpa using this
  · have := shl_nat (a := 1) (c := i) (by omega) (by omega)
    rw [Nat.one_mul] at this
    rw [if_pos rfl, if_pos rfl]
    exact this
theorem s_turn_v {n : Nat} {ln : List Nat} (hn : n ≤ 60) (hl : ln.length ≤ 60) (hb : ∀ x ∈ ln, x < 4611686018427387904) : spec_l02Turn.d (n : Int) (up ln) = some ((ln.length : Int), up (trows n ln)) := by
  rw [spec_l02Turn.d_eq, up_length]
  refine build_gen (F := fun k acc => spec_l02Turn.l0d k (n : Int) (up ln) (ln.length : Int) acc) (n := n) (g := fun k => ((trow ln k ln.length : Nat) : Int)) ?_ ?_
  · intro k hk acc ha
    show spec_l02Turn.l0d (k : Int) (n : Int) (up ln) (ln.length : Int) acc = spec_l02Turn.l0d ((k + 1 : Nat) : Int) (n : Int) (up ln) (ln.length : Int) (acc ++ [((trow ln k ln.length : Nat) : Int)])
    have key : ∀ i, i ≤ ln.length → spec_l02Turn.l1d (k : Int) ((trow ln k i : Nat) : Int) (i : Int) (n : Int) (up ln) (ln.length : Int) acc = spec_l02Turn.l0d ((k + 1 : Nat) : Int) (n : Int) (up ln) (ln.length : Int) (acc ++ [((trow ln k ln.length : Nat) : Int)]) := by
      apply down
      · rw [spec_l02Turn.l1d_eq, if_neg (by rw [up_length]; omega), if_pos (by omega), wrS hk (by omega)]
      · intro i hi e
        have t1 := small62 (by omega) (trow_lt ln k i)
        have t2 : (if (ln.getD i 0).testBit k = true then 2 ^ i else 0) < 9223372036854775808 := by
          split
          · exact small62 (n := i + 1) (by omega) (Nat.pow_lt_pow_right (by omega) (by omega))
          · omega
        rw [spec_l02Turn.l1d_eq, if_pos (by rw [up_length]; omega), if_pos (by omega), up_getD hi, s_bit_v (hb _ (getD_mem hi)) (by omega), bind_some', u64_id (by omega) (by omega), if_pos (by omega), shl_bit (by omega), bor t1 t2, wrS hi (by omega), ← e]
        rfl
    rw [spec_l02Turn.l0d_eq, if_pos (by omega)]
    exact key 0 (by omega)
  · show spec_l02Turn.l0d (n : Int) (n : Int) (up ln) (ln.length : Int) _ = _
    rw [spec_l02Turn.l0d_eq, if_neg (by omega), up_range]; rfl
theorem i_turn_v {n : Nat} {ln : List Nat} (hn : n ≤ 60) (hl : ln.length ≤ 60) (hb : ∀ x ∈ ln, x < 4611686018427387904) : impl_Matrix_turned.d (n : Int) (up ln) = some ((ln.length : Int), up (trows n ln)) := by
  rw [impl_Matrix_turned.d_eq]
  unfold impl_size_int64_85.f
  rw [bind_some', up_length]
  refine build_gen (F := fun k acc => impl_Matrix_turned.l0d (n : Int) k (n : Int) (up ln) (ln.length : Int) acc) (n := n) (g := fun k => ((trow ln k ln.length : Nat) : Int)) ?_ ?_
  · intro k hk acc ha
    show impl_Matrix_turned.l0d (n : Int) (k : Int) (n : Int) (up ln) (ln.length : Int) acc = impl_Matrix_turned.l0d (n : Int) ((k + 1 : Nat) : Int) (n : Int) (up ln) (ln.length : Int) (acc ++ [((trow ln k ln.length : Nat) : Int)])
    have key : ∀ i, i ≤ ln.length → impl_Matrix_turned.l1d (k : Int) ((trow ln k i : Nat) : Int) (n : Int) (k : Int) (up ln) ((up ln).length : Int) (i : Int) (n : Int) (up ln) (ln.length : Int) acc = impl_Matrix_turned.l0d (n : Int) ((k + 1 : Nat) : Int) (n : Int) (up ln) (ln.length : Int) (acc ++ [((trow ln k ln.length : Nat) : Int)]) := by
      apply down
      · rw [impl_Matrix_turned.l1d_eq, if_neg (by rw [up_length]; omega), if_pos (by omega), wrS hk (by omega)]
      · intro i hi e
        have t1 := small62 (by omega) (trow_lt ln k i)
        have t2 : (if (ln.getD i 0).testBit k = true then 2 ^ i else 0) < 9223372036854775808 := by
          split
          · exact small62 (n := i + 1) (by omega) (Nat.pow_lt_pow_right (by omega) (by omega))
          · omega
        have t3 := hb _ (getD_mem hi)
        rw [impl_Matrix_turned.l1d_eq, if_pos (by rw [up_length]; omega), if_pos (by omega), if_pos (by rw [up_length]; omega), if_pos (by omega), up_getD hi, bit_test (by omega) (by omega), shl_bit (by omega), bor t1 t2, wrS hi (by omega), ← e]
        rfl
    rw [impl_Matrix_turned.l0d_eq, if_pos (by omega)]
    exact key 0 (by omega)
  · show impl_Matrix_turned.l0d (n : Int) (n : Int) (n : Int) (up ln) (ln.length : Int) _ = _
    rw [impl_Matrix_turned.l0d_eq, if_neg (by omega), up_range]; rfl
end Go.Proofs.Ytngiionckbmkmaa.P
end
section
namespace Go.Proofs.Ytngiionckbmkmaa.P
open Go.RowKit Go.Proofs.YtngiionckbmkmaaW.PrintWords Go.Proofs.YtngiionckbmkmaaW.PrintLast Go.Proofs.YtngiionckbmkmaaW.PrintMore
set_option linter.unusedVariables false
theorem ColumnSupport_both (m p : Int) {l : List Int} (hl : l.length ≤ 1048576) :
    ∃ r : Int × List Int × Int, r.2.1.length ≤ 17592186044416 ∧ spec_ColumnSupport.d m p l = some r ∧ impl_ColumnSupport.d m p l = some r := by
  have q1 := s_l04Given_v m p (l := l) (by omega)
  have q2 := i_wordCode_v m p (l := l) (by omega)
  by_cases h : wordCode m p l = 0
  · obtain ⟨N, ln, rfl, hN, _, rfl, hb, hlen1, hlen, _⟩ := word_up h
    have hb62 : ∀ x ∈ ln, x < 4611686018427387904 := fun x hx => by have := lt_mono (hb x hx) hN; omega
    have t1 := s_turn_v (n := N) (ln := ln) (by omega) (by omega) hb62
    have t2 := i_turn_v (n := N) (ln := ln) (by omega) (by omega) hb62
    obtain ⟨R, C, e1, e2, _, _, _, hR, _⟩ := ech_v (N := ln.length) (by omega) (ln := trows N ln) (by rw [trows_length]; omega) (trows_lt N ln)
    refine ⟨((ln.length : Int), up R, 0), by show (up R).length ≤ _; rw [up_length]; omega, ?_, ?_⟩
    · rw [spec_ColumnSupport.d_eq, q1, bind_some', if_pos h, t1, bind_some', e1]; rfl
    · rw [impl_ColumnSupport.d_eq, q2, bind_some', if_pos h]
      unfold impl_Field_matrixOf.f slices_Clone_int64_int64.f
      rw [if_pos (by rw [up_length]; omega), bind_some', bind_some', t2, bind_some', impl_Matrix_form.d_eq, e2]; rfl
  · refine ⟨(0, [], wordCode m p l), by simp, ?_, ?_⟩
    · rw [spec_ColumnSupport.d_eq, q1, bind_some', if_neg h]
    · rw [impl_ColumnSupport.d_eq, q2, bind_some', if_neg h]
theorem ColumnSupport_law (m p : Int) (l : List Int) : laws_FnExactColumnSupport.d m p l = some true := by
  by_cases hl : ¬ l.length ≤ 1048576
  · skip
    repeat' (first
      | with_reducible exact rfl
      | dsimp only
      | with_reducible refine bind_ok (eqInt64S_self (by omega)) ?_
      | with_reducible refine bind_ok (toInt64S_v (by omega)) ?_
      | with_reducible refine bind_ok (heldInt64S_v (by omega) (by omega) (by omega)) ?_
      | with_reducible refine bind_ok (markInt64S_v (by omega) (by omega) (by omega)) ?_
      | with_reducible refine some_bind_ok ?_
      | with_reducible refine ite_bind_t (by first | with_reducible exact rfl | omega) ?_
      | with_reducible refine ite_bind_f (by first | omega | decide | (simp; done)) ?_
      | with_reducible refine bind_assoc_ok ?_
      | with_reducible refine ite_t (by first | with_reducible exact rfl | omega) ?_
      | with_reducible refine ite_f (by first | omega | decide | (simp; done)) ?_
      | rw [laws_FnExactColumnSupport.j0d_eq]
      | rw [laws_FnExactColumnSupport.j1d_eq]
      | rw [laws_FnExactColumnSupport.j2d_eq]
      | rw [laws_FnExactColumnSupport.d_eq]
      | rw [laws_eqMatrix.d_eq]
      | unfold laws_toField.f
      | rw [laws_heldMatrix.d_eq]
      | rw [laws_markMatrix.d_eq]
      )
  replace hl := Classical.not_not.mp hl
  have key : ∃ r : Int × List Int × Int, (r.2.1.length ≤ 17592186044416) ∧ spec_ColumnSupport.d m p l = some r ∧ impl_ColumnSupport.d m p l = some r := by
    exact ColumnSupport_both m p hl
  obtain ⟨r, hb, hS, hI⟩ := key
  obtain ⟨r0, r1, r2⟩ := r
  simp only at hb
  repeat' (first
    | with_reducible exact rfl
    | dsimp only
    | refine bind_ok hS ?_
    | refine bind_ok hI ?_
    | with_reducible refine bind_ok (eqInt64S_self (by omega)) ?_
    | with_reducible refine bind_ok (toInt64S_v (by omega)) ?_
    | with_reducible refine bind_ok (heldInt64S_v (by omega) (by omega) (by omega)) ?_
    | with_reducible refine bind_ok (markInt64S_v (by omega) (by omega) (by omega)) ?_
    | with_reducible refine some_bind_ok ?_
    | with_reducible refine ite_bind_t (by first | with_reducible exact rfl | omega) ?_
    | with_reducible refine ite_bind_f (by first | omega | decide | (simp; done)) ?_
    | with_reducible refine bind_assoc_ok ?_
    | with_reducible refine ite_t (by first | with_reducible exact rfl | omega) ?_
    | with_reducible refine ite_f (by first | omega | decide | (simp; done)) ?_
    | rw [laws_FnExactColumnSupport.j0d_eq]
    | rw [laws_FnExactColumnSupport.j1d_eq]
    | rw [laws_FnExactColumnSupport.j2d_eq]
    | rw [laws_FnExactColumnSupport.d_eq]
    | rw [laws_eqMatrix.d_eq]
    | unfold laws_toField.f
    | rw [laws_heldMatrix.d_eq]
    | rw [laws_markMatrix.d_eq]
    )
end Go.Proofs.Ytngiionckbmkmaa.P
end
section
namespace Go.Proofs.Ytngiionckbmkmaa.P
open Go.RowKit Go.Proofs.YtngiionckbmkmaaW.PrintWords Go.Proofs.YtngiionckbmkmaaW.PrintLast Go.Proofs.YtngiionckbmkmaaW.PrintMore
/-- The one pure statement of laws_FnExactColumnSupport. -/
def laws_FnExactColumnSupport.Pure : Prop := ∀ (a0_0 : Int) (a0_1 : Int) (l1 : List Int), ((Lit.int .i64 a0_0).wf = true) → ((Lit.int .i64 a0_1).wf = true) → (l1.length ≤ maxLen) → (∀ x ∈ l1, (Lit.int .i64 x).wf = true) → ∃ k, laws_FnExactColumnSupport.f k a0_0 a0_1 l1 = some true
end Go.Proofs.Ytngiionckbmkmaa.P
end
section
namespace Go.Proofs.Ytngiionckbmkmaa.Pure
theorem FnExactColumnSupport : P.laws_FnExactColumnSupport.Pure := fun a0_0 a0_1 l1 _ _ _ _ => P.IsLim.some_ (P.laws_FnExactColumnSupport.lim a0_0 a0_1 l1) (P.ColumnSupport_law a0_0 a0_1 l1)
end Go.Proofs.Ytngiionckbmkmaa.Pure
end
