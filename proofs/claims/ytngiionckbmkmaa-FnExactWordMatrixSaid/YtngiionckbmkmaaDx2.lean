/- What the functions of this part tell, without rounds: written by puregen.py of this seat's prover. -/
import Derived.Test.YtngiionckbmkmaaDLim
import Derived.Test.YtngiionckbmkmaaPx2
namespace Go.Proofs.Ytngiionckbmkmaa.P
open Go.RowKit Go.Proofs.YtngiionckbmkmaaW.PrintWords Go.Proofs.YtngiionckbmkmaaW.PrintLast Go.Proofs.YtngiionckbmkmaaW.PrintMore
set_option linter.unusedVariables false
noncomputable def laws_toInt64S.l0d (x0 : List Int) (x3 : List Int) (x4 : Int) : Option (List Int) := lim (fun k => laws_toInt64S.l0 k x0 x3 x4)
theorem laws_toInt64S.l0lim (x0 : List Int) (x3 : List Int) (x4 : Int) : IsLim (fun k => laws_toInt64S.l0 k x0 x3 x4) (laws_toInt64S.l0d x0 x3 x4) := lim_spec (fun k => (laws_toInt64S.mono_l k) x0 x3 x4)
theorem laws_toInt64S.l0d_eq (x0 : List Int) (x3 : List Int) (x4 : Int) : laws_toInt64S.l0d x0 x3 x4 = if x4 < (x0.length : Int) then (if 0 ≤ x4 then (if x4 < (x3.length : Int) then (laws_toInt64S.l0d x0 (x3.set (x4 : Int).toNat (rd x0 x4)) (wrap64 (x4 + 1))) else (none)) else (none)) else (some x3) := by
  refine IsLim.unique (laws_toInt64S.l0lim _ _ _) ?_
  refine IsLim.shift (by rfl) ?_
  show IsLim (fun k => if x4 < (x0.length : Int) then (if 0 ≤ x4 then (if x4 < (x3.length : Int) then (laws_toInt64S.l0 k x0 (x3.set (x4 : Int).toNat (rd x0 x4)) (wrap64 (x4 + 1))) else (none)) else (none)) else (some x3)) _
  repeat' (first | exact IsLim.const _ | refine IsLim.ite ?_ ?_ | refine IsLim.bind ?_ (fun _ => ?_) | exact laws_toInt64S.l0lim ..)
noncomputable def laws_toInt64S.d (l0 : List Int) : Option (List Int) := lim (fun k => laws_toInt64S.f k l0)
theorem laws_toInt64S.lim (l0 : List Int) : IsLim (fun k => laws_toInt64S.f k l0) (laws_toInt64S.d l0) := lim_spec (fun k => laws_toInt64S.mono l0 k)
theorem laws_toInt64S.d_eq (l0 : List Int) : laws_toInt64S.d l0 = if 0 ≤ (l0.length : Int) then (if ((l0.length : Int) : Int).toNat ≤ 35184372088832 then (laws_toInt64S.l0d l0 (List.replicate ((l0.length : Int) : Int).toNat 0) 0) else (none)) else (none) := by
  refine IsLim.unique (laws_toInt64S.lim _) ?_
  unfold laws_toInt64S.f
  repeat' (first | exact IsLim.const _ | refine IsLim.ite ?_ ?_ | refine IsLim.bind ?_ (fun _ => ?_) | exact laws_toInt64S.l0lim ..)
noncomputable def impl_degreeOf.l0d (x0 : Int) (x3 : Int) : Option (Int) := lim (fun k => impl_degreeOf.l0 k x0 x3)
theorem impl_degreeOf.l0lim (x0 : Int) (x3 : Int) : IsLim (fun k => impl_degreeOf.l0 k x0 x3) (impl_degreeOf.l0d x0 x3) := lim_spec (fun k => (impl_degreeOf.mono_l k) x0 x3)
theorem impl_degreeOf.l0d_eq (x0 : Int) (x3 : Int) : impl_degreeOf.l0d x0 x3 = if x0 > 0 then (impl_degreeOf.l0d (x0 / 2) (wrap64 (x3 + 1))) else (some x3) := by
  refine IsLim.unique (impl_degreeOf.l0lim _ _) ?_
  refine IsLim.shift (by rfl) ?_
  show IsLim (fun k => if x0 > 0 then (impl_degreeOf.l0 k (x0 / 2) (wrap64 (x3 + 1))) else (some x3)) _
  repeat' (first | exact IsLim.const _ | refine IsLim.ite ?_ ?_ | refine IsLim.bind ?_ (fun _ => ?_) | exact impl_degreeOf.l0lim ..)
noncomputable def impl_degreeOf.d (a0 : Int) : Option (Int) := lim (fun k => impl_degreeOf.f k a0)
theorem impl_degreeOf.lim (a0 : Int) : IsLim (fun k => impl_degreeOf.f k a0) (impl_degreeOf.d a0) := lim_spec (fun k => impl_degreeOf.mono a0 k)
theorem impl_degreeOf.d_eq (a0 : Int) : impl_degreeOf.d a0 = impl_degreeOf.l0d a0 (-1) := by
  refine IsLim.unique (impl_degreeOf.lim _) ?_
  unfold impl_degreeOf.f
  repeat' (first | exact IsLim.const _ | refine IsLim.ite ?_ ?_ | refine IsLim.bind ?_ (fun _ => ?_) | exact impl_degreeOf.l0lim ..)
noncomputable def impl_restOf.l0d (x0 : Int) (x1 : Int) (x5 : Int) : Option (Int) := lim (fun k => impl_restOf.l0 k x0 x1 x5)
theorem impl_restOf.l0lim (x0 : Int) (x1 : Int) (x5 : Int) : IsLim (fun k => impl_restOf.l0 k x0 x1 x5) (impl_restOf.l0d x0 x1 x5) := lim_spec (fun k => (impl_restOf.mono_l k) x0 x1 x5)
theorem impl_restOf.l0d_eq (x0 : Int) (x1 : Int) (x5 : Int) : impl_restOf.l0d x0 x1 x5 = (impl_degreeOf.d x0).bind fun t144 => (if t144 ≥ x5 then ((impl_degreeOf.d x0).bind fun t145 => (if 0 ≤ (wrap64 (t145 - x5)) then (impl_restOf.l0d (Go.bits .xor .i64 x0 (shl .i64 x1 (wrap64 (t145 - x5)))) x1 x5) else (none))) else (some x0)) := by
  refine IsLim.unique (impl_restOf.l0lim _ _ _) ?_
  refine IsLim.shift (by rfl) ?_
  show IsLim (fun k => (impl_degreeOf.f k x0).bind fun t144 => (if t144 ≥ x5 then ((impl_degreeOf.f k x0).bind fun t145 => (if 0 ≤ (wrap64 (t145 - x5)) then (impl_restOf.l0 k (Go.bits .xor .i64 x0 (shl .i64 x1 (wrap64 (t145 - x5)))) x1 x5) else (none))) else (some x0))) _
  repeat' (first | exact IsLim.const _ | refine IsLim.ite ?_ ?_ | refine IsLim.bind ?_ (fun _ => ?_) | exact impl_degreeOf.lim .. | exact impl_restOf.l0lim ..)
noncomputable def impl_restOf.d (a0 : Int) (a1 : Int) : Option (Int) := lim (fun k => impl_restOf.f k a0 a1)
theorem impl_restOf.lim (a0 : Int) (a1 : Int) : IsLim (fun k => impl_restOf.f k a0 a1) (impl_restOf.d a0 a1) := lim_spec (fun k => impl_restOf.mono a0 a1 k)
theorem impl_restOf.d_eq (a0 : Int) (a1 : Int) : impl_restOf.d a0 a1 = (impl_degreeOf.d a1).bind fun t143 => (impl_restOf.l0d a0 a1 t143) := by
  refine IsLim.unique (impl_restOf.lim _ _) ?_
  unfold impl_restOf.f
  repeat' (first | exact IsLim.const _ | refine IsLim.ite ?_ ?_ | refine IsLim.bind ?_ (fun _ => ?_) | exact impl_degreeOf.lim .. | exact impl_restOf.l0lim ..)
noncomputable def impl_IsIrreducible.j0d (x0 : Int) (x9 : Bool) : Option (Bool) := lim (fun k => impl_IsIrreducible.j0 k x0 x9)
theorem impl_IsIrreducible.j0lim (x0 : Int) (x9 : Bool) : IsLim (fun k => impl_IsIrreducible.j0 k x0 x9) (impl_IsIrreducible.j0d x0 x9) := lim_spec (fun k => (impl_IsIrreducible.mono_l k).1 x0 x9)
noncomputable def impl_IsIrreducible.l0d (x0 : Int) (x3 : Int) : Option (Bool) := lim (fun k => impl_IsIrreducible.l0 k x0 x3)
theorem impl_IsIrreducible.l0lim (x0 : Int) (x3 : Int) : IsLim (fun k => impl_IsIrreducible.l0 k x0 x3) (impl_IsIrreducible.l0d x0 x3) := lim_spec (fun k => (impl_IsIrreducible.mono_l k).2 x0 x3)
theorem impl_IsIrreducible.j0d_eq (x0 : Int) (x9 : Bool) : impl_IsIrreducible.j0d x0 x9 = if x9 = true then (some false) else (impl_IsIrreducible.l0d x0 2) := by
  refine IsLim.unique (impl_IsIrreducible.j0lim _ _) ?_
  refine IsLim.shift (by rfl) ?_
  show IsLim (fun k => if x9 = true then (some false) else (impl_IsIrreducible.l0 k x0 2)) _
  repeat' (first | exact IsLim.const _ | refine IsLim.ite ?_ ?_ | refine IsLim.bind ?_ (fun _ => ?_) | exact impl_IsIrreducible.l0lim ..)
theorem impl_IsIrreducible.l0d_eq (x0 : Int) (x3 : Int) : impl_IsIrreducible.l0d x0 x3 = (impl_degreeOf.d x3).bind fun t146 => ((impl_degreeOf.d x0).bind fun t147 => (if (wrap64 (2 * t146)) ≤ t147 then ((impl_restOf.d x0 x3).bind fun t148 => (if t148 = 0 then (some false) else (impl_IsIrreducible.l0d x0 (wrap64 (x3 + 1))))) else (some true))) := by
  refine IsLim.unique (impl_IsIrreducible.l0lim _ _) ?_
  refine IsLim.shift (by rfl) ?_
  show IsLim (fun k => (impl_degreeOf.f k x3).bind fun t146 => ((impl_degreeOf.f k x0).bind fun t147 => (if (wrap64 (2 * t146)) ≤ t147 then ((impl_restOf.f k x0 x3).bind fun t148 => (if t148 = 0 then (some false) else (impl_IsIrreducible.l0 k x0 (wrap64 (x3 + 1))))) else (some true)))) _
  repeat' (first | exact IsLim.const _ | refine IsLim.ite ?_ ?_ | refine IsLim.bind ?_ (fun _ => ?_) | exact impl_degreeOf.lim .. | exact impl_restOf.lim .. | exact impl_IsIrreducible.l0lim ..)
noncomputable def impl_IsIrreducible.d (a0 : Int) : Option (Bool) := lim (fun k => impl_IsIrreducible.f k a0)
theorem impl_IsIrreducible.lim (a0 : Int) : IsLim (fun k => impl_IsIrreducible.f k a0) (impl_IsIrreducible.d a0) := lim_spec (fun k => impl_IsIrreducible.mono a0 k)
theorem impl_IsIrreducible.d_eq (a0 : Int) : impl_IsIrreducible.d a0 = if a0 < 2 then (impl_IsIrreducible.j0d a0 true) else (impl_IsIrreducible.j0d a0 (decide (a0 ≥ 64))) := by
  refine IsLim.unique (impl_IsIrreducible.lim _) ?_
  unfold impl_IsIrreducible.f
  repeat' (first | exact IsLim.const _ | refine IsLim.ite ?_ ?_ | refine IsLim.bind ?_ (fun _ => ?_) | exact impl_IsIrreducible.j0lim ..)
noncomputable def impl_ValidField.d (a0_0 : Int) (a0_1 : Int) : Option (Bool) := lim (fun k => impl_ValidField.f k a0_0 a0_1)
theorem impl_ValidField.lim (a0_0 : Int) (a0_1 : Int) : IsLim (fun k => impl_ValidField.f k a0_0 a0_1) (impl_ValidField.d a0_0 a0_1) := lim_spec (fun k => impl_ValidField.mono a0_0 a0_1 k)
theorem impl_ValidField.d_eq (a0_0 : Int) (a0_1 : Int) : impl_ValidField.d a0_0 a0_1 = (impl_within.f a0_0 1 5).bind fun t150 => (if t150 = true then ((impl_IsIrreducible.d a0_1).bind fun t151 => (if t151 = true then ((impl_degreeOf.d a0_1).bind fun t152 => (some (t152 == a0_0))) else (some false))) else (some false)) := by
  refine IsLim.unique (impl_ValidField.lim _ _) ?_
  unfold impl_ValidField.f
  repeat' (first | exact IsLim.const _ | refine IsLim.ite ?_ ?_ | refine IsLim.bind ?_ (fun _ => ?_) | exact impl_IsIrreducible.lim .. | exact impl_degreeOf.lim ..)
noncomputable def laws_eqInt64S.l0d (x0 : List Int) (x1 : List Int) (x5 : Int) : Option (Bool) := lim (fun k => laws_eqInt64S.l0 k x0 x1 x5)
theorem laws_eqInt64S.l0lim (x0 : List Int) (x1 : List Int) (x5 : Int) : IsLim (fun k => laws_eqInt64S.l0 k x0 x1 x5) (laws_eqInt64S.l0d x0 x1 x5) := lim_spec (fun k => (laws_eqInt64S.mono_l k) x0 x1 x5)
theorem laws_eqInt64S.l0d_eq (x0 : List Int) (x1 : List Int) (x5 : Int) : laws_eqInt64S.l0d x0 x1 x5 = if x5 < (x0.length : Int) then (if 0 ≤ x5 then (if x5 < (x1.length : Int) then (if (rd x0 x5) = (rd x1 x5) then (laws_eqInt64S.l0d x0 x1 (wrap64 (x5 + 1))) else (some false)) else (none)) else (none)) else (some true) := by
  refine IsLim.unique (laws_eqInt64S.l0lim _ _ _) ?_
  refine IsLim.shift (by rfl) ?_
  show IsLim (fun k => if x5 < (x0.length : Int) then (if 0 ≤ x5 then (if x5 < (x1.length : Int) then (if (rd x0 x5) = (rd x1 x5) then (laws_eqInt64S.l0 k x0 x1 (wrap64 (x5 + 1))) else (some false)) else (none)) else (none)) else (some true)) _
  repeat' (first | exact IsLim.const _ | refine IsLim.ite ?_ ?_ | refine IsLim.bind ?_ (fun _ => ?_) | exact laws_eqInt64S.l0lim ..)
noncomputable def laws_eqInt64S.d (l0 : List Int) (l1 : List Int) : Option (Bool) := lim (fun k => laws_eqInt64S.f k l0 l1)
theorem laws_eqInt64S.lim (l0 : List Int) (l1 : List Int) : IsLim (fun k => laws_eqInt64S.f k l0 l1) (laws_eqInt64S.d l0 l1) := lim_spec (fun k => laws_eqInt64S.mono l0 l1 k)
theorem laws_eqInt64S.d_eq (l0 : List Int) (l1 : List Int) : laws_eqInt64S.d l0 l1 = if (l0.length : Int) = (l1.length : Int) then (laws_eqInt64S.l0d l0 l1 0) else (some false) := by
  refine IsLim.unique (laws_eqInt64S.lim _ _) ?_
  unfold laws_eqInt64S.f
  repeat' (first | exact IsLim.const _ | refine IsLim.ite ?_ ?_ | refine IsLim.bind ?_ (fun _ => ?_) | exact laws_eqInt64S.l0lim ..)
end Go.Proofs.Ytngiionckbmkmaa.P
