/- What the functions of this part tell, without rounds: written by puregen.py of this seat's prover. -/
import Derived.Test.YtngiionckbmkmaaDLim
import Derived.Test.YtngiionckbmkmaaPx6
namespace Go.Proofs.Ytngiionckbmkmaa.P
open Go.RowKit Go.Proofs.YtngiionckbmkmaaW.PrintWords Go.Proofs.YtngiionckbmkmaaW.PrintLast Go.Proofs.YtngiionckbmkmaaW.PrintMore
set_option linter.unusedVariables false
noncomputable def laws_markInt64S.l0d (x0 : List Int) (x1 : Int) (x5 : Int) : Option (Int × List Int) := lim (fun k => laws_markInt64S.l0 k x0 x1 x5)
theorem laws_markInt64S.l0lim (x0 : List Int) (x1 : Int) (x5 : Int) : IsLim (fun k => laws_markInt64S.l0 k x0 x1 x5) (laws_markInt64S.l0d x0 x1 x5) := lim_spec (fun k => (laws_markInt64S.mono_l k) x0 x1 x5)
theorem laws_markInt64S.l0d_eq (x0 : List Int) (x1 : Int) (x5 : Int) : laws_markInt64S.l0d x0 x1 x5 = if x5 < (x0.length : Int) then (if 0 ≤ x5 then (laws_markInt64S.l0d (x0.set (x5 : Int).toNat x1) (wrap64 (x1 + 1)) (wrap64 (x5 + 1))) else (none)) else (some (x1, x0)) := by
  refine IsLim.unique (laws_markInt64S.l0lim _ _ _) ?_
  refine IsLim.shift (by rfl) ?_
  show IsLim (fun k => if x5 < (x0.length : Int) then (if 0 ≤ x5 then (laws_markInt64S.l0 k (x0.set (x5 : Int).toNat x1) (wrap64 (x1 + 1)) (wrap64 (x5 + 1))) else (none)) else (some (x1, x0))) _
  repeat' (first | exact IsLim.const _ | refine IsLim.ite ?_ ?_ | refine IsLim.bind ?_ (fun _ => ?_) | exact laws_markInt64S.l0lim ..)
noncomputable def laws_markInt64S.d (l0 : List Int) (a1 : Int) : Option (Int × List Int) := lim (fun k => laws_markInt64S.f k l0 a1)
theorem laws_markInt64S.lim (l0 : List Int) (a1 : Int) : IsLim (fun k => laws_markInt64S.f k l0 a1) (laws_markInt64S.d l0 a1) := lim_spec (fun k => laws_markInt64S.mono l0 a1 k)
theorem laws_markInt64S.d_eq (l0 : List Int) (a1 : Int) : laws_markInt64S.d l0 a1 = laws_markInt64S.l0d l0 a1 0 := by
  refine IsLim.unique (laws_markInt64S.lim _ _) ?_
  unfold laws_markInt64S.f
  repeat' (first | exact IsLim.const _ | refine IsLim.ite ?_ ?_ | refine IsLim.bind ?_ (fun _ => ?_) | exact laws_markInt64S.l0lim ..)
noncomputable def laws_heldInt64S.l0d (x0 : List Int) (x1 : Int) (x5 : Int) : Option (Int) := lim (fun k => laws_heldInt64S.l0 k x0 x1 x5)
theorem laws_heldInt64S.l0lim (x0 : List Int) (x1 : Int) (x5 : Int) : IsLim (fun k => laws_heldInt64S.l0 k x0 x1 x5) (laws_heldInt64S.l0d x0 x1 x5) := lim_spec (fun k => (laws_heldInt64S.mono_l k) x0 x1 x5)
theorem laws_heldInt64S.l0d_eq (x0 : List Int) (x1 : Int) (x5 : Int) : laws_heldInt64S.l0d x0 x1 x5 = if x5 < (x0.length : Int) then (if 0 ≤ x5 then (if (rd x0 x5) = x1 then (laws_heldInt64S.l0d x0 (wrap64 (x1 + 1)) (wrap64 (x5 + 1))) else (some (-1))) else (none)) else (some x1) := by
  refine IsLim.unique (laws_heldInt64S.l0lim _ _ _) ?_
  refine IsLim.shift (by rfl) ?_
  show IsLim (fun k => if x5 < (x0.length : Int) then (if 0 ≤ x5 then (if (rd x0 x5) = x1 then (laws_heldInt64S.l0 k x0 (wrap64 (x1 + 1)) (wrap64 (x5 + 1))) else (some (-1))) else (none)) else (some x1)) _
  repeat' (first | exact IsLim.const _ | refine IsLim.ite ?_ ?_ | refine IsLim.bind ?_ (fun _ => ?_) | exact laws_heldInt64S.l0lim ..)
noncomputable def laws_heldInt64S.d (l0 : List Int) (a1 : Int) : Option (Int) := lim (fun k => laws_heldInt64S.f k l0 a1)
theorem laws_heldInt64S.lim (l0 : List Int) (a1 : Int) : IsLim (fun k => laws_heldInt64S.f k l0 a1) (laws_heldInt64S.d l0 a1) := lim_spec (fun k => laws_heldInt64S.mono l0 a1 k)
theorem laws_heldInt64S.d_eq (l0 : List Int) (a1 : Int) : laws_heldInt64S.d l0 a1 = laws_heldInt64S.l0d l0 a1 0 := by
  refine IsLim.unique (laws_heldInt64S.lim _ _) ?_
  unfold laws_heldInt64S.f
  repeat' (first | exact IsLim.const _ | refine IsLim.ite ?_ ?_ | refine IsLim.bind ?_ (fun _ => ?_) | exact laws_heldInt64S.l0lim ..)
end Go.Proofs.Ytngiionckbmkmaa.P
