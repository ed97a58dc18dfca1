/- What the functions of this part tell, without rounds: written by puregen.py of this seat's prover. -/
import Derived.Test.YtngiionckbmkmaaDLim
import Derived.Test.YtngiionckbmkmaaPx14
import Derived.Test.YtngiionckbmkmaaDx2
import Derived.Test.YtngiionckbmkmaaDx6
namespace Go.Proofs.Ytngiionckbmkmaa.P
open Go.RowKit Go.Proofs.YtngiionckbmkmaaW.PrintWords Go.Proofs.YtngiionckbmkmaaW.PrintLast Go.Proofs.YtngiionckbmkmaaW.PrintMore
set_option linter.unusedVariables false
noncomputable def laws_eqMatrix.d (a0_0 : Int) (l0_1 : List Int) (a1_0 : Int) (l1_1 : List Int) : Option (Bool) := lim (fun k => laws_eqMatrix.f k a0_0 l0_1 a1_0 l1_1)
theorem laws_eqMatrix.lim (a0_0 : Int) (l0_1 : List Int) (a1_0 : Int) (l1_1 : List Int) : IsLim (fun k => laws_eqMatrix.f k a0_0 l0_1 a1_0 l1_1) (laws_eqMatrix.d a0_0 l0_1 a1_0 l1_1) := lim_spec (fun k => laws_eqMatrix.mono a0_0 l0_1 a1_0 l1_1 k)
theorem laws_eqMatrix.d_eq (a0_0 : Int) (l0_1 : List Int) (a1_0 : Int) (l1_1 : List Int) : laws_eqMatrix.d a0_0 l0_1 a1_0 l1_1 = if a0_0 = a1_0 then ((laws_eqInt64S.d l0_1 l1_1).bind fun t193 => (if t193 = true then (some true) else (some false))) else (some false) := by
  refine IsLim.unique (laws_eqMatrix.lim _ _ _ _) ?_
  unfold laws_eqMatrix.f
  repeat' (first | exact IsLim.const _ | refine IsLim.ite ?_ ?_ | refine IsLim.bind ?_ (fun _ => ?_) | exact laws_eqInt64S.lim ..)
noncomputable def laws_markMatrix.d (a0_0 : Int) (l0_1 : List Int) (a1 : Int) : Option (Int × List Int) := lim (fun k => laws_markMatrix.f k a0_0 l0_1 a1)
theorem laws_markMatrix.lim (a0_0 : Int) (l0_1 : List Int) (a1 : Int) : IsLim (fun k => laws_markMatrix.f k a0_0 l0_1 a1) (laws_markMatrix.d a0_0 l0_1 a1) := lim_spec (fun k => laws_markMatrix.mono a0_0 l0_1 a1 k)
theorem laws_markMatrix.d_eq (a0_0 : Int) (l0_1 : List Int) (a1 : Int) : laws_markMatrix.d a0_0 l0_1 a1 = (laws_markInt64S.d l0_1 a1).bind fun bt196 => (some (bt196.1, bt196.2)) := by
  refine IsLim.unique (laws_markMatrix.lim _ _ _) ?_
  unfold laws_markMatrix.f
  repeat' (first | exact IsLim.const _ | refine IsLim.ite ?_ ?_ | refine IsLim.bind ?_ (fun _ => ?_) | exact laws_markInt64S.lim ..)
end Go.Proofs.Ytngiionckbmkmaa.P
