/- What the functions of this part tell, without rounds: written by puregen.py of this seat's prover. -/
import Derived.Test.YtngiionckbmkmaaDLim
import Derived.Test.YtngiionckbmkmaaPx16
import Derived.Test.YtngiionckbmkmaaDx6
namespace Go.Proofs.Ytngiionckbmkmaa.P
open Go.RowKit Go.Proofs.YtngiionckbmkmaaW.PrintWords Go.Proofs.YtngiionckbmkmaaW.PrintLast Go.Proofs.YtngiionckbmkmaaW.PrintMore
set_option linter.unusedVariables false
noncomputable def laws_heldMatrix.d (a0_0 : Int) (l0_1 : List Int) (a1 : Int) : Option (Int) := lim (fun k => laws_heldMatrix.f k a0_0 l0_1 a1)
theorem laws_heldMatrix.lim (a0_0 : Int) (l0_1 : List Int) (a1 : Int) : IsLim (fun k => laws_heldMatrix.f k a0_0 l0_1 a1) (laws_heldMatrix.d a0_0 l0_1 a1) := lim_spec (fun k => laws_heldMatrix.mono a0_0 l0_1 a1 k)
theorem laws_heldMatrix.d_eq (a0_0 : Int) (l0_1 : List Int) (a1 : Int) : laws_heldMatrix.d a0_0 l0_1 a1 = (laws_heldInt64S.d l0_1 a1).bind fun t200 => (if t200 < 0 then (some (-1)) else (some t200)) := by
  refine IsLim.unique (laws_heldMatrix.lim _ _ _) ?_
  unfold laws_heldMatrix.f
  repeat' (first | exact IsLim.const _ | refine IsLim.ite ?_ ?_ | refine IsLim.bind ?_ (fun _ => ?_) | exact laws_heldInt64S.lim ..)
end Go.Proofs.Ytngiionckbmkmaa.P
