/- What the functions of this part tell, without rounds: written by puregen.py of this seat's prover. -/
import Derived.Test.YtngiionckbmkmaaDLim
import Derived.Test.YtngiionckbmkmaaPx11
import Derived.Test.YtngiionckbmkmaaDx1
import Derived.Test.YtngiionckbmkmaaDx5
namespace Go.Proofs.Ytngiionckbmkmaa.P
open Go.RowKit Go.Proofs.YtngiionckbmkmaaW.PrintWords Go.Proofs.YtngiionckbmkmaaW.PrintLast Go.Proofs.YtngiionckbmkmaaW.PrintMore
set_option linter.unusedVariables false
noncomputable def spec_l04Given.d (a0_0 : Int) (a0_1 : Int) (l1 : List Int) : Option (Int) := lim (fun k => spec_l04Given.f k a0_0 a0_1 l1)
theorem spec_l04Given.lim (a0_0 : Int) (a0_1 : Int) (l1 : List Int) : IsLim (fun k => spec_l04Given.f k a0_0 a0_1 l1) (spec_l04Given.d a0_0 a0_1 l1) := lim_spec (fun k => spec_l04Given.mono a0_0 a0_1 l1 k)
theorem spec_l04Given.d_eq (a0_0 : Int) (a0_1 : Int) (l1 : List Int) : spec_l04Given.d a0_0 a0_1 l1 = (spec_l01Ok.d a0_0 a0_1).bind fun t121 => (if t121 = true then ((spec_l04Word.d a0_0 a0_1 l1).bind fun t122 => (if t122 = true then (some 0) else (some 2))) else (some 1)) := by
  refine IsLim.unique (spec_l04Given.lim _ _ _) ?_
  unfold spec_l04Given.f
  repeat' (first | exact IsLim.const _ | refine IsLim.ite ?_ ?_ | refine IsLim.bind ?_ (fun _ => ?_) | exact spec_l01Ok.lim .. | exact spec_l04Word.lim ..)
end Go.Proofs.Ytngiionckbmkmaa.P
