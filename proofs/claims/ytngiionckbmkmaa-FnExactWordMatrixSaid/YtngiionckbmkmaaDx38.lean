/- What the functions of this part tell, without rounds: written by puregen.py of this seat's prover. -/
import Derived.Test.YtngiionckbmkmaaDLim
import Derived.Test.YtngiionckbmkmaaPx38
import Derived.Test.YtngiionckbmkmaaDx4
import Derived.Test.YtngiionckbmkmaaDx5
import Derived.Test.YtngiionckbmkmaaDx11
import Derived.Test.YtngiionckbmkmaaDx22
namespace Go.Proofs.Ytngiionckbmkmaa.P
open Go.RowKit Go.Proofs.YtngiionckbmkmaaW.PrintWords Go.Proofs.YtngiionckbmkmaaW.PrintLast Go.Proofs.YtngiionckbmkmaaW.PrintMore
set_option linter.unusedVariables false
noncomputable def spec_WordMatrix.d (a0_0 : Int) (a0_1 : Int) (l1 : List Int) : Option (Int × List Int × Int) := lim (fun k => spec_WordMatrix.f k a0_0 a0_1 l1)
theorem spec_WordMatrix.lim (a0_0 : Int) (a0_1 : Int) (l1 : List Int) : IsLim (fun k => spec_WordMatrix.f k a0_0 a0_1 l1) (spec_WordMatrix.d a0_0 a0_1 l1) := lim_spec (fun k => spec_WordMatrix.mono a0_0 a0_1 l1 k)
theorem spec_WordMatrix.d_eq (a0_0 : Int) (a0_1 : Int) (l1 : List Int) : spec_WordMatrix.d a0_0 a0_1 l1 = (spec_l04Given.d a0_0 a0_1 l1).bind fun t131 => (if t131 = 0 then ((spec_l00Own.f l1).bind fun t132 => (some (a0_0, t132, 0))) else (some (0, ([] : List Int), t131))) := by
  refine IsLim.unique (spec_WordMatrix.lim _ _ _) ?_
  unfold spec_WordMatrix.f
  repeat' (first | exact IsLim.const _ | refine IsLim.ite ?_ ?_ | refine IsLim.bind ?_ (fun _ => ?_) | exact spec_l04Given.lim ..)
noncomputable def impl_WordMatrix.d (a0_0 : Int) (a0_1 : Int) (l1 : List Int) : Option (Int × List Int × Int) := lim (fun k => impl_WordMatrix.f k a0_0 a0_1 l1)
theorem impl_WordMatrix.lim (a0_0 : Int) (a0_1 : Int) (l1 : List Int) : IsLim (fun k => impl_WordMatrix.f k a0_0 a0_1 l1) (impl_WordMatrix.d a0_0 a0_1 l1) := lim_spec (fun k => impl_WordMatrix.mono a0_0 a0_1 l1 k)
theorem impl_WordMatrix.d_eq (a0_0 : Int) (a0_1 : Int) (l1 : List Int) : impl_WordMatrix.d a0_0 a0_1 l1 = (impl_Field_wordCode.d a0_0 a0_1 (([l1] : List (List Int)))).bind fun t184 => (if t184 = 0 then ((impl_Field_matrixOf.f a0_0 a0_1 l1).bind fun bt185 => (some (bt185.1, bt185.2, 0))) else (some (0, ([] : List Int), t184))) := by
  refine IsLim.unique (impl_WordMatrix.lim _ _ _) ?_
  unfold impl_WordMatrix.f
  repeat' (first | exact IsLim.const _ | refine IsLim.ite ?_ ?_ | refine IsLim.bind ?_ (fun _ => ?_) | exact impl_Field_wordCode.lim ..)
end Go.Proofs.Ytngiionckbmkmaa.P
