/- What the functions of this part tell, without rounds: written by puregen.py of this seat's prover. -/
import Derived.Test.YtngiionckbmkmaaDLim
import Derived.Test.YtngiionckbmkmaaPx5
import Derived.Test.YtngiionckbmkmaaDx1
import Derived.Test.YtngiionckbmkmaaDx2
import Derived.Test.YtngiionckbmkmaaDx3
namespace Go.Proofs.Ytngiionckbmkmaa.P
open Go.RowKit Go.Proofs.YtngiionckbmkmaaW.PrintWords Go.Proofs.YtngiionckbmkmaaW.PrintLast Go.Proofs.YtngiionckbmkmaaW.PrintMore
set_option linter.unusedVariables false
noncomputable def spec_l04Word.d (a0_0 : Int) (a0_1 : Int) (l1 : List Int) : Option (Bool) := lim (fun k => spec_l04Word.f k a0_0 a0_1 l1)
theorem spec_l04Word.lim (a0_0 : Int) (a0_1 : Int) (l1 : List Int) : IsLim (fun k => spec_l04Word.f k a0_0 a0_1 l1) (spec_l04Word.d a0_0 a0_1 l1) := lim_spec (fun k => spec_l04Word.mono a0_0 a0_1 l1 k)
theorem spec_l04Word.d_eq (a0_0 : Int) (a0_1 : Int) (l1 : List Int) : spec_l04Word.d a0_0 a0_1 l1 = (spec_l00In.f (l1.length : Int) 1 5).bind fun t118 => (if t118 = true then ((spec_l04Elements.d a0_0 a0_1 l1).bind fun t119 => (some t119)) else (some false)) := by
  refine IsLim.unique (spec_l04Word.lim _ _ _) ?_
  unfold spec_l04Word.f
  repeat' (first | exact IsLim.const _ | refine IsLim.ite ?_ ?_ | refine IsLim.bind ?_ (fun _ => ?_) | exact spec_l04Elements.lim ..)
noncomputable def impl_Field_isWord.d (a0_0 : Int) (a0_1 : Int) (l1 : List Int) : Option (Bool) := lim (fun k => impl_Field_isWord.f k a0_0 a0_1 l1)
theorem impl_Field_isWord.lim (a0_0 : Int) (a0_1 : Int) (l1 : List Int) : IsLim (fun k => impl_Field_isWord.f k a0_0 a0_1 l1) (impl_Field_isWord.d a0_0 a0_1 l1) := lim_spec (fun k => impl_Field_isWord.mono a0_0 a0_1 l1 k)
theorem impl_Field_isWord.d_eq (a0_0 : Int) (a0_1 : Int) (l1 : List Int) : impl_Field_isWord.d a0_0 a0_1 l1 = (impl_size_int64_85.f l1).bind fun t162 => ((impl_within.f t162 1 5).bind fun t163 => (if t163 = true then ((impl_Field_has.d a0_0 a0_1 l1).bind fun t164 => (some t164)) else (some false))) := by
  refine IsLim.unique (impl_Field_isWord.lim _ _ _) ?_
  unfold impl_Field_isWord.f
  repeat' (first | exact IsLim.const _ | refine IsLim.ite ?_ ?_ | refine IsLim.bind ?_ (fun _ => ?_) | exact impl_Field_has.lim ..)
noncomputable def impl_Field_wordCode_1.d (l0 : List Int) (a1_0 : Int) (a1_1 : Int) (l2_0 : List (List Int)) : Option (Bool) := lim (fun k => impl_Field_wordCode_1.f k l0 a1_0 a1_1 l2_0)
theorem impl_Field_wordCode_1.lim (l0 : List Int) (a1_0 : Int) (a1_1 : Int) (l2_0 : List (List Int)) : IsLim (fun k => impl_Field_wordCode_1.f k l0 a1_0 a1_1 l2_0) (impl_Field_wordCode_1.d l0 a1_0 a1_1 l2_0) := lim_spec (fun k => impl_Field_wordCode_1.mono l0 a1_0 a1_1 l2_0 k)
theorem impl_Field_wordCode_1.d_eq (l0 : List Int) (a1_0 : Int) (a1_1 : Int) (l2_0 : List (List Int)) : impl_Field_wordCode_1.d l0 a1_0 a1_1 l2_0 = (impl_Field_isWord.d a1_0 a1_1 l0).bind fun t165 => (if t165 = true then (if 0 < (l2_0.length : Int) then (some ((l0.length : Int) != ((rd_L1 l2_0 0).length : Int))) else (none)) else (some true)) := by
  refine IsLim.unique (impl_Field_wordCode_1.lim _ _ _ _) ?_
  unfold impl_Field_wordCode_1.f
  repeat' (first | exact IsLim.const _ | refine IsLim.ite ?_ ?_ | refine IsLim.bind ?_ (fun _ => ?_) | exact impl_Field_isWord.lim ..)
noncomputable def slices_IndexFunc_int64_int64_AT_impl_Field_wordCode_1.l0d (x0 : List (List Int)) (x7 : Int) (x8 : Int) (x49000 : Int) (x49001 : Int) (x50000 : List (List Int)) : Option (Int) := lim (fun k => slices_IndexFunc_int64_int64_AT_impl_Field_wordCode_1.l0 k x0 x7 x8 x49000 x49001 x50000)
theorem slices_IndexFunc_int64_int64_AT_impl_Field_wordCode_1.l0lim (x0 : List (List Int)) (x7 : Int) (x8 : Int) (x49000 : Int) (x49001 : Int) (x50000 : List (List Int)) : IsLim (fun k => slices_IndexFunc_int64_int64_AT_impl_Field_wordCode_1.l0 k x0 x7 x8 x49000 x49001 x50000) (slices_IndexFunc_int64_int64_AT_impl_Field_wordCode_1.l0d x0 x7 x8 x49000 x49001 x50000) := lim_spec (fun k => (slices_IndexFunc_int64_int64_AT_impl_Field_wordCode_1.mono_l k) x0 x7 x8 x49000 x49001 x50000)
theorem slices_IndexFunc_int64_int64_AT_impl_Field_wordCode_1.l0d_eq (x0 : List (List Int)) (x7 : Int) (x8 : Int) (x49000 : Int) (x49001 : Int) (x50000 : List (List Int)) : slices_IndexFunc_int64_int64_AT_impl_Field_wordCode_1.l0d x0 x7 x8 x49000 x49001 x50000 = if x8 < x7 then (if 0 ≤ x8 then (if x8 < (x0.length : Int) then ((impl_Field_wordCode_1.d (rd_L1 x0 x8) x49000 x49001 x50000).bind fun t168 => (if t168 = true then (some x8) else (slices_IndexFunc_int64_int64_AT_impl_Field_wordCode_1.l0d x0 x7 (wrap64 (x8 + 1)) x49000 x49001 x50000))) else (none)) else (none)) else (some (-1)) := by
  refine IsLim.unique (slices_IndexFunc_int64_int64_AT_impl_Field_wordCode_1.l0lim _ _ _ _ _ _) ?_
  refine IsLim.shift (by rfl) ?_
  show IsLim (fun k => if x8 < x7 then (if 0 ≤ x8 then (if x8 < (x0.length : Int) then ((impl_Field_wordCode_1.f k (rd_L1 x0 x8) x49000 x49001 x50000).bind fun t168 => (if t168 = true then (some x8) else (slices_IndexFunc_int64_int64_AT_impl_Field_wordCode_1.l0 k x0 x7 (wrap64 (x8 + 1)) x49000 x49001 x50000))) else (none)) else (none)) else (some (-1))) _
  repeat' (first | exact IsLim.const _ | refine IsLim.ite ?_ ?_ | refine IsLim.bind ?_ (fun _ => ?_) | exact impl_Field_wordCode_1.lim .. | exact slices_IndexFunc_int64_int64_AT_impl_Field_wordCode_1.l0lim ..)
noncomputable def slices_IndexFunc_int64_int64_AT_impl_Field_wordCode_1.d (l0 : List (List Int)) (a1_0 : Int) (a1_1 : Int) (l1_2 : List (List Int)) : Option (Int) := lim (fun k => slices_IndexFunc_int64_int64_AT_impl_Field_wordCode_1.f k l0 a1_0 a1_1 l1_2)
theorem slices_IndexFunc_int64_int64_AT_impl_Field_wordCode_1.lim (l0 : List (List Int)) (a1_0 : Int) (a1_1 : Int) (l1_2 : List (List Int)) : IsLim (fun k => slices_IndexFunc_int64_int64_AT_impl_Field_wordCode_1.f k l0 a1_0 a1_1 l1_2) (slices_IndexFunc_int64_int64_AT_impl_Field_wordCode_1.d l0 a1_0 a1_1 l1_2) := lim_spec (fun k => slices_IndexFunc_int64_int64_AT_impl_Field_wordCode_1.mono l0 a1_0 a1_1 l1_2 k)
theorem slices_IndexFunc_int64_int64_AT_impl_Field_wordCode_1.d_eq (l0 : List (List Int)) (a1_0 : Int) (a1_1 : Int) (l1_2 : List (List Int)) : slices_IndexFunc_int64_int64_AT_impl_Field_wordCode_1.d l0 a1_0 a1_1 l1_2 = slices_IndexFunc_int64_int64_AT_impl_Field_wordCode_1.l0d l0 (l0.length : Int) 0 a1_0 a1_1 l1_2 := by
  refine IsLim.unique (slices_IndexFunc_int64_int64_AT_impl_Field_wordCode_1.lim _ _ _ _) ?_
  unfold slices_IndexFunc_int64_int64_AT_impl_Field_wordCode_1.f
  repeat' (first | exact IsLim.const _ | refine IsLim.ite ?_ ?_ | refine IsLim.bind ?_ (fun _ => ?_) | exact slices_IndexFunc_int64_int64_AT_impl_Field_wordCode_1.l0lim ..)
noncomputable def slices_ContainsFunc_int64_int64_AT_impl_Field_wordCode_1.d (l0 : List (List Int)) (a1_0 : Int) (a1_1 : Int) (l1_2 : List (List Int)) : Option (Bool) := lim (fun k => slices_ContainsFunc_int64_int64_AT_impl_Field_wordCode_1.f k l0 a1_0 a1_1 l1_2)
theorem slices_ContainsFunc_int64_int64_AT_impl_Field_wordCode_1.lim (l0 : List (List Int)) (a1_0 : Int) (a1_1 : Int) (l1_2 : List (List Int)) : IsLim (fun k => slices_ContainsFunc_int64_int64_AT_impl_Field_wordCode_1.f k l0 a1_0 a1_1 l1_2) (slices_ContainsFunc_int64_int64_AT_impl_Field_wordCode_1.d l0 a1_0 a1_1 l1_2) := lim_spec (fun k => slices_ContainsFunc_int64_int64_AT_impl_Field_wordCode_1.mono l0 a1_0 a1_1 l1_2 k)
theorem slices_ContainsFunc_int64_int64_AT_impl_Field_wordCode_1.d_eq (l0 : List (List Int)) (a1_0 : Int) (a1_1 : Int) (l1_2 : List (List Int)) : slices_ContainsFunc_int64_int64_AT_impl_Field_wordCode_1.d l0 a1_0 a1_1 l1_2 = (slices_IndexFunc_int64_int64_AT_impl_Field_wordCode_1.d l0 a1_0 a1_1 l1_2).bind fun t169 => (some (decide (t169 ≥ 0))) := by
  refine IsLim.unique (slices_ContainsFunc_int64_int64_AT_impl_Field_wordCode_1.lim _ _ _ _) ?_
  unfold slices_ContainsFunc_int64_int64_AT_impl_Field_wordCode_1.f
  repeat' (first | exact IsLim.const _ | refine IsLim.ite ?_ ?_ | refine IsLim.bind ?_ (fun _ => ?_) | exact slices_IndexFunc_int64_int64_AT_impl_Field_wordCode_1.lim ..)
noncomputable def impl_Field_wordCode.d (a0_0 : Int) (a0_1 : Int) (l1 : List (List Int)) : Option (Int) := lim (fun k => impl_Field_wordCode.f k a0_0 a0_1 l1)
theorem impl_Field_wordCode.lim (a0_0 : Int) (a0_1 : Int) (l1 : List (List Int)) : IsLim (fun k => impl_Field_wordCode.f k a0_0 a0_1 l1) (impl_Field_wordCode.d a0_0 a0_1 l1) := lim_spec (fun k => impl_Field_wordCode.mono a0_0 a0_1 l1 k)
theorem impl_Field_wordCode.d_eq (a0_0 : Int) (a0_1 : Int) (l1 : List (List Int)) : impl_Field_wordCode.d a0_0 a0_1 l1 = (impl_ValidField.d a0_0 a0_1).bind fun t172 => (if t172 = true then ((slices_ContainsFunc_int64_int64_AT_impl_Field_wordCode_1.d l1 a0_0 a0_1 l1).bind fun t173 => (if t173 = true then (some 2) else (some 0))) else (some 1)) := by
  refine IsLim.unique (impl_Field_wordCode.lim _ _ _) ?_
  unfold impl_Field_wordCode.f
  repeat' (first | exact IsLim.const _ | refine IsLim.ite ?_ ?_ | refine IsLim.bind ?_ (fun _ => ?_) | exact impl_ValidField.lim .. | exact slices_ContainsFunc_int64_int64_AT_impl_Field_wordCode_1.lim ..)
end Go.Proofs.Ytngiionckbmkmaa.P
