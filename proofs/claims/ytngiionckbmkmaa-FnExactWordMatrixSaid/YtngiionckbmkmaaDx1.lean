/- What the functions of this part tell, without rounds: written by puregen.py of this seat's prover. -/
import Derived.Test.YtngiionckbmkmaaDLim
import Derived.Test.YtngiionckbmkmaaPx1
namespace Go.Proofs.Ytngiionckbmkmaa.P
open Go.RowKit Go.Proofs.YtngiionckbmkmaaW.PrintWords Go.Proofs.YtngiionckbmkmaaW.PrintLast Go.Proofs.YtngiionckbmkmaaW.PrintMore
set_option linter.unusedVariables false
noncomputable def spec_l01Degree.l0d (x0 : Int) (x3 : Int) : Option (Int) := lim (fun k => spec_l01Degree.l0 k x0 x3)
theorem spec_l01Degree.l0lim (x0 : Int) (x3 : Int) : IsLim (fun k => spec_l01Degree.l0 k x0 x3) (spec_l01Degree.l0d x0 x3) := lim_spec (fun k => (spec_l01Degree.mono_l k) x0 x3)
theorem spec_l01Degree.l0d_eq (x0 : Int) (x3 : Int) : spec_l01Degree.l0d x0 x3 = if x0 > 0 then (spec_l01Degree.l0d (wrap64 (Int.tdiv x0 2)) (wrap64 (x3 + 1))) else (some x3) := by
  refine IsLim.unique (spec_l01Degree.l0lim _ _) ?_
  refine IsLim.shift (by rfl) ?_
  show IsLim (fun k => if x0 > 0 then (spec_l01Degree.l0 k (wrap64 (Int.tdiv x0 2)) (wrap64 (x3 + 1))) else (some x3)) _
  repeat' (first | exact IsLim.const _ | refine IsLim.ite ?_ ?_ | refine IsLim.bind ?_ (fun _ => ?_) | exact spec_l01Degree.l0lim ..)
noncomputable def spec_l01Degree.d (a0 : Int) : Option (Int) := lim (fun k => spec_l01Degree.f k a0)
theorem spec_l01Degree.lim (a0 : Int) : IsLim (fun k => spec_l01Degree.f k a0) (spec_l01Degree.d a0) := lim_spec (fun k => spec_l01Degree.mono a0 k)
theorem spec_l01Degree.d_eq (a0 : Int) : spec_l01Degree.d a0 = spec_l01Degree.l0d a0 (-1) := by
  refine IsLim.unique (spec_l01Degree.lim _) ?_
  unfold spec_l01Degree.f
  repeat' (first | exact IsLim.const _ | refine IsLim.ite ?_ ?_ | refine IsLim.bind ?_ (fun _ => ?_) | exact spec_l01Degree.l0lim ..)
noncomputable def spec_l01Rest.l0d (x0 : Int) (x1 : Int) (x5 : Int) : Option (Int) := lim (fun k => spec_l01Rest.l0 k x0 x1 x5)
theorem spec_l01Rest.l0lim (x0 : Int) (x1 : Int) (x5 : Int) : IsLim (fun k => spec_l01Rest.l0 k x0 x1 x5) (spec_l01Rest.l0d x0 x1 x5) := lim_spec (fun k => (spec_l01Rest.mono_l k) x0 x1 x5)
theorem spec_l01Rest.l0d_eq (x0 : Int) (x1 : Int) (x5 : Int) : spec_l01Rest.l0d x0 x1 x5 = (spec_l01Degree.d x0).bind fun t102 => (if t102 ≥ x5 then ((spec_l01Degree.d x0).bind fun t103 => (if 0 ≤ (IntKind.u64.wrap (wrap64 (t103 - x5))) then (spec_l01Rest.l0d (Go.bits .xor .i64 x0 (shl .i64 x1 (IntKind.u64.wrap (wrap64 (t103 - x5))))) x1 x5) else (none))) else (some x0)) := by
  refine IsLim.unique (spec_l01Rest.l0lim _ _ _) ?_
  refine IsLim.shift (by rfl) ?_
  show IsLim (fun k => (spec_l01Degree.f k x0).bind fun t102 => (if t102 ≥ x5 then ((spec_l01Degree.f k x0).bind fun t103 => (if 0 ≤ (IntKind.u64.wrap (wrap64 (t103 - x5))) then (spec_l01Rest.l0 k (Go.bits .xor .i64 x0 (shl .i64 x1 (IntKind.u64.wrap (wrap64 (t103 - x5))))) x1 x5) else (none))) else (some x0))) _
  repeat' (first | exact IsLim.const _ | refine IsLim.ite ?_ ?_ | refine IsLim.bind ?_ (fun _ => ?_) | exact spec_l01Degree.lim .. | exact spec_l01Rest.l0lim ..)
noncomputable def spec_l01Rest.d (a0 : Int) (a1 : Int) : Option (Int) := lim (fun k => spec_l01Rest.f k a0 a1)
theorem spec_l01Rest.lim (a0 : Int) (a1 : Int) : IsLim (fun k => spec_l01Rest.f k a0 a1) (spec_l01Rest.d a0 a1) := lim_spec (fun k => spec_l01Rest.mono a0 a1 k)
theorem spec_l01Rest.d_eq (a0 : Int) (a1 : Int) : spec_l01Rest.d a0 a1 = (spec_l01Degree.d a1).bind fun t101 => (spec_l01Rest.l0d a0 a1 t101) := by
  refine IsLim.unique (spec_l01Rest.lim _ _) ?_
  unfold spec_l01Rest.f
  repeat' (first | exact IsLim.const _ | refine IsLim.ite ?_ ?_ | refine IsLim.bind ?_ (fun _ => ?_) | exact spec_l01Degree.lim .. | exact spec_l01Rest.l0lim ..)
noncomputable def spec_l01Irreducible.j0d (x0 : Int) (x3 : Int) (x12 : Bool) : Option (Bool) := lim (fun k => spec_l01Irreducible.j0 k x0 x3 x12)
theorem spec_l01Irreducible.j0lim (x0 : Int) (x3 : Int) (x12 : Bool) : IsLim (fun k => spec_l01Irreducible.j0 k x0 x3 x12) (spec_l01Irreducible.j0d x0 x3 x12) := lim_spec (fun k => (spec_l01Irreducible.mono_l k).1 x0 x3 x12)
noncomputable def spec_l01Irreducible.l0d (x0 : Int) (x3 : Int) (x4 : Int) : Option (Bool) := lim (fun k => spec_l01Irreducible.l0 k x0 x3 x4)
theorem spec_l01Irreducible.l0lim (x0 : Int) (x3 : Int) (x4 : Int) : IsLim (fun k => spec_l01Irreducible.l0 k x0 x3 x4) (spec_l01Irreducible.l0d x0 x3 x4) := lim_spec (fun k => (spec_l01Irreducible.mono_l k).2 x0 x3 x4)
theorem spec_l01Irreducible.j0d_eq (x0 : Int) (x3 : Int) (x12 : Bool) : spec_l01Irreducible.j0d x0 x3 x12 = if x12 = true then (some false) else (spec_l01Irreducible.l0d x0 x3 2) := by
  refine IsLim.unique (spec_l01Irreducible.j0lim _ _ _) ?_
  refine IsLim.shift (by rfl) ?_
  show IsLim (fun k => if x12 = true then (some false) else (spec_l01Irreducible.l0 k x0 x3 2)) _
  repeat' (first | exact IsLim.const _ | refine IsLim.ite ?_ ?_ | refine IsLim.bind ?_ (fun _ => ?_) | exact spec_l01Irreducible.l0lim ..)
theorem spec_l01Irreducible.l0d_eq (x0 : Int) (x3 : Int) (x4 : Int) : spec_l01Irreducible.l0d x0 x3 x4 = (spec_l01Degree.d x4).bind fun t105 => (if t105 < x3 then ((spec_l01Rest.d x0 x4).bind fun t106 => (if t106 = 0 then (some false) else (spec_l01Irreducible.l0d x0 x3 (wrap64 (x4 + 1))))) else (some true)) := by
  refine IsLim.unique (spec_l01Irreducible.l0lim _ _ _) ?_
  refine IsLim.shift (by rfl) ?_
  show IsLim (fun k => (spec_l01Degree.f k x4).bind fun t105 => (if t105 < x3 then ((spec_l01Rest.f k x0 x4).bind fun t106 => (if t106 = 0 then (some false) else (spec_l01Irreducible.l0 k x0 x3 (wrap64 (x4 + 1))))) else (some true))) _
  repeat' (first | exact IsLim.const _ | refine IsLim.ite ?_ ?_ | refine IsLim.bind ?_ (fun _ => ?_) | exact spec_l01Degree.lim .. | exact spec_l01Rest.lim .. | exact spec_l01Irreducible.l0lim ..)
noncomputable def spec_l01Irreducible.d (a0 : Int) : Option (Bool) := lim (fun k => spec_l01Irreducible.f k a0)
theorem spec_l01Irreducible.lim (a0 : Int) : IsLim (fun k => spec_l01Irreducible.f k a0) (spec_l01Irreducible.d a0) := lim_spec (fun k => spec_l01Irreducible.mono a0 k)
theorem spec_l01Irreducible.d_eq (a0 : Int) : spec_l01Irreducible.d a0 = (spec_l01Degree.d a0).bind fun t104 => (if t104 < 1 then (spec_l01Irreducible.j0d a0 t104 true) else (spec_l01Irreducible.j0d a0 t104 (decide (t104 > 5)))) := by
  refine IsLim.unique (spec_l01Irreducible.lim _) ?_
  unfold spec_l01Irreducible.f
  repeat' (first | exact IsLim.const _ | refine IsLim.ite ?_ ?_ | refine IsLim.bind ?_ (fun _ => ?_) | exact spec_l01Degree.lim .. | exact spec_l01Irreducible.j0lim ..)
noncomputable def spec_IsIrreducible.d (a0 : Int) : Option (Bool) := lim (fun k => spec_IsIrreducible.f k a0)
theorem spec_IsIrreducible.lim (a0 : Int) : IsLim (fun k => spec_IsIrreducible.f k a0) (spec_IsIrreducible.d a0) := lim_spec (fun k => spec_IsIrreducible.mono a0 k)
theorem spec_IsIrreducible.d_eq (a0 : Int) : spec_IsIrreducible.d a0 = if a0 > 0 then (if a0 < 64 then ((spec_l01Irreducible.d a0).bind fun t107 => (some t107)) else (some false)) else (some false) := by
  refine IsLim.unique (spec_IsIrreducible.lim _) ?_
  unfold spec_IsIrreducible.f
  repeat' (first | exact IsLim.const _ | refine IsLim.ite ?_ ?_ | refine IsLim.bind ?_ (fun _ => ?_) | exact spec_l01Irreducible.lim ..)
noncomputable def spec_l01Ok.d (a0_0 : Int) (a0_1 : Int) : Option (Bool) := lim (fun k => spec_l01Ok.f k a0_0 a0_1)
theorem spec_l01Ok.lim (a0_0 : Int) (a0_1 : Int) : IsLim (fun k => spec_l01Ok.f k a0_0 a0_1) (spec_l01Ok.d a0_0 a0_1) := lim_spec (fun k => spec_l01Ok.mono a0_0 a0_1 k)
theorem spec_l01Ok.d_eq (a0_0 : Int) (a0_1 : Int) : spec_l01Ok.d a0_0 a0_1 = (spec_l00In.f a0_0 1 5).bind fun t109 => (if t109 = true then ((spec_IsIrreducible.d a0_1).bind fun t110 => (if t110 = true then ((spec_l01Degree.d a0_1).bind fun t111 => (some (t111 == a0_0))) else (some false))) else (some false)) := by
  refine IsLim.unique (spec_l01Ok.lim _ _) ?_
  unfold spec_l01Ok.f
  repeat' (first | exact IsLim.const _ | refine IsLim.ite ?_ ?_ | refine IsLim.bind ?_ (fun _ => ?_) | exact spec_IsIrreducible.lim .. | exact spec_l01Degree.lim ..)
end Go.Proofs.Ytngiionckbmkmaa.P
