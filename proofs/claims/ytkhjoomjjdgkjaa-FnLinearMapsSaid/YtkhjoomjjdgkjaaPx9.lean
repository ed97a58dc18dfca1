/- Functions of the program and what they tell, as the printing program wrote it. -/
import Derived.Test.YtkhjoomjjdgkjaaPx0
import Derived.Test.YtkhjoomjjdgkjaaPx4
import Derived.Test.YtkhjoomjjdgkjaaPx5
import Derived.Test.YtkhjoomjjdgkjaaPx6
import Derived.Test.YtkhjoomjjdgkjaaPx7
import Derived.Test.YtkhjoomjjdgkjaaPx8
namespace Go.Proofs.Ytkhjoomjjdgkjaa.P
open Go.Shelf Go.RowKit Go.Proofs.YtkhjoomjjdgkjaaW.PrintWords Go.Proofs.YtkhjoomjjdgkjaaW.PrintLast Go.Proofs.YtkhjoomjjdgkjaaW.PrintMore
attribute [local go_sem] max2_int min2_int max_two min_two max_three min_three max_four min_four
set_option linter.unusedVariables false
set_option linter.unusedSimpArgs false
set_option maxHeartbeats 8000000
set_option maxRecDepth 100000
def impl_Field_divide.l0 : Nat → List Int → Bool → List Int → List Int → Int → Int → Int → Option (List Int × List Int)
  | 0, _, _, _, _, _, _, _ => none
  | k + 1, x2, x3, x10, x11, x12, x298000, x298001 => if (x11.length : Int) ≥ (x2.length : Int) then (if 0 ≤ (wrap64 ((wrap64 ((x11.length : Int) - (x2.length : Int))) + 1)) then (if (wrap64 ((wrap64 ((x11.length : Int) - (x2.length : Int))) + 1) : Int).toNat ≤ 35184372088832 then ((some (List.replicate (wrap64 ((wrap64 ((x11.length : Int) - (x2.length : Int))) + 1) : Int).toNat 0 : List Int)).bind fun y304 => (if 0 ≤ (wrap64 ((x11.length : Int) - 1)) then (if (wrap64 ((x11.length : Int) - 1)) < (x11.length : Int) then (if x3 = true then (if 0 ≤ x12 then (if x12 < (x2.length : Int) then ((impl_Field_square.f k x298000 x298001 (rd x2 x12) (wrap64 ((x11.length : Int) - (x2.length : Int)))).bind fun t309 => ((impl_Field_inverse.f k x298000 x298001 t309).bind fun t310 => ((impl_Field_mul.f k x298000 x298001 (rd x11 (wrap64 ((x11.length : Int) - 1))) t310).bind fun t311 => (if 0 ≤ (wrap64 ((x11.length : Int) - (x2.length : Int))) then (if (wrap64 ((x11.length : Int) - (x2.length : Int))) < (y304.length : Int) then ((some (y304.set ((wrap64 ((x11.length : Int) - (x2.length : Int))) : Int).toNat t311 : List Int)).bind fun y312 => ((impl_Field_compose.f k x298000 x298001 y312 x2).bind fun t313 => ((impl_plus.f k x11 t313).bind fun t316 => ((impl_plus.f k x10 y312).bind fun t319 => (impl_Field_divide.l0 k x2 x3 t319 t316 x12 x298000 x298001))))) else (none)) else (none))))) else (none)) else (none)) else (if 0 ≤ x12 then (if x12 < (x2.length : Int) then ((impl_Field_inverse.f k x298000 x298001 (rd x2 x12)).bind fun t323 => ((impl_Field_mul.f k x298000 x298001 (rd x11 (wrap64 ((x11.length : Int) - 1))) t323).bind fun t324 => ((impl_Field_root.f k x298000 x298001 t324 x12).bind fun t325 => (if 0 ≤ (wrap64 ((x11.length : Int) - (x2.length : Int))) then (if (wrap64 ((x11.length : Int) - (x2.length : Int))) < (y304.length : Int) then ((some (y304.set ((wrap64 ((x11.length : Int) - (x2.length : Int))) : Int).toNat t325 : List Int)).bind fun y326 => ((impl_Field_compose.f k x298000 x298001 x2 y326).bind fun t327 => ((impl_plus.f k x11 t327).bind fun t330 => ((impl_plus.f k x10 y326).bind fun t333 => (impl_Field_divide.l0 k x2 x3 t333 t330 x12 x298000 x298001))))) else (none)) else (none))))) else (none)) else (none))) else (none)) else (none))) else (none)) else (none)) else (some (x10, x11))
theorem impl_Field_divide.mono_l : ∀ k, (∀ y0 y1 y2 y3 y4 y5 y6, LeO (impl_Field_divide.l0 k y0 y1 y2 y3 y4 y5 y6) (impl_Field_divide.l0 (k + 1) y0 y1 y2 y3 y4 y5 y6))
 | 0 => fun _ _ _ _ _ _ _ r h => by simp [impl_Field_divide.l0] at h
 | k + 1 => by
  have ih0 := impl_Field_divide.mono_l k
  ·intro y0 y1 y2 y3 y4 y5 y6
   unfold impl_Field_divide.l0
   repeat' first
   | (with_reducible first | apply ih0 | apply impl_Field_compose.mono | apply impl_Field_inverse.mono | apply impl_Field_mul.mono | apply impl_Field_root.mono | apply impl_Field_square.mono | apply impl_plus.mono | exact LeO.refl _ | exact LeO.none _ | refine LeO.ite ?_ ?_ | refine LeO.bind ?_ (fun _ => ?_))
   | exact LeO.none _
   | refine LeO.ite ?_ ?_
   | refine LeO.bind ?_ (fun _ => ?_)
end Go.Proofs.Ytkhjoomjjdgkjaa.P
