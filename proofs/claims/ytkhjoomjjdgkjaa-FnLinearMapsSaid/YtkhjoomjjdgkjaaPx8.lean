/- Functions of the program and what they tell, as the printing program wrote it. -/
import Derived.Test.YtkhjoomjjdgkjaaPx0
import Derived.Test.YtkhjoomjjdgkjaaPx3
import Derived.Test.YtkhjoomjjdgkjaaPx4
import Derived.Test.YtkhjoomjjdgkjaaPx5
namespace Go.Proofs.Ytkhjoomjjdgkjaa.P
open Go.Shelf Go.RowKit Go.Proofs.YtkhjoomjjdgkjaaW.PrintWords Go.Proofs.YtkhjoomjjdgkjaaW.PrintLast Go.Proofs.YtkhjoomjjdgkjaaW.PrintMore
attribute [local go_sem] max2_int min2_int max_two min_two max_three min_three max_four min_four
set_option linter.unusedVariables false
set_option linter.unusedSimpArgs false
set_option maxHeartbeats 8000000
set_option maxRecDepth 100000
def impl_Field_power.l0 : Nat → Int → Int → Int → Int → Int → Option (Int)
  | 0, _, _, _, _, _ => none
  | k + 1, x1, x2, x7, x289000, x289001 => if x2 > 0 then (if (Go.bits .and .i64 x2 1) = 1 then ((impl_Field_mul.f k x289000 x289001 x7 x1).bind fun t289 => ((impl_Field_mul.f k x289000 x289001 x1 x1).bind fun t290 => (impl_Field_power.l0 k t290 (x2 / 2) t289 x289000 x289001))) else ((impl_Field_mul.f k x289000 x289001 x1 x1).bind fun t291 => (impl_Field_power.l0 k t291 (x2 / 2) x7 x289000 x289001))) else (some x7)
def impl_Field_power.f (k : Nat) (a0_0 : Int) (a0_1 : Int) (a1 : Int) (a2 : Int) : Option (Int) := impl_Field_power.l0 k a1 a2 1 a0_0 a0_1
theorem impl_Field_power.mono_l : ∀ k, (∀ y0 y1 y2 y3 y4, LeO (impl_Field_power.l0 k y0 y1 y2 y3 y4) (impl_Field_power.l0 (k + 1) y0 y1 y2 y3 y4))
 | 0 => fun _ _ _ _ _ r h => by simp [impl_Field_power.l0] at h
 | k + 1 => by
  have ih0 := impl_Field_power.mono_l k
  ·intro y0 y1 y2 y3 y4
   unfold impl_Field_power.l0
   repeat' first
   | (with_reducible first | apply ih0 | apply impl_Field_mul.mono | exact LeO.refl _ | exact LeO.none _ | refine LeO.ite ?_ ?_ | refine LeO.bind ?_ (fun _ => ?_))
   | exact LeO.none _
   | refine LeO.ite ?_ ?_
   | refine LeO.bind ?_ (fun _ => ?_)
theorem impl_Field_power.mono : ∀ a0 a1 a2 a3 k, LeO (impl_Field_power.f k a0 a1 a2 a3) (impl_Field_power.f (k + 1) a0 a1 a2 a3) := by
 intro a0 a1 a2 a3 k
 have ih0 := impl_Field_power.mono_l k
 unfold impl_Field_power.f
 repeat' first
  | (with_reducible first | apply ih0 | apply impl_Field_mul.mono | exact LeO.refl _ | exact LeO.none _ | refine LeO.ite ?_ ?_ | refine LeO.bind ?_ (fun _ => ?_))
  | exact LeO.none _
  | refine LeO.ite ?_ ?_
  | refine LeO.bind ?_ (fun _ => ?_)
def impl_Field_inverse.f (k : Nat) (a0_0 : Int) (a0_1 : Int) (a1 : Int) : Option (Int) := (impl_Field_count.f a0_0 a0_1).bind fun t293 => ((impl_Field_power.f k a0_0 a0_1 a1 (wrap64 (t293 - 2))).bind fun t294 => (some t294))
theorem impl_Field_inverse.mono : ∀ a0 a1 a2 k, LeO (impl_Field_inverse.f k a0 a1 a2) (impl_Field_inverse.f (k + 1) a0 a1 a2) := by
 intro a0 a1 a2 k
 unfold impl_Field_inverse.f
 repeat' first
  | (with_reducible first | apply impl_Field_power.mono | exact LeO.refl _ | exact LeO.none _ | refine LeO.ite ?_ ?_ | refine LeO.bind ?_ (fun _ => ?_))
  | exact LeO.none _
  | refine LeO.ite ?_ ?_
  | refine LeO.bind ?_ (fun _ => ?_)
def impl_Field_root.f (k : Nat) (a0_0 : Int) (a0_1 : Int) (a1 : Int) (a2 : Int) : Option (Int) := if a0_0 = 0 then (none) else ((impl_Field_square.f k a0_0 a0_1 a1 (Int.tmod (wrap64 (a0_0 - (Int.tmod a2 a0_0))) a0_0)).bind fun t296 => (some t296))
theorem impl_Field_root.mono : ∀ a0 a1 a2 a3 k, LeO (impl_Field_root.f k a0 a1 a2 a3) (impl_Field_root.f (k + 1) a0 a1 a2 a3) := by
 intro a0 a1 a2 a3 k
 unfold impl_Field_root.f
 repeat' first
  | (with_reducible first | apply impl_Field_square.mono | exact LeO.refl _ | exact LeO.none _ | refine LeO.ite ?_ ?_ | refine LeO.bind ?_ (fun _ => ?_))
  | exact LeO.none _
  | refine LeO.ite ?_ ?_
  | refine LeO.bind ?_ (fun _ => ?_)
end Go.Proofs.Ytkhjoomjjdgkjaa.P
