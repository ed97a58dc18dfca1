/- Functions of the program and what they tell, as the printing program wrote it. -/
import Derived.Test.YtkhjoomjjdgkjaaPx0
import Derived.Test.YtkhjoomjjdgkjaaPx2
import Derived.Test.YtkhjoomjjdgkjaaPx10
namespace Go.Proofs.Ytkhjoomjjdgkjaa.P
open Go.Shelf Go.RowKit Go.Proofs.YtkhjoomjjdgkjaaW.PrintWords Go.Proofs.YtkhjoomjjdgkjaaW.PrintLast Go.Proofs.YtkhjoomjjdgkjaaW.PrintMore
attribute [local go_sem] max2_int min2_int max_two min_two max_three min_three max_four min_four
set_option linter.unusedVariables false
set_option linter.unusedSimpArgs false
set_option maxHeartbeats 8000000
set_option maxRecDepth 100000
mutual
def spec_l03Compose.j0 : Nat → List Int → List Int → Bool → Int → Int → Option (List Int)
  | 0, _, _, _, _, _ => none
  | k + 1, x1, x2, x17, x167000, x167001 => if x17 = true then (some (([] : List Int))) else (if 0 ≤ (wrap64 ((wrap64 ((x1.length : Int) + (x2.length : Int))) - 1)) then (if (wrap64 ((wrap64 ((x1.length : Int) + (x2.length : Int))) - 1) : Int).toNat ≤ 35184372088832 then (spec_l03Compose.l0 k x1 x2 (List.replicate (wrap64 ((wrap64 ((x1.length : Int) + (x2.length : Int))) - 1) : Int).toNat 0) 0 x167000 x167001) else (none)) else (none))
def spec_l03Compose.l0 : Nat → List Int → List Int → List Int → Int → Int → Int → Option (List Int)
  | 0, _, _, _, _, _, _ => none
  | k + 1, x1, x2, x7, x8, x167000, x167001 => if x8 < (x1.length : Int) then (spec_l03Compose.l1 k x1 x2 x7 x8 0 x167000 x167001) else ((spec_l03Trim.f k x7).bind fun t173 => (some t173))
def spec_l03Compose.l1 : Nat → List Int → List Int → List Int → Int → Int → Int → Int → Option (List Int)
  | 0, _, _, _, _, _, _, _ => none
  | k + 1, x1, x2, x7, x8, x9, x167000, x167001 => if x9 < (x2.length : Int) then (if 0 ≤ (wrap64 (x8 + x9)) then (if (wrap64 (x8 + x9)) < (x7.length : Int) then (if 0 ≤ x8 then (if x8 < (x1.length : Int) then (if 0 ≤ x9 then ((spec_l01Square.f k x167000 x167001 (rd x2 x9) x8).bind fun t179 => ((spec_l01Mul.f k x167000 x167001 (rd x1 x8) t179).bind fun t180 => (spec_l03Compose.l1 k x1 x2 (x7.set ((wrap64 (x8 + x9)) : Int).toNat (Go.bits .xor .i64 (rd x7 (wrap64 (x8 + x9))) t180)) x8 (wrap64 (x9 + 1)) x167000 x167001))) else (none)) else (none)) else (none)) else (none)) else (none)) else (spec_l03Compose.l0 k x1 x2 x7 (wrap64 (x8 + 1)) x167000 x167001)
end
def spec_l03Compose.f (k : Nat) (a0_0 : Int) (a0_1 : Int) (l1 : List Int) (l2 : List Int) : Option (List Int) := if (l1.length : Int) = 0 then (spec_l03Compose.j0 k l1 l2 true a0_0 a0_1) else (spec_l03Compose.j0 k l1 l2 ((l2.length : Int) == 0) a0_0 a0_1)
theorem spec_l03Compose.mono_l : ∀ k, (∀ y0 y1 y2 y3 y4, LeO (spec_l03Compose.j0 k y0 y1 y2 y3 y4) (spec_l03Compose.j0 (k + 1) y0 y1 y2 y3 y4)) ∧ (∀ y0 y1 y2 y3 y4 y5, LeO (spec_l03Compose.l0 k y0 y1 y2 y3 y4 y5) (spec_l03Compose.l0 (k + 1) y0 y1 y2 y3 y4 y5)) ∧ (∀ y0 y1 y2 y3 y4 y5 y6, LeO (spec_l03Compose.l1 k y0 y1 y2 y3 y4 y5 y6) (spec_l03Compose.l1 (k + 1) y0 y1 y2 y3 y4 y5 y6))
 | 0 => ⟨fun _ _ _ _ _ r h => by simp [spec_l03Compose.j0] at h, fun _ _ _ _ _ _ r h => by simp [spec_l03Compose.l0] at h, fun _ _ _ _ _ _ _ r h => by simp [spec_l03Compose.l1] at h⟩
 | k + 1 => by
  obtain ⟨ih0, ih1, ih2⟩ := spec_l03Compose.mono_l k
  refine ⟨?_, ?_, ?_⟩ <;> intros <;> first | unfold spec_l03Compose.j0 | unfold spec_l03Compose.l0 | unfold spec_l03Compose.l1
  all_goals repeat' first
   | (with_reducible first | apply ih0 | apply ih1 | apply ih2 | apply spec_l01Mul.mono | apply spec_l01Square.mono | apply spec_l03Trim.mono | exact LeO.refl _ | exact LeO.none _ | refine LeO.ite ?_ ?_ | refine LeO.bind ?_ (fun _ => ?_))
   | exact LeO.none _
   | refine LeO.ite ?_ ?_
   | refine LeO.bind ?_ (fun _ => ?_)
theorem spec_l03Compose.mono : ∀ a0 a1 a2 a3 k, LeO (spec_l03Compose.f k a0 a1 a2 a3) (spec_l03Compose.f (k + 1) a0 a1 a2 a3) := by
 intro a0 a1 a2 a3 k
 obtain ⟨ih0, ih1, ih2⟩ := spec_l03Compose.mono_l k
 unfold spec_l03Compose.f
 repeat' first
  | (with_reducible first | apply ih0 | apply ih1 | apply ih2 | apply spec_l01Mul.mono | apply spec_l01Square.mono | apply spec_l03Trim.mono | exact LeO.refl _ | exact LeO.none _ | refine LeO.ite ?_ ?_ | refine LeO.bind ?_ (fun _ => ?_))
  | exact LeO.none _
  | refine LeO.ite ?_ ?_
  | refine LeO.bind ?_ (fun _ => ?_)
end Go.Proofs.Ytkhjoomjjdgkjaa.P
