/- Functions of the program and what they tell, as the printing program wrote it. -/
import Derived.Test.YtkhjoomjjdgkjaaPx0
import Derived.Test.YtkhjoomjjdgkjaaPx1
import Derived.Test.YtkhjoomjjdgkjaaPx2
namespace Go.Proofs.Ytkhjoomjjdgkjaa.P
open Go.Shelf Go.RowKit Go.Proofs.YtkhjoomjjdgkjaaW.PrintWords Go.Proofs.YtkhjoomjjdgkjaaW.PrintLast Go.Proofs.YtkhjoomjjdgkjaaW.PrintMore
attribute [local go_sem] max2_int min2_int max_two min_two max_three min_three max_four min_four
set_option linter.unusedVariables false
set_option linter.unusedSimpArgs false
set_option maxHeartbeats 8000000
set_option maxRecDepth 100000
def spec_l01Mul.l0 : Nat → Int → Int → Int → Int → Int → Int → Option (Int)
  | 0, _, _, _, _, _, _ => none
  | k + 1, x1, x2, x7, x8, x133000, x133001 => if x8 < x133000 then (if 0 ≤ (IntKind.u64.wrap (x8)) then (if (Go.bits .and .i64 (shr .i64 x2 (IntKind.u64.wrap (x8))) 1) = 1 then (spec_l01Mul.l0 k x1 x2 (Go.bits .xor .i64 x7 (shl .i64 x1 (IntKind.u64.wrap (x8)))) (wrap64 (x8 + 1)) x133000 x133001) else (spec_l01Mul.l0 k x1 x2 x7 (wrap64 (x8 + 1)) x133000 x133001)) else (none)) else ((spec_l01Rest.f k x7 x133001).bind fun t133 => (some t133))
def spec_l01Mul.f (k : Nat) (a0_0 : Int) (a0_1 : Int) (a1 : Int) (a2 : Int) : Option (Int) := spec_l01Mul.l0 k a1 a2 0 0 a0_0 a0_1
theorem spec_l01Mul.mono_l : ∀ k, (∀ y0 y1 y2 y3 y4 y5, LeO (spec_l01Mul.l0 k y0 y1 y2 y3 y4 y5) (spec_l01Mul.l0 (k + 1) y0 y1 y2 y3 y4 y5))
 | 0 => fun _ _ _ _ _ _ r h => by simp [spec_l01Mul.l0] at h
 | k + 1 => by
  have ih0 := spec_l01Mul.mono_l k
  ·intro y0 y1 y2 y3 y4 y5
   unfold spec_l01Mul.l0
   repeat' first
   | (with_reducible first | apply ih0 | apply spec_l01Rest.mono | exact LeO.refl _ | exact LeO.none _ | refine LeO.ite ?_ ?_ | refine LeO.bind ?_ (fun _ => ?_))
   | exact LeO.none _
   | refine LeO.ite ?_ ?_
   | refine LeO.bind ?_ (fun _ => ?_)
theorem spec_l01Mul.mono : ∀ a0 a1 a2 a3 k, LeO (spec_l01Mul.f k a0 a1 a2 a3) (spec_l01Mul.f (k + 1) a0 a1 a2 a3) := by
 intro a0 a1 a2 a3 k
 have ih0 := spec_l01Mul.mono_l k
 unfold spec_l01Mul.f
 repeat' first
  | (with_reducible first | apply ih0 | apply spec_l01Rest.mono | exact LeO.refl _ | exact LeO.none _ | refine LeO.ite ?_ ?_ | refine LeO.bind ?_ (fun _ => ?_))
  | exact LeO.none _
  | refine LeO.ite ?_ ?_
  | refine LeO.bind ?_ (fun _ => ?_)
def spec_l01Square.l0 : Nat → Int → Int → Int → Int → Option (Int)
  | 0, _, _, _, _ => none
  | k + 1, x1, x2, x140000, x140001 => if x2 > 0 then ((spec_l01Mul.f k x140000 x140001 x1 x1).bind fun t140 => (spec_l01Square.l0 k t140 (wrap64 (x2 - 1)) x140000 x140001)) else (some x1)
def spec_l01Square.f (k : Nat) (a0_0 : Int) (a0_1 : Int) (a1 : Int) (a2 : Int) : Option (Int) := if a0_0 = 0 then (none) else (spec_l01Square.l0 k a1 (Int.tmod a2 a0_0) a0_0 a0_1)
theorem spec_l01Square.mono_l : ∀ k, (∀ y0 y1 y2 y3, LeO (spec_l01Square.l0 k y0 y1 y2 y3) (spec_l01Square.l0 (k + 1) y0 y1 y2 y3))
 | 0 => fun _ _ _ _ r h => by simp [spec_l01Square.l0] at h
 | k + 1 => by
  have ih0 := spec_l01Square.mono_l k
  ·intro y0 y1 y2 y3
   unfold spec_l01Square.l0
   repeat' first
   | (with_reducible first | apply ih0 | apply spec_l01Mul.mono | exact LeO.refl _ | exact LeO.none _ | refine LeO.ite ?_ ?_ | refine LeO.bind ?_ (fun _ => ?_))
   | exact LeO.none _
   | refine LeO.ite ?_ ?_
   | refine LeO.bind ?_ (fun _ => ?_)
theorem spec_l01Square.mono : ∀ a0 a1 a2 a3 k, LeO (spec_l01Square.f k a0 a1 a2 a3) (spec_l01Square.f (k + 1) a0 a1 a2 a3) := by
 intro a0 a1 a2 a3 k
 have ih0 := spec_l01Square.mono_l k
 unfold spec_l01Square.f
 repeat' first
  | (with_reducible first | apply ih0 | apply spec_l01Mul.mono | exact LeO.refl _ | exact LeO.none _ | refine LeO.ite ?_ ?_ | refine LeO.bind ?_ (fun _ => ?_))
  | exact LeO.none _
  | refine LeO.ite ?_ ?_
  | refine LeO.bind ?_ (fun _ => ?_)
mutual
def spec_l03Sum.l0 : Nat → List Int → List Int → Option (List Int)
  | 0, _, _ => none
  | k + 1, x1, x5 => if (x5.length : Int) < (x1.length : Int) then (if x5.length < 17592186044416 then (spec_l03Sum.l0 k x1 (x5 ++ [0])) else (none)) else (spec_l03Sum.l1 k x1 x5 0)
def spec_l03Sum.l1 : Nat → List Int → List Int → Int → Option (List Int)
  | 0, _, _, _ => none
  | k + 1, x1, x5, x6 => if x6 < (x1.length : Int) then (if 0 ≤ x6 then (if x6 < (x5.length : Int) then (spec_l03Sum.l1 k x1 (x5.set (x6 : Int).toNat (Go.bits .xor .i64 (rd x5 x6) (rd x1 x6))) (wrap64 (x6 + 1))) else (none)) else (none)) else ((spec_l03Trim.f k x5).bind fun t163 => (some t163))
end
def spec_l03Sum.f (k : Nat) (l0 : List Int) (l1 : List Int) : Option (List Int) := (spec_l00Own.f l0).bind fun t154 => (spec_l03Sum.l0 k l1 t154)
theorem spec_l03Sum.mono_l : ∀ k, (∀ y0 y1, LeO (spec_l03Sum.l0 k y0 y1) (spec_l03Sum.l0 (k + 1) y0 y1)) ∧ (∀ y0 y1 y2, LeO (spec_l03Sum.l1 k y0 y1 y2) (spec_l03Sum.l1 (k + 1) y0 y1 y2))
 | 0 => ⟨fun _ _ r h => by simp [spec_l03Sum.l0] at h, fun _ _ _ r h => by simp [spec_l03Sum.l1] at h⟩
 | k + 1 => by
  obtain ⟨ih0, ih1⟩ := spec_l03Sum.mono_l k
  refine ⟨?_, ?_⟩ <;> intros <;> first | unfold spec_l03Sum.l0 | unfold spec_l03Sum.l1
  all_goals repeat' first
   | (with_reducible first | apply ih0 | apply ih1 | apply spec_l03Trim.mono | exact LeO.refl _ | exact LeO.none _ | refine LeO.ite ?_ ?_ | refine LeO.bind ?_ (fun _ => ?_))
   | exact LeO.none _
   | refine LeO.ite ?_ ?_
   | refine LeO.bind ?_ (fun _ => ?_)
theorem spec_l03Sum.mono : ∀ a0 a1 k, LeO (spec_l03Sum.f k a0 a1) (spec_l03Sum.f (k + 1) a0 a1) := by
 intro a0 a1 k
 obtain ⟨ih0, ih1⟩ := spec_l03Sum.mono_l k
 unfold spec_l03Sum.f
 repeat' first
  | (with_reducible first | apply ih0 | apply ih1 | apply spec_l03Trim.mono | exact LeO.refl _ | exact LeO.none _ | refine LeO.ite ?_ ?_ | refine LeO.bind ?_ (fun _ => ?_))
  | exact LeO.none _
  | refine LeO.ite ?_ ?_
  | refine LeO.bind ?_ (fun _ => ?_)
end Go.Proofs.Ytkhjoomjjdgkjaa.P
