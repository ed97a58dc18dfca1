/- Functions of the program and what they tell, as the printing program wrote it. -/
import Derived.Test.YthjfilmdobkmlaaPx0
import Derived.Test.YthjfilmdobkmlaaPx4
import Derived.Test.YthjfilmdobkmlaaPx7
import Derived.Test.YthjfilmdobkmlaaPx9
import Derived.Test.YthjfilmdobkmlaaPx13
import Derived.Test.YthjfilmdobkmlaaPx15
import Derived.Test.YthjfilmdobkmlaaPx17
import Derived.Test.YthjfilmdobkmlaaPx18
import Derived.Test.YthjfilmdobkmlaaPx19
namespace Go.Proofs.Ythjfilmdobkmlaa.P
open Go.Shelf Go.RowKit Go.Proofs.YthjfilmdobkmlaaW.PrintWords Go.Proofs.YthjfilmdobkmlaaW.PrintLast Go.Proofs.YthjfilmdobkmlaaW.PrintMore
attribute [local go_sem] max2_int min2_int max_two min_two max_three min_three max_four min_four
set_option linter.unusedVariables false
set_option linter.unusedSimpArgs false
set_option maxHeartbeats 8000000
set_option maxRecDepth 100000
mutual
def laws_FnRanks.j0 : Nat → List Int → Int → Int → Bool → Int → List Int → Int → List Int → Option (Bool)
  | 0, _, _, _, _, _, _, _, _ => none
  | k + 1, x1, x5, x7, x97, x344000, x344001, x352000, x352001 => if x97 = true then (some false) else (laws_FnRanks.l0 k x1 x5 x7 0 x344000 x344001 x352000 x352001)
def laws_FnRanks.l0 : Nat → List Int → Int → Int → Int → Int → List Int → Int → List Int → Option (Bool)
  | 0, _, _, _, _, _, _, _, _ => none
  | k + 1, x1, x5, x7, x13, x344000, x344001, x352000, x352001 => if x13 < (x344001.length : Int) then (if 0 ≤ x13 then ((impl_SolveRows.f k x352000 x352001 (rd x344001 x13)).bind fun bt362 => (if bt362.2 = 0 then (if bt362.1 < 0 then (laws_FnRanks.j2 k x1 x5 x7 x13 bt362.1 true x344000 x344001 x352000 x352001) else (if 0 ≤ (IntKind.u64.wrap ((x352001.length : Int))) then (laws_FnRanks.j2 k x1 x5 x7 x13 bt362.1 (decide (bt362.1 ≥ (shl .i64 1 (IntKind.u64.wrap ((x352001.length : Int)))))) x344000 x344001 x352000 x352001) else (none))) else (laws_FnRanks.j2 k x1 x5 x7 x13 bt362.1 true x344000 x344001 x352000 x352001))) else (none)) else (laws_FnRanks.l2 k x1 x5 x7 0 x344000 x344001 x352000 x352001)
def laws_FnRanks.j2 : Nat → List Int → Int → Int → Int → Int → Bool → Int → List Int → Int → List Int → Option (Bool)
  | 0, _, _, _, _, _, _, _, _, _, _ => none
  | k + 1, x1, x5, x7, x13, x14, x129, x344000, x344001, x352000, x352001 => if x129 = true then (some false) else (laws_FnRanks.l1 k x1 x5 x7 x13 x14 0 0 x344000 x344001 x352000 x352001)
def laws_FnRanks.l1 : Nat → List Int → Int → Int → Int → Int → Int → Int → Int → List Int → Int → List Int → Option (Bool)
  | 0, _, _, _, _, _, _, _, _, _, _, _ => none
  | k + 1, x1, x5, x7, x13, x14, x16, x17, x344000, x344001, x352000, x352001 => if x17 < (x352001.length : Int) then (if 0 ≤ (IntKind.u64.wrap (x17)) then (if (Go.bits .and .i64 (shr .i64 x14 (IntKind.u64.wrap (x17))) 1) = 1 then (if 0 ≤ x17 then (laws_FnRanks.l1 k x1 x5 x7 x13 x14 (Go.bits .xor .i64 x16 (rd x352001 x17)) (wrap64 (x17 + 1)) x344000 x344001 x352000 x352001) else (none)) else (laws_FnRanks.l1 k x1 x5 x7 x13 x14 x16 (wrap64 (x17 + 1)) x344000 x344001 x352000 x352001)) else (none)) else (if 0 ≤ x13 then (if x13 < (x344001.length : Int) then (if x16 = (rd x344001 x13) then (laws_FnRanks.l0 k x1 x5 x7 (wrap64 (x13 + 1)) x344000 x344001 x352000 x352001) else (some false)) else (none)) else (none))
def laws_FnRanks.l2 : Nat → List Int → Int → Int → Int → Int → List Int → Int → List Int → Option (Bool)
  | 0, _, _, _, _, _, _, _, _ => none
  | k + 1, x1, x5, x7, x18, x344000, x344001, x352000, x352001 => if x18 < (x352001.length : Int) then (if 0 ≤ x18 then ((impl_SolveRows.f k x344000 x344001 (rd x352001 x18)).bind fun bt367 => (if bt367.2 = 0 then (laws_FnRanks.l2 k x1 x5 x7 (wrap64 (x18 + 1)) x344000 x344001 x352000 x352001) else (some false))) else (none)) else (if (x344001.length : Int) = 0 then (some (x7 == 0)) else ((impl_TurnMatrix.f k x344000 x344001).bind fun bt369 => ((impl_RankOf.f k bt369.1 bt369.2.1).bind fun bt375 => (laws_FnRanks.l3 k x1 x5 x7 bt369.2.2 bt375.1 bt375.2 0 x344000 x344001 x5 ([] : List Int)))))
def laws_FnRanks.l3 : Nat → List Int → Int → Int → Int → Int → Int → Int → Int → List Int → Int → List Int → Option (Bool)
  | 0, _, _, _, _, _, _, _, _, _, _, _ => none
  | k + 1, x1, x5, x7, x22, x23, x24, x26, x344000, x344001, x378000, x378001 => if x26 < x5 then (if 0 ≤ (IntKind.u64.wrap (x5)) then ((laws_a2At.f x1 (wrap64 (1 + x26)) (shl .i64 1 (IntKind.u64.wrap (x5)))).bind fun t378 => (if x378001.length < 17592186044416 then (laws_FnRanks.l3 k x1 x5 x7 x22 x23 x24 (wrap64 (x26 + 1)) x344000 x344001 x378000 (x378001 ++ [t378])) else (none))) else (none)) else ((impl_MulMatrices.f k x344000 x344001 x378000 x378001).bind fun bt382 => ((impl_RankOf.f k bt382.1 bt382.2.1).bind fun bt388 => ((impl_RankOf.f k x378000 x378001).bind fun bt390 => (laws_FnRanks.l4 k x1 x5 x7 x22 x23 x24 bt382.2.2 bt388.1 bt388.2 bt390.1 bt390.2 0 x344000 x344001 x5 ([] : List Int)))))
def laws_FnRanks.l4 : Nat → List Int → Int → Int → Int → Int → Int → Int → Int → Int → Int → Int → Int → Int → List Int → Int → List Int → Option (Bool)
  | 0, _, _, _, _, _, _, _, _, _, _, _, _, _, _, _, _ => none
  | k + 1, x1, x5, x7, x22, x23, x24, x28, x29, x30, x31, x32, x34, x344000, x344001, x393000, x393001 => if x34 < (x344001.length : Int) then (if 0 ≤ (IntKind.u64.wrap (x5)) then ((laws_a2At.f x1 (wrap64 (9 + x34)) (shl .i64 1 (IntKind.u64.wrap (x5)))).bind fun t393 => (if x393001.length < 17592186044416 then (laws_FnRanks.l4 k x1 x5 x7 x22 x23 x24 x28 x29 x30 x31 x32 (wrap64 (x34 + 1)) x344000 x344001 x393000 (x393001 ++ [t393])) else (none))) else (none)) else ((impl_AddMatrices.f k x344000 x344001 x393000 x393001).bind fun bt397 => ((impl_RankOf.f k bt397.1 bt397.2.1).bind fun bt403 => ((impl_RankOf.f k x393000 x393001).bind fun bt405 => (if x22 = 0 then (if x24 = 0 then (if x23 = x7 then (if x28 = 0 then (if x30 = 0 then (if x32 = 0 then (if x29 ≤ x7 then (if x29 ≤ x31 then (if bt397.2.2 = 0 then (if bt403.2 = 0 then (if bt405.2 = 0 then (some (decide (bt403.1 ≤ (wrap64 (x7 + bt405.1))))) else (some false)) else (some false)) else (some false)) else (some false)) else (some false)) else (some false)) else (some false)) else (some false)) else (some false)) else (some false)) else (some false)))))
end
def laws_FnRanks.f (k : Nat) (l0 : List Int) (l1 : List Int) : Option (Bool) := (laws_a2Long.f l0 l1).bind fun t337 => (if t337 = true then (some true) else ((laws_a2At.f l1 0 5).bind fun t338 => ((spec_A2Matrix.f k l0 (wrap64 (1 + t338)) 5).bind fun bt339 => ((impl_RankOf.f k bt339.1 bt339.2).bind fun bt344 => ((impl_EchelonOf.f k bt339.1 bt339.2).bind fun bt346 => ((impl_SpaceOf.f k bt339.1 bt339.2).bind fun bt352 => (if bt344.2 = 0 then (if bt346.2.2 = 0 then (if bt352.2.2 = 0 then ((impl_IsSpace.f k bt346.1 bt346.2.1).bind fun t358 => (if t358 = true then ((spec_IsSpace.f k bt346.1 bt346.2.1).bind fun t359 => (if t359 = true then (if (bt346.2.1.length : Int) = bt344.1 then ((spec_SameMatrix.f k bt346.1 bt346.2.1 bt352.1 bt352.2.1).bind fun t360 => (laws_FnRanks.j0 k l1 (wrap64 (1 + t338)) bt344.1 (!t360) bt339.1 bt339.2 bt346.1 bt346.2.1)) else (laws_FnRanks.j0 k l1 (wrap64 (1 + t338)) bt344.1 true bt339.1 bt339.2 bt346.1 bt346.2.1)) else (laws_FnRanks.j0 k l1 (wrap64 (1 + t338)) bt344.1 true bt339.1 bt339.2 bt346.1 bt346.2.1))) else (laws_FnRanks.j0 k l1 (wrap64 (1 + t338)) bt344.1 true bt339.1 bt339.2 bt346.1 bt346.2.1))) else (laws_FnRanks.j0 k l1 (wrap64 (1 + t338)) bt344.1 true bt339.1 bt339.2 bt346.1 bt346.2.1)) else (laws_FnRanks.j0 k l1 (wrap64 (1 + t338)) bt344.1 true bt339.1 bt339.2 bt346.1 bt346.2.1)) else (laws_FnRanks.j0 k l1 (wrap64 (1 + t338)) bt344.1 true bt339.1 bt339.2 bt346.1 bt346.2.1))))))))
theorem laws_FnRanks.mono_l : ∀ k, (∀ y0 y1 y2 y3 y4 y5 y6 y7, LeO (laws_FnRanks.j0 k y0 y1 y2 y3 y4 y5 y6 y7) (laws_FnRanks.j0 (k + 1) y0 y1 y2 y3 y4 y5 y6 y7)) ∧ (∀ y0 y1 y2 y3 y4 y5 y6 y7, LeO (laws_FnRanks.l0 k y0 y1 y2 y3 y4 y5 y6 y7) (laws_FnRanks.l0 (k + 1) y0 y1 y2 y3 y4 y5 y6 y7)) ∧ (∀ y0 y1 y2 y3 y4 y5 y6 y7 y8 y9, LeO (laws_FnRanks.j2 k y0 y1 y2 y3 y4 y5 y6 y7 y8 y9) (laws_FnRanks.j2 (k + 1) y0 y1 y2 y3 y4 y5 y6 y7 y8 y9)) ∧ (∀ y0 y1 y2 y3 y4 y5 y6 y7 y8 y9 y10, LeO (laws_FnRanks.l1 k y0 y1 y2 y3 y4 y5 y6 y7 y8 y9 y10) (laws_FnRanks.l1 (k + 1) y0 y1 y2 y3 y4 y5 y6 y7 y8 y9 y10)) ∧ (∀ y0 y1 y2 y3 y4 y5 y6 y7, LeO (laws_FnRanks.l2 k y0 y1 y2 y3 y4 y5 y6 y7) (laws_FnRanks.l2 (k + 1) y0 y1 y2 y3 y4 y5 y6 y7)) ∧ (∀ y0 y1 y2 y3 y4 y5 y6 y7 y8 y9 y10, LeO (laws_FnRanks.l3 k y0 y1 y2 y3 y4 y5 y6 y7 y8 y9 y10) (laws_FnRanks.l3 (k + 1) y0 y1 y2 y3 y4 y5 y6 y7 y8 y9 y10)) ∧ (∀ y0 y1 y2 y3 y4 y5 y6 y7 y8 y9 y10 y11 y12 y13 y14 y15, LeO (laws_FnRanks.l4 k y0 y1 y2 y3 y4 y5 y6 y7 y8 y9 y10 y11 y12 y13 y14 y15) (laws_FnRanks.l4 (k + 1) y0 y1 y2 y3 y4 y5 y6 y7 y8 y9 y10 y11 y12 y13 y14 y15))
 | 0 => ⟨fun _ _ _ _ _ _ _ _ r h => by simp [laws_FnRanks.j0] at h, fun _ _ _ _ _ _ _ _ r h => by simp [laws_FnRanks.l0] at h, fun _ _ _ _ _ _ _ _ _ _ r h => by simp [laws_FnRanks.j2] at h, fun _ _ _ _ _ _ _ _ _ _ _ r h => by simp [laws_FnRanks.l1] at h, fun _ _ _ _ _ _ _ _ r h => by simp [laws_FnRanks.l2] at h, fun _ _ _ _ _ _ _ _ _ _ _ r h => by simp [laws_FnRanks.l3] at h, fun _ _ _ _ _ _ _ _ _ _ _ _ _ _ _ _ r h => by simp [laws_FnRanks.l4] at h⟩
 | k + 1 => by
  obtain ⟨ih0, ih1, ih2, ih3, ih4, ih5, ih6⟩ := laws_FnRanks.mono_l k
  refine ⟨?_, ?_, ?_, ?_, ?_, ?_, ?_⟩ <;> intros <;> first | unfold laws_FnRanks.j0 | unfold laws_FnRanks.l0 | unfold laws_FnRanks.j2 | unfold laws_FnRanks.l1 | unfold laws_FnRanks.l2 | unfold laws_FnRanks.l3 | unfold laws_FnRanks.l4
  all_goals repeat' first
   | (with_reducible first | apply ih0 | apply ih1 | apply ih2 | apply ih3 | apply ih4 | apply ih5 | apply ih6 | apply impl_AddMatrices.mono | apply impl_EchelonOf.mono | apply impl_IsSpace.mono | apply impl_MulMatrices.mono | apply impl_RankOf.mono | apply impl_SolveRows.mono | apply impl_SpaceOf.mono | apply impl_TurnMatrix.mono | apply spec_A2Matrix.mono | apply spec_IsSpace.mono | apply spec_SameMatrix.mono | exact LeO.refl _ | exact LeO.none _ | refine LeO.ite ?_ ?_ | refine LeO.bind ?_ (fun _ => ?_))
   | exact LeO.none _
   | refine LeO.ite ?_ ?_
   | refine LeO.bind ?_ (fun _ => ?_)
theorem laws_FnRanks.mono : ∀ a0 a1 k, LeO (laws_FnRanks.f k a0 a1) (laws_FnRanks.f (k + 1) a0 a1) := by
 intro a0 a1 k
 obtain ⟨ih0, ih1, ih2, ih3, ih4, ih5, ih6⟩ := laws_FnRanks.mono_l k
 unfold laws_FnRanks.f
 repeat' first
  | (with_reducible first | apply ih0 | apply ih1 | apply ih2 | apply ih3 | apply ih4 | apply ih5 | apply ih6 | apply impl_AddMatrices.mono | apply impl_EchelonOf.mono | apply impl_IsSpace.mono | apply impl_MulMatrices.mono | apply impl_RankOf.mono | apply impl_SolveRows.mono | apply impl_SpaceOf.mono | apply impl_TurnMatrix.mono | apply spec_A2Matrix.mono | apply spec_IsSpace.mono | apply spec_SameMatrix.mono | exact LeO.refl _ | exact LeO.none _ | refine LeO.ite ?_ ?_ | refine LeO.bind ?_ (fun _ => ?_))
  | exact LeO.none _
  | refine LeO.ite ?_ ?_
  | refine LeO.bind ?_ (fun _ => ?_)
def laws_FnRanks.T13 : Bool × List (List Nat × List Nat) := (true, [([], []), ([], []), ([1], [1]), ([], []), ([2, 3], [2, 3]), ([4], [4]), ([0, 5], [0, 5]), ([6], [6]), ([7], [7]), ([7], [7]), ([8, 6, 0, 1, 2, 3, 4, 5, 6, 7, 8], [8]), ([9, 10, 0, 1, 2, 3, 4, 5, 6, 7, 8, 9, 10], [9])])
def laws_FnRanks.B13 : List Nat := [0, 0, 2, 0, 14, 30, 63, 127, 255, 255, 511, 2047]
theorem laws_FnRanks.tab13 : rtab .any (opsOf Try.f3 13) = laws_FnRanks.T13 := by kernel_rfl
theorem laws_FnRanks.bits13 : waitsOk laws_FnRanks.T13.2 laws_FnRanks.B13 = true := by kernel_rfl
def laws_FnRanks.T27 : Bool × List (List Nat × List Nat) := (true, [([], []), ([], []), ([1], [1]), ([], []), ([2, 3], [2, 3]), ([4], [4]), ([0, 5], [0, 5]), ([6], [6]), ([7], [7]), ([7], [7]), ([8, 6, 0, 1, 2, 3, 4, 5, 6, 7, 8], [8]), ([9, 10, 0, 1, 2, 3, 4, 5, 6, 7, 8, 9, 10], [9])])
def laws_FnRanks.B27 : List Nat := [0, 0, 2, 0, 14, 30, 63, 127, 255, 255, 511, 2047]
theorem laws_FnRanks.tab27 : rtab .any (opsOf Try.f3 27) = laws_FnRanks.T27 := by kernel_rfl
theorem laws_FnRanks.bits27 : waitsOk laws_FnRanks.T27.2 laws_FnRanks.B27 = true := by kernel_rfl
def laws_FnRanks.T38 : Bool × List (List Nat × List Nat) := (true, [([], []), ([0], [0]), ([], []), ([], []), ([3], [3]), ([], []), ([5], [5]), ([6], [6]), ([2, 4, 7], [2, 4, 7]), ([8], [8]), ([1, 9, 8], [1, 9]), ([0, 1, 2, 3, 4, 5, 6, 7, 8, 9, 10], []), ([11, 10, 10, 0, 1, 2, 3, 4, 5, 6, 7, 8, 9, 10], [10, 11])])
def laws_FnRanks.B38 : List Nat := [0, 1, 0, 0, 8, 0, 32, 96, 252, 508, 1023, 2047, 4095]
theorem laws_FnRanks.tab38 : rtab .any (opsOf Try.f3 38) = laws_FnRanks.T38 := by kernel_rfl
theorem laws_FnRanks.bits38 : waitsOk laws_FnRanks.T38.2 laws_FnRanks.B38 = true := by kernel_rfl
def laws_FnRanks.T46 : Bool × List (List Nat × List Nat) := (true, [([], []), ([0], [0]), ([], []), ([], []), ([3], [3]), ([], []), ([5], [5]), ([6], [6]), ([2, 4, 7], [2, 4, 7]), ([8], [8]), ([1, 9, 8], [1, 9]), ([0, 1, 2, 3, 4, 5, 6, 7, 8, 9, 10], []), ([11, 10, 10, 0, 1, 2, 3, 4, 5, 6, 7, 8, 9, 10], [10, 11])])
def laws_FnRanks.B46 : List Nat := [0, 1, 0, 0, 8, 0, 32, 96, 252, 508, 1023, 2047, 4095]
theorem laws_FnRanks.tab46 : rtab .any (opsOf Try.f3 46) = laws_FnRanks.T46 := by kernel_rfl
theorem laws_FnRanks.bits46 : waitsOk laws_FnRanks.T46.2 laws_FnRanks.B46 = true := by kernel_rfl
structure laws_FnRanks.W (p : Prop) : Prop where mk :: (out : p)
noncomputable def laws_FnRanks.G0 : (G0_ : Prop) ×' (G1_ : Prop) ×' (G2_ : Prop) ×' (G3_ : Prop) ×' (laws_FnRanks.W G0_ → laws_FnRanks.W G1_ → laws_FnRanks.W G2_ → laws_FnRanks.W G3_ → ∀ (k : Nat) (A0 : Option Addr) (c0 : Nat) (l0 : List Int) (A1 : Option Addr) (c1 : Nat) (l1 : List Int) (r : Bool) (w : World) (hr0 : Kd.C (Kd.int .u8) w A0 l0.length l0) (hc0 : l0.length ≤ c0) (hr1 : Kd.C (Kd.int .u8) w A1 l1.length l1) (hc1 : l1.length ≤ c1) (h : laws_FnRanks.f k l0 l1 = some r), Calls Try.prog 3 #[.slice A0 l0.length c0, .slice A1 l1.length c1] w fun e w' => e = .returned (.bool r) ∧ Below w.heap.size w w') := by
 constructor
 constructor
 constructor
 constructor
 ·intro hG0_ hG1_ hG2_ hG3_
  intro k A0 c0 l0 A1 c1 l1 r w hr0 hc0 hr1 hc1 h
  have hu27 := Try.underlying27
  have HR0 := Aq.mk hr0
  have HC0 := Aq.mk hc0
  clear hr0 hc0
  have HR1 := Aq.mk hr1
  have HC1 := Aq.mk hc1
  clear hr1 hc1
  have HB := Aq.mk (Below.refl w.heap.size w)
  have H : ((laws_a2Long.f l0 l1).bind fun t337 => (if t337 = true then (some true) else ((laws_a2At.f l1 0 5).bind fun t338 => ((spec_A2Matrix.f k l0 (wrap64 (1 + t338)) 5).bind fun bt339 => ((impl_RankOf.f k bt339.1 bt339.2).bind fun bt344 => ((impl_EchelonOf.f k bt339.1 bt339.2).bind fun bt346 => ((impl_SpaceOf.f k bt339.1 bt339.2).bind fun bt352 => (if bt344.2 = 0 then (if bt346.2.2 = 0 then (if bt352.2.2 = 0 then ((impl_IsSpace.f k bt346.1 bt346.2.1).bind fun t358 => (if t358 = true then ((spec_IsSpace.f k bt346.1 bt346.2.1).bind fun t359 => (if t359 = true then (if (bt346.2.1.length : Int) = bt344.1 then ((spec_SameMatrix.f k bt346.1 bt346.2.1 bt352.1 bt352.2.1).bind fun t360 => (laws_FnRanks.j0 k l1 (wrap64 (1 + t338)) bt344.1 (!t360) bt339.1 bt339.2 bt346.1 bt346.2.1)) else (laws_FnRanks.j0 k l1 (wrap64 (1 + t338)) bt344.1 true bt339.1 bt339.2 bt346.1 bt346.2.1)) else (laws_FnRanks.j0 k l1 (wrap64 (1 + t338)) bt344.1 true bt339.1 bt339.2 bt346.1 bt346.2.1))) else (laws_FnRanks.j0 k l1 (wrap64 (1 + t338)) bt344.1 true bt339.1 bt339.2 bt346.1 bt346.2.1))) else (laws_FnRanks.j0 k l1 (wrap64 (1 + t338)) bt344.1 true bt339.1 bt339.2 bt346.1 bt346.2.1)) else (laws_FnRanks.j0 k l1 (wrap64 (1 + t338)) bt344.1 true bt339.1 bt339.2 bt346.1 bt346.2.1)) else (laws_FnRanks.j0 k l1 (wrap64 (1 + t338)) bt344.1 true bt339.1 bt339.2 bt346.1 bt346.2.1))))))))) = some r := h
  clear h
  obtain ⟨t337, A3, H⟩ := qBd H
  by_cases c4 : t337 = true
  ·subst c4
   rw [if_pos rfl] at H
   obtain rfl := Option.some.inj H
   go_enter Try.func3, Try.ntmps3
   go_wp2_with (first | ((with_reducible refine gQc (f := 7) rfl ?_); refine goesL_ (some 43) rfl rfl Try.func7 (by kernel_rfl) rfl #[.slice A0 l0.length c0, .slice A1 l1.length c1] rfl tL ?_; (with_reducible refine (laws_a2Long.calls _ _ l0 _ _ l1 true _ ?s1 ?s2 ?s3 ?s4 A3.out).mono ?_); (case s1 => exact tC HR0.out); (case s2 => exact HC0.out); (case s3 => exact tC HR1.out); (case s4 => exact HC1.out); rintro e w' ⟨rfl, ⟨nd, rfl⟩⟩; refine ⟨_, rfl, ?_⟩))
   go_ret
   exact ⟨tE, tB⟩
  replace c4 := Bool.eq_false_iff.mpr c4
  subst c4
  rw [if_neg (show ¬ (false = true) by decide)] at H
  obtain ⟨t338, A5, H⟩ := qBd H
  obtain ⟨⟨t339, t340⟩, A6, H⟩ := qBd H
  (try dsimp only at H)
  obtain ⟨⟨t344, t345⟩, A7, H⟩ := qBd H
  (try dsimp only at H)
  obtain ⟨⟨t346, t347, t350⟩, A8, H⟩ := qBd H
  (try dsimp only at H)
  obtain ⟨⟨t352, t353, t356⟩, A9, H⟩ := qBd H
  (try dsimp only at H)
  have HC10 := Aq.mk H
  clear H
  go_enter Try.func3, Try.ntmps3
  go_upto_region 8 with (first | ((with_reducible refine gQc (f := 7) rfl ?_); refine goesL_ (some 43) rfl rfl Try.func7 (by kernel_rfl) rfl #[.slice A0 l0.length c0, .slice A1 l1.length c1] rfl tL ?_; (with_reducible refine (laws_a2Long.calls _ _ l0 _ _ l1 false _ ?s1 ?s2 ?s3 ?s4 A3.out).mono ?_); (case s1 => exact tC HR0.out); (case s2 => exact HC0.out); (case s3 => exact tC HR1.out); (case s4 => exact HC1.out); rintro e w' ⟨rfl, ⟨nd, rfl⟩⟩; refine ⟨_, rfl, ?_⟩) | ((with_reducible refine gQc (f := 8) rfl ?_); refine goesL_ (some 45) rfl rfl Try.func8 (by kernel_rfl) rfl #[.slice A1 l1.length c1, .int .i64 0, .int .i64 5] rfl tL ?_; (with_reducible refine (laws_a2At.calls _ _ l1 0 5 t338 _ ?s1 ?s2 A5.out).mono ?_); (case s1 => exact tC HR1.out); (case s2 => exact HC1.out); rintro e w' ⟨rfl, ⟨nd, rfl⟩⟩; refine ⟨_, rfl, ?_⟩) | ((with_reducible refine gQc (f := 9) rfl ?_); refine goesL_ (some 49) rfl rfl Try.func9 (by kernel_rfl) rfl #[.slice A0 l0.length c0, .int .i64 (wrap64 (1 + t338)), .int .i64 5] rfl tL ?_; (with_reducible refine (spec_A2Matrix.calls k _ _ l0 (wrap64 (1 + t338)) 5 t339 t340 _ ?s1 ?s2 A6.out).mono ?_); (case s1 => exact tC HR0.out); (case s2 => exact HC0.out); rintro e w11 ⟨v341, rfl, ho0, hb⟩; refine ⟨_, rfl, ?_⟩; refine qM2 (Kd.R_lower ho0 (bQZ tB)) (bQT tB hb) ?_; clear HB; intro HO342 HB; (try clear hb); (try clear hb2); (try clear hk); (try clear hi); (try clear ho0)) | ((with_reducible refine gQd (N := 6) rfl ?_); (try (refine gate_guard (by rfl) ?_; dsimp only)); refine xQe ?hg (N := 6) ?hd (cs := #[.int .i64 0, .slice none 0 0]) (t := 27) ?hr ?_; (case hd => rfl); (case hg => rfl); (case hr => exact tH); intro gb343 hg w12 hbox hb; refine qM5 (Kd.R_below (tR HO342.out) hb) (bQT tB hb) hbox (tZ w hg) (tZ w hg) ?_; clear HO342 HB; intro HO342 HB BK343 GW343 GE343; clear hb hbox hg; have hcz13_0 : w12.cell? ⟨gb343, 0, none⟩ = some (.int .i64 0) := (kQC BK343.out 0).trans rfl; have hcz13_1 : w12.cell? ⟨gb343, 1, none⟩ = some (.slice none 0 0) := (kQC BK343.out 1).trans rfl; have hfz13_0 := kQF BK343.out 0; have hfz13_1 := kQF BK343.out 1; obtain ⟨Ao14, co14, eo14⟩ := Kd.R_slice HO342.out; subst eo14) | ((with_reducible refine gQc (f := 10) rfl ?_); refine goesL_ (some 52) rfl rfl Try.func10 (by kernel_rfl) rfl #[.agg #[.int .i64 t339, .slice Ao14 t340.length co14]] rfl tL ?_; (with_reducible refine (impl_RankOf.calls k t339 _ _ t340 t344 t345 _ ?s1 ?s2 A7.out).mono ?_); (case s1 => refine (Kd.R_reads' (e := 2) (base := w.heap.size) (ok := fun k_ => True) (n := t340.length) (c := co14) ?_).2.2; exact (by (with_reducible repeat (first | apply Kd.RqA | apply Kd.RqN | apply Kd.RqD)); exact (Kd.R_mono (Kd.R_far (p := ⟨gb343, 1, none⟩) (Kd.R_far (p := ⟨gb343, 0, none⟩) (Kd.R_types HO342.out BK343.out (by decide)) (fun _ hk => hk.2) (.int .i64 t339)) (fun _ hk => hk.2) (.slice Ao14 t340.length co14)) (fun _ h_ => h_.1)))); (case s2 => exact (Kd.R_reads' HO342.out).2.1); rintro e w15 ⟨rfl, hb⟩; refine ⟨_, rfl, ?_⟩; refine qM3 (Kd.R_below (by (with_reducible repeat (first | apply Kd.RqA | apply Kd.RqN | apply Kd.RqD)); exact (Kd.R_mono (Kd.R_far (p := ⟨gb343, 1, none⟩) (Kd.R_far (p := ⟨gb343, 0, none⟩) (Kd.R_types HO342.out BK343.out (by decide)) (fun _ hk => hk.2) (.int .i64 t339)) (fun _ hk => hk.2) (.slice Ao14 t340.length co14)) (fun _ h_ => h_.1))) hb) (kQB (g := gb343) (o := .cells #[.int .i64 t339, .slice Ao14 t340.length co14] 27 (0, 0)) (by (with_reducible repeat (first | refine kQN ?_ _ | refine kQD ?_ | refine kQA ?_ _)); refine kQP (cs := #[.int .i64 t339, .slice none 0 0]) ?_ 1 _ rfl; (with_reducible repeat (first | refine kQN ?_ _ | refine kQD ?_ | refine kQA ?_ _)); refine kQP (cs := #[.int .i64 0, .slice none 0 0]) ?_ 0 _ rfl; (with_reducible repeat (first | refine kQN ?_ _ | refine kQD ?_ | refine kQA ?_ _)); exact BK343.out) hb) (bQT tB hb) ?_; clear HO342 BK343 HB; intro HO342 BK343 HB; (try clear hb); (try clear hb2); (try clear hk); (try clear hi); have hcz16_0 : w15.cell? ⟨gb343, 0, none⟩ = some (.int .i64 t339) := (kQC BK343.out 0).trans rfl; have hcz16_1 : w15.cell? ⟨gb343, 1, none⟩ = some (.slice Ao14 t340.length co14) := (kQC BK343.out 1).trans rfl; have hfz16_0 := kQF BK343.out 0; have hfz16_1 := kQF BK343.out 1) | ((with_reducible refine gQc (f := 11) rfl ?_); refine goesL_ (some 57) rfl rfl Try.func11 (by kernel_rfl) rfl #[.agg #[.int .i64 t339, .slice Ao14 t340.length co14]] rfl tL ?_; (with_reducible refine (impl_EchelonOf.calls k t339 _ _ t340 t346 t347 t350 _ ?s1 ?s2 A8.out).mono ?_); (case s1 => exact tC ((Kd.R_reads' HO342.out).2.2)); (case s2 => exact (Kd.R_reads' HO342.out).2.1); rintro e w17 ⟨v348, rfl, ho0, hb⟩; refine ⟨_, rfl, ?_⟩; refine qM4 (Kd.R_elder' (tR HO342.out) (Kd.R_base ho0) hb) (Kd.R_lower (Kd.R_new' ho0 (Kd.R_lt (tR HO342.out))) (bQZ tB)) (tQ BK343.out hb) (bQT tB hb) ?_; clear HO342 BK343 HB; intro HO342 HO349 BK343 HB; (try clear hb); (try clear hb2); (try clear hk); (try clear hi); (try clear ho0)) | ((with_reducible refine gQd (N := 9) rfl ?_); (try (refine gate_guard (by rfl) ?_; dsimp only)); refine xQe ?hg (N := 9) ?hd (cs := #[.int .i64 0, .slice none 0 0]) (t := 27) ?hr ?_; (case hd => rfl); (case hg => rfl); (case hr => exact tH); intro gb351 hg w18 hbox hb; refine qM9 (Kd.R_below (tR HO342.out) hb) (Kd.R_below (tR HO349.out) hb) (tQ BK343.out hb) (bQT tB hb) hbox (tZ w hg) (tZ w hg) ((by rw [hg]; exact Nat.ne_of_lt (blk_lt (g := gb343) (o := .cells #[.int .i64 t339, .slice Ao14 t340.length co14] 27 (0, 0)) (tG BK343.out)) : gb343 ≠ gb351)) ((by rw [hg]; exact Nat.ne_of_gt (blk_lt (g := gb343) (o := .cells #[.int .i64 t339, .slice Ao14 t340.length co14] 27 (0, 0)) (tG BK343.out)) : gb351 ≠ gb343)) ?_; clear HO342 HO349 BK343 HB; intro HO342 HO349 BK343 HB BK351 GW351 GE351 NB343_351 NB351_343; clear hb hbox hg; have hnb19 := NB351_343.out; have hnc19 := NB343_351.out; have hcz20_0 : w18.cell? ⟨gb351, 0, none⟩ = some (.int .i64 0) := (kQC BK351.out 0).trans rfl; have hcz20_1 : w18.cell? ⟨gb351, 1, none⟩ = some (.slice none 0 0) := (kQC BK351.out 1).trans rfl; have hfz20_0 := kQF BK351.out 0; have hfz20_1 := kQF BK351.out 1; obtain ⟨Ao21, co21, eo21⟩ := Kd.R_slice HO349.out; subst eo21; have hcz22_0 : w18.cell? ⟨gb343, 0, none⟩ = some (.int .i64 t339) := (kQC BK343.out 0).trans rfl; have hcz22_1 : w18.cell? ⟨gb343, 1, none⟩ = some (.slice Ao14 t340.length co14) := (kQC BK343.out 1).trans rfl; have hfz22_0 := kQF BK343.out 0; have hfz22_1 := kQF BK343.out 1) | ((with_reducible refine gQc (f := 12) rfl ?_); refine goesL_ (some 62) rfl rfl Try.func12 (by kernel_rfl) rfl #[.agg #[.int .i64 t339, .slice Ao14 t340.length co14]] rfl tL ?_; (with_reducible refine (impl_SpaceOf.calls k t339 _ _ t340 t352 t353 t356 _ ?s1 ?s2 A9.out).mono ?_); (case s1 => refine (Kd.R_reads' (e := 2) (base := w.heap.size) (ok := fun k_ => (True ∧ some k_ ≠ (.slice Ao21 t347.length co21 : Value).ownBlock)) (n := t340.length) (c := co14) ?_).2.2; exact (by (with_reducible repeat (first | apply Kd.RqA | apply Kd.RqN | apply Kd.RqD)); exact (Kd.R_mono (Kd.R_far (p := ⟨gb351, 1, none⟩) (Kd.R_far (p := ⟨gb351, 0, none⟩) (Kd.R_types HO342.out BK351.out (by decide)) (fun _ hk => hk.2) (.int .i64 t346)) (fun _ hk => hk.2) (.slice Ao21 t347.length co21)) (fun _ h_ => h_.1)))); (case s2 => exact (Kd.R_reads' HO342.out).2.1); rintro e w23 ⟨v354, rfl, ho0, hb⟩; refine ⟨_, rfl, ?_⟩; refine qM6 (Kd.R_elder' (by (with_reducible repeat (first | apply Kd.RqA | apply Kd.RqN | apply Kd.RqD)); exact (Kd.R_mono (Kd.R_far (p := ⟨gb351, 1, none⟩) (Kd.R_far (p := ⟨gb351, 0, none⟩) (Kd.R_types HO342.out BK351.out (by decide)) (fun _ hk => hk.2) (.int .i64 t346)) (fun _ hk => hk.2) (.slice Ao21 t347.length co21)) (fun _ h_ => h_.1))) (Kd.R_base ho0) hb) (Kd.R_elder' (by (with_reducible repeat (first | apply Kd.RqA | apply Kd.RqN | apply Kd.RqD)); exact (Kd.R_mono (Kd.R_far (p := ⟨gb351, 1, none⟩) (Kd.R_far (p := ⟨gb351, 0, none⟩) (Kd.R_types HO349.out BK351.out (by decide)) (fun _ hk => hk.2) (.int .i64 t346)) (fun _ hk => hk.2) (.slice Ao21 t347.length co21)) (fun _ h_ => h_.1))) (Kd.R_base ho0) hb) (Kd.R_lower (Kd.R_new' (Kd.R_new' ho0 (Kd.R_lt (by (with_reducible repeat (first | apply Kd.RqA | apply Kd.RqN | apply Kd.RqD)); exact (Kd.R_mono (Kd.R_far (p := ⟨gb351, 1, none⟩) (Kd.R_far (p := ⟨gb351, 0, none⟩) (Kd.R_types HO342.out BK351.out (by decide)) (fun _ hk => hk.2) (.int .i64 t346)) (fun _ hk => hk.2) (.slice Ao21 t347.length co21)) (fun _ h_ => h_.1))))) (Kd.R_lt (by (with_reducible repeat (first | apply Kd.RqA | apply Kd.RqN | apply Kd.RqD)); exact (Kd.R_mono (Kd.R_far (p := ⟨gb351, 1, none⟩) (Kd.R_far (p := ⟨gb351, 0, none⟩) (Kd.R_types HO349.out BK351.out (by decide)) (fun _ hk => hk.2) (.int .i64 t346)) (fun _ hk => hk.2) (.slice Ao21 t347.length co21)) (fun _ h_ => h_.1))))) (bQZ tB)) (kQB (g := gb343) (o := .cells #[.int .i64 t339, .slice Ao14 t340.length co14] 27 (0, 0)) (by (with_reducible repeat (first | refine kQN ?_ _ | refine kQD ?_ | refine kQA ?_ _)); refine kQR ?_ NB343_351.out _; (with_reducible repeat (first | refine kQN ?_ _ | refine kQD ?_ | refine kQA ?_ _)); refine kQR ?_ NB343_351.out _; (with_reducible repeat (first | refine kQN ?_ _ | refine kQD ?_ | refine kQA ?_ _)); exact BK343.out) hb) (kQB (g := gb351) (o := .cells #[.int .i64 t346, .slice Ao21 t347.length co21] 27 (0, 0)) (by (with_reducible repeat (first | refine kQN ?_ _ | refine kQD ?_ | refine kQA ?_ _)); refine kQP (cs := #[.int .i64 t346, .slice none 0 0]) ?_ 1 _ rfl; (with_reducible repeat (first | refine kQN ?_ _ | refine kQD ?_ | refine kQA ?_ _)); refine kQP (cs := #[.int .i64 0, .slice none 0 0]) ?_ 0 _ rfl; (with_reducible repeat (first | refine kQN ?_ _ | refine kQD ?_ | refine kQA ?_ _)); exact BK351.out) hb) (bQT tB hb) ?_; clear HO342 HO349 BK343 BK351 HB; intro HO342 HO349 HO355 BK343 BK351 HB; (try clear hb); (try clear hb2); (try clear hk); (try clear hi); (try clear ho0)) | ((with_reducible refine gQd (N := 11) rfl ?_); (try (refine gate_guard (by rfl) ?_; dsimp only)); refine xQe ?hg (N := 11) ?hd (cs := #[.int .i64 0, .slice none 0 0]) (t := 27) ?hr ?_; (case hd => rfl); (case hg => rfl); (case hr => exact tH); intro gb357 hg w24 hbox hb; refine qM13 (Kd.R_below (tR HO342.out) hb) (Kd.R_below (tR HO349.out) hb) (Kd.R_below (tR HO355.out) hb) (tQ BK343.out hb) (tQ BK351.out hb) (bQT tB hb) hbox (tZ w hg) (tZ w hg) ((by rw [hg]; exact Nat.ne_of_lt (blk_lt (g := gb343) (o := .cells #[.int .i64 t339, .slice Ao14 t340.length co14] 27 (0, 0)) (tG BK343.out)) : gb343 ≠ gb357)) ((by rw [hg]; exact Nat.ne_of_gt (blk_lt (g := gb343) (o := .cells #[.int .i64 t339, .slice Ao14 t340.length co14] 27 (0, 0)) (tG BK343.out)) : gb357 ≠ gb343)) ((by rw [hg]; exact Nat.ne_of_lt (blk_lt (g := gb351) (o := .cells #[.int .i64 t346, .slice Ao21 t347.length co21] 27 (0, 0)) (tG BK351.out)) : gb351 ≠ gb357)) ((by rw [hg]; exact Nat.ne_of_gt (blk_lt (g := gb351) (o := .cells #[.int .i64 t346, .slice Ao21 t347.length co21] 27 (0, 0)) (tG BK351.out)) : gb357 ≠ gb351)) ?_; clear HO342 HO349 HO355 BK343 BK351 HB; intro HO342 HO349 HO355 BK343 BK351 HB BK357 GW357 GE357 NB343_357 NB357_343 NB351_357 NB357_351; clear hb hbox hg; have hnb25 := NB357_343.out; have hnc25 := NB343_357.out; have hnb26 := NB357_351.out; have hnc26 := NB351_357.out; have hcz27_0 : w24.cell? ⟨gb357, 0, none⟩ = some (.int .i64 0) := (kQC BK357.out 0).trans rfl; have hcz27_1 : w24.cell? ⟨gb357, 1, none⟩ = some (.slice none 0 0) := (kQC BK357.out 1).trans rfl; have hfz27_0 := kQF BK357.out 0; have hfz27_1 := kQF BK357.out 1; obtain ⟨Ao28, co28, eo28⟩ := Kd.R_slice HO355.out; subst eo28))
  (try simp only [Act.put, qSa, qSb, qSc])
  go_cut [97] (fun v97 wc => ∃ (kq : Nat) (x97_9 : Bool), v97 = .bool x97_9 ∧ Aq (laws_FnRanks.j0 kq l1 (wrap64 (1 + t338)) t344 x97_9 t339 t340 t346 t347 = some r) ∧ Aq (kq ≤ k) ∧ Aq (Kd.R (Kd.int .i64) 2 wc w.heap.size (fun k_ => some k_ ≠ ((.slice Ao21 t347.length co21) : Value).ownBlock ∧ some k_ ≠ ((.slice Ao28 t353.length co28) : Value).ownBlock) (.slice Ao14 t340.length co14) t340) ∧ Aq (Kd.R (Kd.int .i64) 2 wc w.heap.size (fun k_ => some k_ ≠ ((.slice Ao14 t340.length co14) : Value).ownBlock ∧ some k_ ≠ ((.slice Ao28 t353.length co28) : Value).ownBlock) (.slice Ao21 t347.length co21) t347) ∧ Aq (Kd.R (Kd.int .i64) 2 wc w.heap.size (fun k_ => some k_ ≠ ((.slice Ao14 t340.length co14) : Value).ownBlock ∧ some k_ ≠ ((.slice Ao21 t347.length co21) : Value).ownBlock) (.slice Ao28 t353.length co28) t353) ∧ Aq (wc.heap[gb343]? = some (.cells #[.int .i64 t339, (.slice Ao14 t340.length co14)] 27 (0, 0))) ∧ Aq (wc.heap[gb351]? = some (.cells #[.int .i64 t346, (.slice Ao21 t347.length co21)] 27 (0, 0))) ∧ Aq (wc.heap[gb357]? = some (.cells #[.int .i64 t352, (.slice Ao28 t353.length co28)] 27 (0, 0))) ∧ Aq (Below w.heap.size w wc))
  case first =>
   rename_i za_0_0 za_0_1 za_0_2 za_0_3 za_0_4 za_0_5 za_0_6 za_0_7 za_0_8 za_0_9 za_0_10 za_0_11 za_0_12 za_0_13 za_0_14 za_0_15
   clear hG1_ hG2_ hG3_
   revert k A0 c0 l0 A1 c1 l1 r w hu27 HR0 HC0 HR1 HC1 za_0_0 A3 za_0_1 t338 A5 za_0_2 t339 t340 A6 za_0_3 t344 t345 A7 za_0_4 t346 t347 t350 A8 H t352 t353 t356 A9 HC10 za_0_5 za_0_6 za_0_7 nd w11 gb343 w12 GW343 GE343 hcz13_0 hcz13_1 hfz13_0 hfz13_1 Ao14 co14 w15 hcz16_0 hcz16_1 hfz16_0 hfz16_1 w17 gb351 w18 GW351 GE351 NB343_351 NB351_343 hnb19 hnc19 hcz20_0 hcz20_1 hfz20_0 hfz20_1 Ao21 co21 hcz22_0 hcz22_1 hfz22_0 hfz22_1 w23 gb357 w24 BK343 BK351 HB BK357 GW357 GE357 NB343_357 NB357_343 NB351_357 NB357_351 hnb25 hnc25 hnb26 hnc26 hcz27_0 hcz27_1 hfz27_0 hfz27_1 Ao28 co28 HO342 HO349 HO355 za_0_8 za_0_9 za_0_10 za_0_11 za_0_12 za_0_13 za_0_14 za_0_15
   exact hG0_.out
  clear HC10
  try clear c1
  try clear c4
  try clear c29
  try clear c29b0
  try clear c29b1
  try clear c30
  try clear c30b0
  try clear c30b1
  try clear c31
  try clear c31b0
  try clear c31b1
  try clear c33
  try clear c35
  try clear c36
  try clear c36b0
  try clear c36b1
  try clear hcz13_0
  try clear hcz13_1
  try clear hcz16_0
  try clear hcz16_1
  try clear hcz20_0
  try clear hcz20_1
  try clear hcz22_0
  try clear hcz22_1
  try clear hcz27_0
  try clear hcz27_1
  try clear hcz40_0
  try clear hcz40_1
  try clear hcz42_0
  try clear hcz42_1
  try clear hcz44_0
  try clear hcz44_1
  try clear hcz46_0
  try clear hcz46_1
  try clear hcz50_0
  try clear hcz50_1
  try clear hcz52_0
  try clear hcz52_1
  try clear hcz54_0
  try clear hcz54_1
  try clear hcz57_0
  try clear hcz57_1
  try clear hcz59_0
  try clear hcz59_1
  try clear hcz63_0
  try clear hcz63_1
  try clear hfz13_0
  try clear hfz13_1
  try clear hfz16_0
  try clear hfz16_1
  try clear hfz20_0
  try clear hfz20_1
  try clear hfz22_0
  try clear hfz22_1
  try clear hfz27_0
  try clear hfz27_1
  try clear hfz40_0
  try clear hfz40_1
  try clear hfz42_0
  try clear hfz42_1
  try clear hfz44_0
  try clear hfz44_1
  try clear hfz46_0
  try clear hfz46_1
  try clear hfz50_0
  try clear hfz50_1
  try clear hfz52_0
  try clear hfz52_1
  try clear hfz54_0
  try clear hfz54_1
  try clear hfz57_0
  try clear hfz57_1
  try clear hfz59_0
  try clear hfz59_1
  try clear hfz63_0
  try clear hfz63_1
  obtain ⟨kq, x97_9, rfl, HA, HJ9, HO_344001, HO_352001, HO_358001, BK343, BK351, BK357, HB⟩ := hcut
  cases kq with
  | zero => exact absurd HA.out (by simp [laws_FnRanks.j0])
  | succ kj9 =>
   have H := HA.out
   clear HA
   simp only [laws_FnRanks.j0] at H
   by_cases c65 : x97_9 = true
   ·subst c65
    rw [if_pos rfl] at H
    obtain rfl := Option.some.inj H
    go_wp2
    go_ret
    exact ⟨tE, tB⟩
   replace c65 := Bool.eq_false_iff.mpr c65
   subst c65
   rw [if_neg (show ¬ (false = true) by decide)] at H
   replace H' := Aq.mk H
   clear H
   go_wp2
   go_loopg [13] kj9 (fun kq v13 w' => ∃ (x13_2 : Int), v13 = .int .i64 x13_2 ∧ Aq (laws_FnRanks.l0 kq l1 (wrap64 (1 + t338)) t344 x13_2 t339 t340 t346 t347 = some r) ∧ Aq (kq ≤ kj9) ∧ Aq (Kd.R (Kd.int .i64) 2 w' w.heap.size (fun k_ => some k_ ≠ ((.slice Ao21 t347.length co21) : Value).ownBlock ∧ some k_ ≠ ((.slice Ao28 t353.length co28) : Value).ownBlock) (.slice Ao14 t340.length co14) t340) ∧ Aq (Kd.R (Kd.int .i64) 2 w' w.heap.size (fun k_ => some k_ ≠ ((.slice Ao14 t340.length co14) : Value).ownBlock ∧ some k_ ≠ ((.slice Ao28 t353.length co28) : Value).ownBlock) (.slice Ao21 t347.length co21) t347) ∧ Aq (Kd.R (Kd.int .i64) 2 w' w.heap.size (fun k_ => some k_ ≠ ((.slice Ao14 t340.length co14) : Value).ownBlock ∧ some k_ ≠ ((.slice Ao21 t347.length co21) : Value).ownBlock) (.slice Ao28 t353.length co28) t353) ∧ Aq (w'.heap[gb343]? = some (.cells #[.int .i64 t339, (.slice Ao14 t340.length co14)] 27 (0, 0))) ∧ Aq (w'.heap[gb351]? = some (.cells #[.int .i64 t346, (.slice Ao21 t347.length co21)] 27 (0, 0))) ∧ Aq (w'.heap[gb357]? = some (.cells #[.int .i64 t352, (.slice Ao28 t353.length co28)] 27 (0, 0))) ∧ Aq (Below w.heap.size w w'))
   case atStart => exact ⟨(0), tS, H', ⟨Nat.le_refl _⟩, ⟨tR HO_344001.out⟩, ⟨tR HO_352001.out⟩, ⟨tR HO_358001.out⟩, ⟨tG BK343.out⟩, ⟨tG BK351.out⟩, ⟨tG BK357.out⟩, ⟨tB⟩⟩
   clear H'
   try clear c1
   try clear c4
   try clear c29
   try clear c29b0
   try clear c29b1
   try clear c30
   try clear c30b0
   try clear c30b1
   try clear c31
   try clear c31b0
   try clear c31b1
   try clear c33
   try clear c35
   try clear c36
   try clear c36b0
   try clear c36b1
   try clear c65
   try clear hcz13_0
   try clear hcz13_1
   try clear hcz16_0
   try clear hcz16_1
   try clear hcz20_0
   try clear hcz20_1
   try clear hcz22_0
   try clear hcz22_1
   try clear hcz27_0
   try clear hcz27_1
   try clear hcz40_0
   try clear hcz40_1
   try clear hcz42_0
   try clear hcz42_1
   try clear hcz44_0
   try clear hcz44_1
   try clear hcz46_0
   try clear hcz46_1
   try clear hcz50_0
   try clear hcz50_1
   try clear hcz52_0
   try clear hcz52_1
   try clear hcz54_0
   try clear hcz54_1
   try clear hcz57_0
   try clear hcz57_1
   try clear hcz59_0
   try clear hcz59_1
   try clear hcz63_0
   try clear hcz63_1
   try clear hfz13_0
   try clear hfz13_1
   try clear hfz16_0
   try clear hfz16_1
   try clear hfz20_0
   try clear hfz20_1
   try clear hfz22_0
   try clear hfz22_1
   try clear hfz27_0
   try clear hfz27_1
   try clear hfz40_0
   try clear hfz40_1
   try clear hfz42_0
   try clear hfz42_1
   try clear hfz44_0
   try clear hfz44_1
   try clear hfz46_0
   try clear hfz46_1
   try clear hfz50_0
   try clear hfz50_1
   try clear hfz52_0
   try clear hfz52_1
   try clear hfz54_0
   try clear hfz54_1
   try clear hfz57_0
   try clear hfz57_1
   try clear hfz59_0
   try clear hfz59_1
   try clear hfz63_0
   try clear hfz63_1
   obtain ⟨x13_2, rfl, HA, HK2, HO_344001, HO_352001, HO_358001, BK343, BK351, BK357, HB⟩ := hrel
   cases gk with
   | zero => exact absurd HA.out (by simp [laws_FnRanks.l0])
   | succ k2 =>
    have H := HA.out
    clear HA
    simp only [laws_FnRanks.l0] at H
    by_cases c66 : x13_2 < (t340.length : Int)
    ·rename_i za_1_0 za_1_1 za_1_2 za_1_3 za_1_4 za_1_5 za_1_6 za_1_7 za_1_8 za_1_9 za_1_10 za_1_11 za_1_12 za_1_13 za_1_14 za_1_15 za_1_16 za_1_17 za_1_18 za_1_19 za_1_20 za_1_21 za_1_22 za_1_23 za_1_24 za_1_25 za_1_26 za_1_27 za_1_28 za_1_29 za_1_30 za_1_31 za_1_32 za_1_33 za_1_34 za_1_35 za_1_36 za_1_37 za_1_38 za_1_39 za_1_40 za_1_41 za_1_42 za_1_43 za_1_44 za_1_45 za_1_46 za_1_47 za_1_48 za_1_49 za_1_50 za_1_51 za_1_52 za_1_53 za_1_54 za_1_55 za_1_56 za_1_57 za_1_58 za_1_59 za_1_60 za_1_61 za_1_62 za_1_63 za_1_64 za_1_65 za_1_66 za_1_67 za_1_68 za_1_69 za_1_70 za_1_71 za_1_72 za_1_73 za_1_74 za_1_75 za_1_76 za_1_77 za_1_78 za_1_79 za_1_80 za_1_81 za_1_82 za_1_83 za_1_84
     clear hG0_ hG2_ hG3_
     revert k A0 c0 l0 A1 c1 l1 r w hu27 HR0 HC0 HR1 HC1 za_1_0 A3 za_1_1 t338 A5 za_1_2 t339 t340 A6 za_1_3 t344 t345 A7 za_1_4 t346 t347 t350 A8 za_1_5 t352 t353 t356 A9 za_1_6 za_1_7 za_1_8 nd w11 gb343 w12 GW343 GE343 Ao14 co14 w15 w17 gb351 w18 GW351 GE351 NB343_351 NB351_343 hnb19 hnc19 Ao21 co21 w23 gb357 w24 za_1_9 za_1_10 za_1_11 za_1_12 GW357 GE357 NB343_357 NB357_343 NB351_357 NB357_351 hnb25 hnc25 hnb26 hnc26 Ao28 co28 HO342 HO349 HO355 wc u41 u42 u43 u44 u45 u46 u47 u48 u49 u50 u51 u52 u53 u54 u55 u56 u57 u58 u59 u60 u61 u62 u63 u64 u65 u66 u67 u68 u69 u70 u71 u72 u73 u74 u75 u76 u77 u78 u79 u80 u81 u82 u83 u84 u85 u86 u87 u88 u89 u90 u91 u92 u93 u94 u95 u96 za_1_13 za_1_14 za_1_15 za_1_16 za_1_17 za_1_18 za_1_19 za_1_20 za_1_21 za_1_22 za_1_23 za_1_24 za_1_25 za_1_26 za_1_27 za_1_28 za_1_29 za_1_30 za_1_31 za_1_32 za_1_33 za_1_34 za_1_35 za_1_36 za_1_37 za_1_38 za_1_39 za_1_40 za_1_41 za_1_42 za_1_43 za_1_44 za_1_45 za_1_46 za_1_47 za_1_48 za_1_49 za_1_50 za_1_51 za_1_52 za_1_53 za_1_54 za_1_55 za_1_56 za_1_57 za_1_58 za_1_59 za_1_60 za_1_61 za_1_62 za_1_63 za_1_64 za_1_65 za_1_66 za_1_67 za_1_68 za_1_69 za_1_70 za_1_71 u157 u158 u159 u160 u161 u162 u163 u164 u165 u166 u167 u168 u169 u170 u171 u172 u173 u174 u175 u176 u177 u178 u179 u180 u181 u182 u183 u184 u185 u186 u187 u188 u189 u190 u191 u192 u193 u194 u195 u196 u197 u198 u199 u200 u201 u202 u203 u204 u205 u206 u207 u208 u209 u210 u211 u212 u213 u214 u215 u216 u217 u218 u219 u220 u221 u222 u223 u224 u225 u226 u227 u228 u229 u230 u231 u232 u233 u234 u235 u236 u237 u238 u239 u240 u241 u242 u243 u244 u245 u246 u247 u248 u249 u250 u251 u252 u253 u254 u255 u256 u257 u258 u259 u260 u261 u262 u263 u264 u265 u266 u267 u268 u269 u270 u271 u272 u273 u274 u275 u276 u277 u278 u279 u280 u281 u282 u283 u284 u285 u286 u287 u288 u289 u290 u291 u292 u293 u294 u295 u296 u297 u298 u299 u300 u301 u302 u303 u304 u305 u306 u307 u308 u309 u310 u311 u312 u313 u314 u315 za_1_72 za_1_73 za_1_74 za_1_75 za_1_76 za_1_77 za_1_78 kj9 HJ9 za_1_79 za_1_80 wr u4 u14 u15 u16 u17 u98 u99 u100 u101 u102 u103 u104 u105 u106 u107 u108 u109 u110 u111 u112 u113 u114 u115 u116 u117 u118 u119 u120 u121 u122 u123 u124 u125 u126 u127 u128 u129 u130 u131 u132 u133 u134 u135 u136 u137 u138 u139 u140 u141 u142 u143 u144 u145 u146 u147 u148 u149 u150 u151 u152 u153 u154 u155 u156 za_1_81 za_1_82 za_1_83 x13_2 HO_344001 HO_352001 HO_358001 BK343 BK351 BK357 HB k2 za_1_84 HK2 H c66
     exact hG1_.out
    rw [if_neg c66] at H
    have c66b0 := decide_eq_false c66
    clear c66
    replace H' := Aq.mk H
    clear H
    have hnb109 := NB343_351.out
    have hnc109 := NB351_343.out
    have hnb110 := NB343_357.out
    have hnc110 := NB357_343.out
    have hcz111_0 : wr.cell? ⟨gb343, 0, none⟩ = some (.int .i64 t339) := (kQC BK343.out 0).trans rfl
    have hcz111_1 : wr.cell? ⟨gb343, 1, none⟩ = some (.slice Ao14 t340.length co14) := (kQC BK343.out 1).trans rfl
    have hfz111_0 := kQF BK343.out 0
    have hfz111_1 := kQF BK343.out 1
    go_wp2
    go_loopg [18] k2 (fun kq v18 w' => ∃ (x18_3 : Int), v18 = .int .i64 x18_3 ∧ Aq (laws_FnRanks.l2 kq l1 (wrap64 (1 + t338)) t344 x18_3 t339 t340 t346 t347 = some r) ∧ Aq (kq ≤ k2) ∧ Aq (Kd.R (Kd.int .i64) 2 w' w.heap.size (fun k_ => some k_ ≠ ((.slice Ao21 t347.length co21) : Value).ownBlock ∧ some k_ ≠ ((.slice Ao28 t353.length co28) : Value).ownBlock) (.slice Ao14 t340.length co14) t340) ∧ Aq (Kd.R (Kd.int .i64) 2 w' w.heap.size (fun k_ => some k_ ≠ ((.slice Ao14 t340.length co14) : Value).ownBlock ∧ some k_ ≠ ((.slice Ao28 t353.length co28) : Value).ownBlock) (.slice Ao21 t347.length co21) t347) ∧ Aq (Kd.R (Kd.int .i64) 2 w' w.heap.size (fun k_ => some k_ ≠ ((.slice Ao14 t340.length co14) : Value).ownBlock ∧ some k_ ≠ ((.slice Ao21 t347.length co21) : Value).ownBlock) (.slice Ao28 t353.length co28) t353) ∧ Aq (w'.heap[gb343]? = some (.cells #[.int .i64 t339, (.slice Ao14 t340.length co14)] 27 (0, 0))) ∧ Aq (w'.heap[gb351]? = some (.cells #[.int .i64 t346, (.slice Ao21 t347.length co21)] 27 (0, 0))) ∧ Aq (w'.heap[gb357]? = some (.cells #[.int .i64 t352, (.slice Ao28 t353.length co28)] 27 (0, 0))) ∧ Aq (Below w.heap.size w w'))
    case atStart => exact ⟨(0), tS, H', ⟨Nat.le_refl _⟩, ⟨tR HO_344001.out⟩, ⟨tR HO_352001.out⟩, ⟨tR HO_358001.out⟩, ⟨tG BK343.out⟩, ⟨tG BK351.out⟩, ⟨tG BK357.out⟩, ⟨tB⟩⟩
    clear H'
    try clear c1
    try clear c4
    try clear c29
    try clear c29b0
    try clear c29b1
    try clear c30
    try clear c30b0
    try clear c30b1
    try clear c31
    try clear c31b0
    try clear c31b1
    try clear c33
    try clear c35
    try clear c36
    try clear c36b0
    try clear c36b1
    try clear c65
    try clear c66
    try clear c66b0
    try clear c67
    try clear c67b0
    try clear c75
    try clear c75b0
    try clear c75b1
    try clear c76
    try clear c76b0
    try clear c78
    try clear c78b0
    try clear c78b1
    try clear c83
    try clear c84
    try clear c84b0
    try clear c86
    try clear c86b0
    try clear c86b1
    try clear c88
    try clear c88b0
    try clear c88b1
    try clear c89
    try clear c89b0
    try clear c96
    try clear c96b0
    try clear c97
    try clear c97b0
    try clear c98
    try clear c98b0
    try clear c98b1
    try clear hcz101_0
    try clear hcz101_1
    try clear hcz103_0
    try clear hcz103_1
    try clear hcz106_0
    try clear hcz106_1
    try clear hcz108_0
    try clear hcz108_1
    try clear hcz111_0
    try clear hcz111_1
    try clear hcz13_0
    try clear hcz13_1
    try clear hcz16_0
    try clear hcz16_1
    try clear hcz20_0
    try clear hcz20_1
    try clear hcz22_0
    try clear hcz22_1
    try clear hcz27_0
    try clear hcz27_1
    try clear hcz40_0
    try clear hcz40_1
    try clear hcz42_0
    try clear hcz42_1
    try clear hcz44_0
    try clear hcz44_1
    try clear hcz46_0
    try clear hcz46_1
    try clear hcz50_0
    try clear hcz50_1
    try clear hcz52_0
    try clear hcz52_1
    try clear hcz54_0
    try clear hcz54_1
    try clear hcz57_0
    try clear hcz57_1
    try clear hcz59_0
    try clear hcz59_1
    try clear hcz63_0
    try clear hcz63_1
    try clear hcz72_0
    try clear hcz72_1
    try clear hcz82_0
    try clear hcz82_1
    try clear hcz92_0
    try clear hcz92_1
    try clear hcz95_0
    try clear hcz95_1
    try clear hfz101_0
    try clear hfz101_1
    try clear hfz103_0
    try clear hfz103_1
    try clear hfz106_0
    try clear hfz106_1
    try clear hfz108_0
    try clear hfz108_1
    try clear hfz111_0
    try clear hfz111_1
    try clear hfz13_0
    try clear hfz13_1
    try clear hfz16_0
    try clear hfz16_1
    try clear hfz20_0
    try clear hfz20_1
    try clear hfz22_0
    try clear hfz22_1
    try clear hfz27_0
    try clear hfz27_1
    try clear hfz40_0
    try clear hfz40_1
    try clear hfz42_0
    try clear hfz42_1
    try clear hfz44_0
    try clear hfz44_1
    try clear hfz46_0
    try clear hfz46_1
    try clear hfz50_0
    try clear hfz50_1
    try clear hfz52_0
    try clear hfz52_1
    try clear hfz54_0
    try clear hfz54_1
    try clear hfz57_0
    try clear hfz57_1
    try clear hfz59_0
    try clear hfz59_1
    try clear hfz63_0
    try clear hfz63_1
    try clear hfz72_0
    try clear hfz72_1
    try clear hfz82_0
    try clear hfz82_1
    try clear hfz92_0
    try clear hfz92_1
    try clear hfz95_0
    try clear hfz95_1
    try clear hx361_0
    try clear hx364_0
    try clear hx365_0
    try clear p361
    try clear p364
    try clear p365
    try clear q361
    try clear q364
    try clear q365
    obtain ⟨x18_3, rfl, HA, HK3, HO_344001, HO_352001, HO_358001, BK343, BK351, BK357, HB⟩ := hrel
    cases gk with
    | zero => exact absurd HA.out (by simp [laws_FnRanks.l2])
    | succ k3 =>
     have H := HA.out
     clear HA
     simp only [laws_FnRanks.l2] at H
     by_cases c112 : x18_3 < (t347.length : Int)
     ·rename_i za_2_0 za_2_1 za_2_2 za_2_3 za_2_4 za_2_5 za_2_6 za_2_7 za_2_8 za_2_9 za_2_10 za_2_11 za_2_12 za_2_13 za_2_14 za_2_15 za_2_16 za_2_17 za_2_18 za_2_19 za_2_20 za_2_21 za_2_22 za_2_23 za_2_24 za_2_25 za_2_26 za_2_27 za_2_28 za_2_29 za_2_30 za_2_31 za_2_32 za_2_33 za_2_34 za_2_35 za_2_36 za_2_37 za_2_38 za_2_39 za_2_40 za_2_41 za_2_42 za_2_43 za_2_44 za_2_45 za_2_46 za_2_47 za_2_48 za_2_49 za_2_50 za_2_51 za_2_52 za_2_53 za_2_54 za_2_55 za_2_56 za_2_57 za_2_58 za_2_59 za_2_60 za_2_61 za_2_62 za_2_63 za_2_64 za_2_65 za_2_66 za_2_67 za_2_68 za_2_69 za_2_70 za_2_71 za_2_72 za_2_73 za_2_74 za_2_75 za_2_76 za_2_77 za_2_78 za_2_79 za_2_80 za_2_81 za_2_82 za_2_83 za_2_84 za_2_85 za_2_86 za_2_87 za_2_88 za_2_89 za_2_90 za_2_91 za_2_92 za_2_93 za_2_94 za_2_95 za_2_96 za_2_97 za_2_98 za_2_99 za_2_100 za_2_101 za_2_102 za_2_103 za_2_104 za_2_105 za_2_106 za_2_107 za_2_108 za_2_109 za_2_110 za_2_111 za_2_112 za_2_113 za_2_114 za_2_115 za_2_116 za_2_117 za_2_118 za_2_119
      clear hG0_ hG1_ hG3_
      revert k A0 c0 l0 A1 c1 l1 r w hu27 HR0 HC0 HR1 HC1 za_2_0 A3 za_2_1 t338 A5 za_2_2 t339 t340 A6 za_2_3 t344 t345 A7 za_2_4 t346 t347 t350 A8 za_2_5 t352 t353 t356 A9 za_2_6 za_2_7 za_2_8 nd w11 gb343 w12 GW343 GE343 Ao14 co14 w15 w17 gb351 w18 GW351 GE351 NB343_351 NB351_343 hnb19 hnc19 Ao21 co21 w23 gb357 w24 za_2_9 za_2_10 za_2_11 za_2_12 GW357 GE357 NB343_357 NB357_343 NB351_357 NB357_351 hnb25 hnc25 hnb26 hnc26 Ao28 co28 HO342 HO349 HO355 wc u41 u42 u43 u44 u45 u46 u47 u48 u49 u50 u51 u52 u53 u54 u55 u56 u57 u58 u59 u60 u61 u62 u63 u64 u65 u66 u67 u68 u69 u70 u71 u72 u73 u74 u75 u76 u77 u78 u79 u80 u81 u82 u83 u84 u85 u86 u87 u88 u89 u90 u91 u92 u93 u94 u95 u96 za_2_13 za_2_14 za_2_15 za_2_16 za_2_17 za_2_18 za_2_19 za_2_20 za_2_21 za_2_22 za_2_23 za_2_24 za_2_25 za_2_26 za_2_27 za_2_28 za_2_29 za_2_30 za_2_31 za_2_32 za_2_33 za_2_34 za_2_35 za_2_36 za_2_37 za_2_38 za_2_39 za_2_40 za_2_41 za_2_42 za_2_43 za_2_44 za_2_45 za_2_46 za_2_47 za_2_48 za_2_49 za_2_50 za_2_51 za_2_52 za_2_53 za_2_54 za_2_55 za_2_56 za_2_57 za_2_58 za_2_59 za_2_60 za_2_61 za_2_62 za_2_63 za_2_64 za_2_65 za_2_66 za_2_67 za_2_68 za_2_69 za_2_70 za_2_71 za_2_72 za_2_73 za_2_74 za_2_75 za_2_76 za_2_77 za_2_78 za_2_79 za_2_80 za_2_81 za_2_82 za_2_83 za_2_84 za_2_85 za_2_86 za_2_87 za_2_88 za_2_89 za_2_90 u176 u177 u178 u179 u180 u181 u182 u183 u184 u185 u186 u187 u188 u189 u190 u191 u192 u193 u194 u195 u196 u197 u198 u199 u200 u201 u202 u203 u204 u205 u206 u207 u208 u209 u210 u211 u212 u213 u214 u215 u216 u217 u218 u219 u220 u221 u222 u223 u224 u225 u226 u227 u228 u229 u230 u231 u232 u233 u234 u235 u236 u237 u238 u239 u240 u241 u242 u243 u244 u245 u246 u247 u248 u249 u250 u251 u252 u253 u254 u255 u256 u257 u258 u259 u260 u261 u262 u263 u264 u265 u266 u267 u268 u269 u270 u271 u272 u273 u274 u275 u276 u277 u278 u279 u280 u281 u282 u283 u284 u285 u286 u287 u288 u289 u290 u291 u292 u293 u294 u295 u296 u297 u298 u299 u300 u301 u302 u303 u304 u305 u306 u307 u308 u309 u310 u311 u312 u313 u314 u315 za_2_91 za_2_92 za_2_93 za_2_94 za_2_95 za_2_96 za_2_97 kj9 HJ9 za_2_98 za_2_99 za_2_100 u14 u15 u16 u17 u98 u99 u100 u101 u102 u103 u104 u105 u106 u107 u108 u109 u110 u111 u112 u113 u114 u115 u116 u117 u118 u119 u120 u121 u122 u123 u124 u125 u126 u127 u128 u129 u130 u131 u132 u133 u134 u135 u136 u137 u138 u139 u140 u141 u142 u143 u144 u145 u146 u147 u148 u149 u150 u151 u152 u153 u154 u155 u156 za_2_101 za_2_102 za_2_103 x13_2 za_2_104 za_2_105 za_2_106 za_2_107 za_2_108 za_2_109 za_2_110 k2 za_2_111 HK2 hnb109 hnc109 hnb110 hnc110 za_2_112 za_2_113 za_2_114 za_2_115 wr u4 u19 u20 u157 u158 u159 u160 u161 u162 u163 u164 u165 u166 u167 u168 u169 u170 u171 u172 u173 u174 u175 za_2_116 za_2_117 za_2_118 x18_3 HO_344001 HO_352001 HO_358001 BK343 BK351 BK357 HB k3 za_2_119 HK3 H c112
      exact hG2_.out
     rw [if_neg c112] at H
     have c112b0 := decide_eq_false c112
     clear c112
     by_cases c126 : (t340.length : Int) = 0
     ·rw [if_pos c126] at H
      have c126b0 := beq_iff_eq.mpr c126
      have c126b1 := bne_eq_false_iff_eq.mpr c126
      clear c126
      obtain rfl := Option.some.inj H
      have hnb127 := NB351_343.out
      have hnc127 := NB343_351.out
      have hnb128 := NB351_357.out
      have hnc128 := NB357_351.out
      have hcz129_0 : wr.cell? ⟨gb351, 0, none⟩ = some (.int .i64 t346) := (kQC BK351.out 0).trans rfl
      have hcz129_1 : wr.cell? ⟨gb351, 1, none⟩ = some (.slice Ao21 t347.length co21) := (kQC BK351.out 1).trans rfl
      have hfz129_0 := kQF BK351.out 0
      have hfz129_1 := kQF BK351.out 1
      have hnb130 := NB343_357.out
      have hnc130 := NB357_343.out
      have hcz131_0 : wr.cell? ⟨gb343, 0, none⟩ = some (.int .i64 t339) := (kQC BK343.out 0).trans rfl
      have hcz131_1 : wr.cell? ⟨gb343, 1, none⟩ = some (.slice Ao14 t340.length co14) := (kQC BK343.out 1).trans rfl
      have hfz131_0 := kQF BK343.out 0
      have hfz131_1 := kQF BK343.out 1
      go_wp2
      go_ret
      exact ⟨tE, tB⟩
     rw [if_neg c126] at H
     have c126b0 := beq_eq_false_iff_ne.mpr c126
     have c126b1 := bne_iff_ne.mpr c126
     have c126b2 : ¬ (t340 = []) := fun h_ => c126 (by rw [h_]; rfl)
     obtain ⟨⟨t369, t370, t373⟩, A132, H⟩ := qBd H
     (try dsimp only at H)
     obtain ⟨⟨t375, t376⟩, A133, H⟩ := qBd H
     (try dsimp only at H)
     replace H' := Aq.mk H
     clear H
     have hnb134 := NB351_343.out
     have hnc134 := NB343_351.out
     have hnb135 := NB351_357.out
     have hnc135 := NB357_351.out
     have hcz136_0 : wr.cell? ⟨gb351, 0, none⟩ = some (.int .i64 t346) := (kQC BK351.out 0).trans rfl
     have hcz136_1 : wr.cell? ⟨gb351, 1, none⟩ = some (.slice Ao21 t347.length co21) := (kQC BK351.out 1).trans rfl
     have hfz136_0 := kQF BK351.out 0
     have hfz136_1 := kQF BK351.out 1
     have hnb137 := NB343_357.out
     have hnc137 := NB357_343.out
     have hcz138_0 : wr.cell? ⟨gb343, 0, none⟩ = some (.int .i64 t339) := (kQC BK343.out 0).trans rfl
     have hcz138_1 : wr.cell? ⟨gb343, 1, none⟩ = some (.slice Ao14 t340.length co14) := (kQC BK343.out 1).trans rfl
     have hfz138_0 := kQF BK343.out 0
     have hfz138_1 := kQF BK343.out 1
     go_wp2_with (first | ((with_reducible refine gQc (f := 17) rfl ?_); refine goesL_ (some 184) rfl rfl Try.func17 (by kernel_rfl) rfl #[.agg #[.int .i64 t339, .slice Ao14 t340.length co14]] rfl tL ?_; (with_reducible refine (impl_TurnMatrix.calls k3 t339 (fun k_ => some k_ = (.slice Ao14 t340.length co14 : Value).ownBlock) _ _ t340 t369 t370 t373 _ ?s1 A132.out).mono ?_); (case s1 => exact Kd.R_V (Kd.R_tight rfl (Kd.R_types (Kd.R_types (Kd.R_types (HO_344001.out) BK343.out (by decide)) BK351.out (by decide)) BK357.out (by decide)))); rintro e w139 ⟨v371, rfl, ho0, hb⟩; refine ⟨_, rfl, ?_⟩; refine qM8 (Kd.R_elder' (tR HO_344001.out) (Kd.R_base ho0) hb) (Kd.R_elder' (tR HO_352001.out) (Kd.R_base ho0) hb) (Kd.R_elder' (tR HO_358001.out) (Kd.R_base ho0) hb) (Kd.R_lower (Kd.R_new' (Kd.R_new' (Kd.R_new' (Kd.R_mono (ok' := fun k_ => True) ho0 (fun _ hk_ => trivial)) (Kd.R_lt (tR HO_344001.out))) (Kd.R_lt (tR HO_352001.out))) (Kd.R_lt (tR HO_358001.out))) (bQZ tB)) (tQ BK343.out hb) (tQ BK351.out hb) (tQ BK357.out hb) (bQT tB hb) ?_; clear HO_344001 HO_352001 HO_358001 BK343 BK351 BK357 HB; intro HO_344001 HO_352001 HO_358001 HO372 BK343 BK351 BK357 HB; (try clear hb); (try clear hb2); (try clear hk); (try clear hi); (try clear ho0)) | ((with_reducible refine gQd (N := 21) rfl ?_); (try (refine gate_guard (by rfl) ?_; dsimp only)); refine xQe ?hg (N := 21) ?hd (cs := #[.int .i64 0, .slice none 0 0]) (t := 27) ?hr ?_; (case hd => rfl); (case hg => rfl); (case hr => exact tH); intro gb374 hg w140 hbox hb; refine qM17 (Kd.R_below (tR HO_344001.out) hb) (Kd.R_below (tR HO_352001.out) hb) (Kd.R_below (tR HO_358001.out) hb) (Kd.R_below (tR HO372.out) hb) (tQ BK343.out hb) (tQ BK351.out hb) (tQ BK357.out hb) (bQT tB hb) hbox (tZ w hg) (tZ w hg) ((by rw [hg]; exact Nat.ne_of_lt (blk_lt (g := gb343) (o := .cells #[.int .i64 t339, .slice Ao14 t340.length co14] 27 (0, 0)) (tG BK343.out)) : gb343 ≠ gb374)) ((by rw [hg]; exact Nat.ne_of_gt (blk_lt (g := gb343) (o := .cells #[.int .i64 t339, .slice Ao14 t340.length co14] 27 (0, 0)) (tG BK343.out)) : gb374 ≠ gb343)) ((by rw [hg]; exact Nat.ne_of_lt (blk_lt (g := gb351) (o := .cells #[.int .i64 t346, .slice Ao21 t347.length co21] 27 (0, 0)) (tG BK351.out)) : gb351 ≠ gb374)) ((by rw [hg]; exact Nat.ne_of_gt (blk_lt (g := gb351) (o := .cells #[.int .i64 t346, .slice Ao21 t347.length co21] 27 (0, 0)) (tG BK351.out)) : gb374 ≠ gb351)) ((by rw [hg]; exact Nat.ne_of_lt (blk_lt (g := gb357) (o := .cells #[.int .i64 t352, .slice Ao28 t353.length co28] 27 (0, 0)) (tG BK357.out)) : gb357 ≠ gb374)) ((by rw [hg]; exact Nat.ne_of_gt (blk_lt (g := gb357) (o := .cells #[.int .i64 t352, .slice Ao28 t353.length co28] 27 (0, 0)) (tG BK357.out)) : gb374 ≠ gb357)) ?_; clear HO_344001 HO_352001 HO_358001 HO372 BK343 BK351 BK357 HB; intro HO_344001 HO_352001 HO_358001 HO372 BK343 BK351 BK357 HB BK374 GW374 GE374 NB343_374 NB374_343 NB351_374 NB374_351 NB357_374 NB374_357; clear hb hbox hg; have hnb141 := NB374_343.out; have hnc141 := NB343_374.out; have hnb142 := NB374_351.out; have hnc142 := NB351_374.out; have hnb143 := NB374_357.out; have hnc143 := NB357_374.out; have hcz144_0 : w140.cell? ⟨gb374, 0, none⟩ = some (.int .i64 0) := (kQC BK374.out 0).trans rfl; have hcz144_1 : w140.cell? ⟨gb374, 1, none⟩ = some (.slice none 0 0) := (kQC BK374.out 1).trans rfl; have hfz144_0 := kQF BK374.out 0; have hfz144_1 := kQF BK374.out 1; obtain ⟨Ao145, co145, eo145⟩ := Kd.R_slice HO372.out; subst eo145) | ((with_reducible refine gQc (f := 10) rfl ?_); refine goesL_ (some 189) rfl rfl Try.func10 (by kernel_rfl) rfl #[.agg #[.int .i64 t369, .slice Ao145 t370.length co145]] rfl tL ?_; (with_reducible refine (impl_RankOf.calls k3 t369 _ _ t370 t375 t376 _ ?s1 ?s2 A133.out).mono ?_); (case s1 => refine (Kd.R_reads' (e := 2) (base := w.heap.size) (ok := fun k_ => (((True ∧ some k_ ≠ (.slice Ao14 t340.length co14 : Value).ownBlock) ∧ some k_ ≠ (.slice Ao21 t347.length co21 : Value).ownBlock) ∧ some k_ ≠ (.slice Ao28 t353.length co28 : Value).ownBlock)) (n := t370.length) (c := co145) ?_).2.2; exact (by (with_reducible repeat (first | apply Kd.RqA | apply Kd.RqN | apply Kd.RqD)); exact (Kd.R_mono (Kd.R_far (p := ⟨gb374, 1, none⟩) (Kd.R_far (p := ⟨gb374, 0, none⟩) (Kd.R_types HO372.out BK374.out (by decide)) (fun _ hk => hk.2) (.int .i64 t369)) (fun _ hk => hk.2) (.slice Ao145 t370.length co145)) (fun _ h_ => h_.1)))); (case s2 => exact (Kd.R_reads' HO372.out).2.1); rintro e w146 ⟨rfl, hb⟩; refine ⟨_, rfl, ?_⟩; refine qM9 (Kd.R_below (by (with_reducible repeat (first | apply Kd.RqA | apply Kd.RqN | apply Kd.RqD)); exact (Kd.R_mono (Kd.R_far (p := ⟨gb374, 1, none⟩) (Kd.R_far (p := ⟨gb374, 0, none⟩) (Kd.R_types HO_344001.out BK374.out (by decide)) (fun _ hk => hk.2) (.int .i64 t369)) (fun _ hk => hk.2) (.slice Ao145 t370.length co145)) (fun _ h_ => h_.1))) hb) (Kd.R_below (by (with_reducible repeat (first | apply Kd.RqA | apply Kd.RqN | apply Kd.RqD)); exact (Kd.R_mono (Kd.R_far (p := ⟨gb374, 1, none⟩) (Kd.R_far (p := ⟨gb374, 0, none⟩) (Kd.R_types HO_352001.out BK374.out (by decide)) (fun _ hk => hk.2) (.int .i64 t369)) (fun _ hk => hk.2) (.slice Ao145 t370.length co145)) (fun _ h_ => h_.1))) hb) (Kd.R_below (by (with_reducible repeat (first | apply Kd.RqA | apply Kd.RqN | apply Kd.RqD)); exact (Kd.R_mono (Kd.R_far (p := ⟨gb374, 1, none⟩) (Kd.R_far (p := ⟨gb374, 0, none⟩) (Kd.R_types HO_358001.out BK374.out (by decide)) (fun _ hk => hk.2) (.int .i64 t369)) (fun _ hk => hk.2) (.slice Ao145 t370.length co145)) (fun _ h_ => h_.1))) hb) (Kd.R_below (by (with_reducible repeat (first | apply Kd.RqA | apply Kd.RqN | apply Kd.RqD)); exact (Kd.R_mono (Kd.R_far (p := ⟨gb374, 1, none⟩) (Kd.R_far (p := ⟨gb374, 0, none⟩) (Kd.R_types HO372.out BK374.out (by decide)) (fun _ hk => hk.2) (.int .i64 t369)) (fun _ hk => hk.2) (.slice Ao145 t370.length co145)) (fun _ h_ => h_.1))) hb) (kQB (g := gb343) (o := .cells #[.int .i64 t339, .slice Ao14 t340.length co14] 27 (0, 0)) (by (with_reducible repeat (first | refine kQN ?_ _ | refine kQD ?_ | refine kQA ?_ _)); refine kQR ?_ NB343_374.out _; (with_reducible repeat (first | refine kQN ?_ _ | refine kQD ?_ | refine kQA ?_ _)); refine kQR ?_ NB343_374.out _; (with_reducible repeat (first | refine kQN ?_ _ | refine kQD ?_ | refine kQA ?_ _)); exact BK343.out) hb) (kQB (g := gb351) (o := .cells #[.int .i64 t346, .slice Ao21 t347.length co21] 27 (0, 0)) (by (with_reducible repeat (first | refine kQN ?_ _ | refine kQD ?_ | refine kQA ?_ _)); refine kQR ?_ NB351_374.out _; (with_reducible repeat (first | refine kQN ?_ _ | refine kQD ?_ | refine kQA ?_ _)); refine kQR ?_ NB351_374.out _; (with_reducible repeat (first | refine kQN ?_ _ | refine kQD ?_ | refine kQA ?_ _)); exact BK351.out) hb) (kQB (g := gb357) (o := .cells #[.int .i64 t352, .slice Ao28 t353.length co28] 27 (0, 0)) (by (with_reducible repeat (first | refine kQN ?_ _ | refine kQD ?_ | refine kQA ?_ _)); refine kQR ?_ NB357_374.out _; (with_reducible repeat (first | refine kQN ?_ _ | refine kQD ?_ | refine kQA ?_ _)); refine kQR ?_ NB357_374.out _; (with_reducible repeat (first | refine kQN ?_ _ | refine kQD ?_ | refine kQA ?_ _)); exact BK357.out) hb) (kQB (g := gb374) (o := .cells #[.int .i64 t369, .slice Ao145 t370.length co145] 27 (0, 0)) (by (with_reducible repeat (first | refine kQN ?_ _ | refine kQD ?_ | refine kQA ?_ _)); refine kQP (cs := #[.int .i64 t369, .slice none 0 0]) ?_ 1 _ rfl; (with_reducible repeat (first | refine kQN ?_ _ | refine kQD ?_ | refine kQA ?_ _)); refine kQP (cs := #[.int .i64 0, .slice none 0 0]) ?_ 0 _ rfl; (with_reducible repeat (first | refine kQN ?_ _ | refine kQD ?_ | refine kQA ?_ _)); exact BK374.out) hb) (bQT tB hb) ?_; clear HO_344001 HO_352001 HO_358001 HO372 BK343 BK351 BK357 BK374 HB; intro HO_344001 HO_352001 HO_358001 HO372 BK343 BK351 BK357 BK374 HB; (try clear hb); (try clear hb2); (try clear hk); (try clear hi)) | ((with_reducible refine gQd (N := 25) rfl ?_); (try (refine gate_guard (by rfl) ?_; dsimp only)); refine xQe ?hg (N := 25) ?hd (cs := #[.int .i64 0, .slice none 0 0]) (t := 27) ?hr ?_; (case hd => rfl); (case hg => rfl); (case hr => exact tH); intro gb377 hg w147 hbox hb; refine qM20 (Kd.R_below (tR HO_344001.out) hb) (Kd.R_below (tR HO_352001.out) hb) (Kd.R_below (tR HO_358001.out) hb) (Kd.R_below (tR HO372.out) hb) (tQ BK343.out hb) (tQ BK351.out hb) (tQ BK357.out hb) (tQ BK374.out hb) (bQT tB hb) hbox (tZ w hg) (tZ w hg) ((by rw [hg]; exact Nat.ne_of_lt (blk_lt (g := gb343) (o := .cells #[.int .i64 t339, .slice Ao14 t340.length co14] 27 (0, 0)) (tG BK343.out)) : gb343 ≠ gb377)) ((by rw [hg]; exact Nat.ne_of_gt (blk_lt (g := gb343) (o := .cells #[.int .i64 t339, .slice Ao14 t340.length co14] 27 (0, 0)) (tG BK343.out)) : gb377 ≠ gb343)) ((by rw [hg]; exact Nat.ne_of_lt (blk_lt (g := gb351) (o := .cells #[.int .i64 t346, .slice Ao21 t347.length co21] 27 (0, 0)) (tG BK351.out)) : gb351 ≠ gb377)) ((by rw [hg]; exact Nat.ne_of_gt (blk_lt (g := gb351) (o := .cells #[.int .i64 t346, .slice Ao21 t347.length co21] 27 (0, 0)) (tG BK351.out)) : gb377 ≠ gb351)) ((by rw [hg]; exact Nat.ne_of_lt (blk_lt (g := gb357) (o := .cells #[.int .i64 t352, .slice Ao28 t353.length co28] 27 (0, 0)) (tG BK357.out)) : gb357 ≠ gb377)) ((by rw [hg]; exact Nat.ne_of_gt (blk_lt (g := gb357) (o := .cells #[.int .i64 t352, .slice Ao28 t353.length co28] 27 (0, 0)) (tG BK357.out)) : gb377 ≠ gb357)) ((by rw [hg]; exact Nat.ne_of_lt (blk_lt (g := gb374) (o := .cells #[.int .i64 t369, .slice Ao145 t370.length co145] 27 (0, 0)) (tG BK374.out)) : gb374 ≠ gb377)) ((by rw [hg]; exact Nat.ne_of_gt (blk_lt (g := gb374) (o := .cells #[.int .i64 t369, .slice Ao145 t370.length co145] 27 (0, 0)) (tG BK374.out)) : gb377 ≠ gb374)) ?_; clear HO_344001 HO_352001 HO_358001 HO372 BK343 BK351 BK357 BK374 HB; intro HO_344001 HO_352001 HO_358001 HO372 BK343 BK351 BK357 BK374 HB BK377 GW377 GE377 NB343_377 NB377_343 NB351_377 NB377_351 NB357_377 NB377_357 NB374_377 NB377_374; clear hb hbox hg; have hnb148 := NB377_343.out; have hnc148 := NB343_377.out; have hnb149 := NB377_351.out; have hnc149 := NB351_377.out; have hnb150 := NB377_357.out; have hnc150 := NB357_377.out; have hnb151 := NB377_374.out; have hnc151 := NB374_377.out; have hcz152_0 : w147.cell? ⟨gb377, 0, none⟩ = some (.int .i64 0) := (kQC BK377.out 0).trans rfl; have hcz152_1 : w147.cell? ⟨gb377, 1, none⟩ = some (.slice none 0 0) := (kQC BK377.out 1).trans rfl; have hfz152_0 := kQF BK377.out 0; have hfz152_1 := kQF BK377.out 1))
     go_loopg [26] k3 (fun kq v26 w' => ∃ (x26_4 : Int) (x378001_4 : List Int) (u378001 : Value), v26 = .int .i64 x26_4 ∧ Aq (laws_FnRanks.l3 kq l1 (wrap64 (1 + t338)) t344 t373 t375 t376 x26_4 t339 t340 (wrap64 (1 + t338)) x378001_4 = some r) ∧ Aq (kq ≤ k3) ∧ Aq (Kd.R (Kd.int .i64) 2 w' w.heap.size (fun k_ => some k_ ≠ ((.slice Ao21 t347.length co21) : Value).ownBlock ∧ some k_ ≠ ((.slice Ao28 t353.length co28) : Value).ownBlock ∧ some k_ ≠ ((.slice Ao145 t370.length co145) : Value).ownBlock ∧ some k_ ≠ (u378001 : Value).ownBlock) (.slice Ao14 t340.length co14) t340) ∧ Aq (Kd.R (Kd.int .i64) 2 w' w.heap.size (fun k_ => some k_ ≠ ((.slice Ao14 t340.length co14) : Value).ownBlock ∧ some k_ ≠ ((.slice Ao28 t353.length co28) : Value).ownBlock ∧ some k_ ≠ ((.slice Ao145 t370.length co145) : Value).ownBlock ∧ some k_ ≠ (u378001 : Value).ownBlock) (.slice Ao21 t347.length co21) t347) ∧ Aq (Kd.R (Kd.int .i64) 2 w' w.heap.size (fun k_ => some k_ ≠ ((.slice Ao14 t340.length co14) : Value).ownBlock ∧ some k_ ≠ ((.slice Ao21 t347.length co21) : Value).ownBlock ∧ some k_ ≠ ((.slice Ao145 t370.length co145) : Value).ownBlock ∧ some k_ ≠ (u378001 : Value).ownBlock) (.slice Ao28 t353.length co28) t353) ∧ Aq (Kd.R (Kd.int .i64) 2 w' w.heap.size (fun k_ => some k_ ≠ ((.slice Ao14 t340.length co14) : Value).ownBlock ∧ some k_ ≠ ((.slice Ao21 t347.length co21) : Value).ownBlock ∧ some k_ ≠ ((.slice Ao28 t353.length co28) : Value).ownBlock ∧ some k_ ≠ (u378001 : Value).ownBlock) (.slice Ao145 t370.length co145) t370) ∧ Aq (Kd.R (Kd.int .i64) 2 w' w.heap.size (fun k_ => some k_ ≠ ((.slice Ao14 t340.length co14) : Value).ownBlock ∧ some k_ ≠ ((.slice Ao21 t347.length co21) : Value).ownBlock ∧ some k_ ≠ ((.slice Ao28 t353.length co28) : Value).ownBlock ∧ some k_ ≠ ((.slice Ao145 t370.length co145) : Value).ownBlock) u378001 x378001_4) ∧ Aq (w'.heap[gb343]? = some (.cells #[.int .i64 t339, (.slice Ao14 t340.length co14)] 27 (0, 0))) ∧ Aq (w'.heap[gb351]? = some (.cells #[.int .i64 t346, (.slice Ao21 t347.length co21)] 27 (0, 0))) ∧ Aq (w'.heap[gb357]? = some (.cells #[.int .i64 t352, (.slice Ao28 t353.length co28)] 27 (0, 0))) ∧ Aq (w'.heap[gb374]? = some (.cells #[.int .i64 t369, (.slice Ao145 t370.length co145)] 27 (0, 0))) ∧ Aq (w'.heap[gb377]? = some (.cells #[.int .i64 (wrap64 (1 + t338)), u378001] 27 (0, 0))) ∧ Aq (Below w.heap.size w w'))
     case atStart => exact ⟨(0), (([] : List Int)), (.slice none 0 0), tS, H', ⟨Nat.le_refl _⟩, ⟨by (with_reducible repeat (first | apply Kd.RqA | apply Kd.RqN | apply Kd.RqD)); exact Kd.R_mono (Kd.R_far (p := ⟨gb377, 1, none⟩) (Kd.R_far (p := ⟨gb377, 0, none⟩) (Kd.R_types HO_344001.out BK377.out (by decide)) (fun _ hk => hk.2) (.int .i64 (wrap64 (1 + t338)))) (fun _ hk => hk.2) (.slice none 0 0)) (fun _ hk => ⟨hk.1.1.1, ⟨hk.1.1.2, ⟨hk.1.2, (by simp [Value.ownBlock])⟩⟩⟩)⟩, ⟨by (with_reducible repeat (first | apply Kd.RqA | apply Kd.RqN | apply Kd.RqD)); exact Kd.R_mono (Kd.R_far (p := ⟨gb377, 1, none⟩) (Kd.R_far (p := ⟨gb377, 0, none⟩) (Kd.R_types HO_352001.out BK377.out (by decide)) (fun _ hk => hk.2) (.int .i64 (wrap64 (1 + t338)))) (fun _ hk => hk.2) (.slice none 0 0)) (fun _ hk => ⟨hk.1.1.1, ⟨hk.1.1.2, ⟨hk.1.2, (by simp [Value.ownBlock])⟩⟩⟩)⟩, ⟨by (with_reducible repeat (first | apply Kd.RqA | apply Kd.RqN | apply Kd.RqD)); exact Kd.R_mono (Kd.R_far (p := ⟨gb377, 1, none⟩) (Kd.R_far (p := ⟨gb377, 0, none⟩) (Kd.R_types HO_358001.out BK377.out (by decide)) (fun _ hk => hk.2) (.int .i64 (wrap64 (1 + t338)))) (fun _ hk => hk.2) (.slice none 0 0)) (fun _ hk => ⟨hk.1.1.1, ⟨hk.1.1.2, ⟨hk.1.2, (by simp [Value.ownBlock])⟩⟩⟩)⟩, ⟨by (with_reducible repeat (first | apply Kd.RqA | apply Kd.RqN | apply Kd.RqD)); exact Kd.R_mono (Kd.R_far (p := ⟨gb377, 1, none⟩) (Kd.R_far (p := ⟨gb377, 0, none⟩) (Kd.R_types HO372.out BK377.out (by decide)) (fun _ hk => hk.2) (.int .i64 (wrap64 (1 + t338)))) (fun _ hk => hk.2) (.slice none 0 0)) (fun _ hk => ⟨hk.1.1.1.2, ⟨hk.1.1.2, ⟨hk.1.2, (by simp [Value.ownBlock])⟩⟩⟩)⟩, ⟨by first | exact Kd.R_nil _ _ _ _ _ | exact Kd.N_nil _ _ _ _ _ | exact Kd.V_nil _ _ _ _ _ | exact Kd.Q_nil _ _ _ _ _ | exact Kd.S_nil _ _ _ _ _⟩, ⟨by (with_reducible repeat (first | refine kQN ?_ _ | refine kQD ?_ | refine kQA ?_ _)); refine kQR ?_ NB343_377.out _; (with_reducible repeat (first | refine kQN ?_ _ | refine kQD ?_ | refine kQA ?_ _)); refine kQR ?_ NB343_377.out _; (with_reducible repeat (first | refine kQN ?_ _ | refine kQD ?_ | refine kQA ?_ _)); exact BK343.out⟩, ⟨by (with_reducible repeat (first | refine kQN ?_ _ | refine kQD ?_ | refine kQA ?_ _)); refine kQR ?_ NB351_377.out _; (with_reducible repeat (first | refine kQN ?_ _ | refine kQD ?_ | refine kQA ?_ _)); refine kQR ?_ NB351_377.out _; (with_reducible repeat (first | refine kQN ?_ _ | refine kQD ?_ | refine kQA ?_ _)); exact BK351.out⟩, ⟨by (with_reducible repeat (first | refine kQN ?_ _ | refine kQD ?_ | refine kQA ?_ _)); refine kQR ?_ NB357_377.out _; (with_reducible repeat (first | refine kQN ?_ _ | refine kQD ?_ | refine kQA ?_ _)); refine kQR ?_ NB357_377.out _; (with_reducible repeat (first | refine kQN ?_ _ | refine kQD ?_ | refine kQA ?_ _)); exact BK357.out⟩, ⟨by (with_reducible repeat (first | refine kQN ?_ _ | refine kQD ?_ | refine kQA ?_ _)); refine kQR ?_ NB374_377.out _; (with_reducible repeat (first | refine kQN ?_ _ | refine kQD ?_ | refine kQA ?_ _)); refine kQR ?_ NB374_377.out _; (with_reducible repeat (first | refine kQN ?_ _ | refine kQD ?_ | refine kQA ?_ _)); exact BK374.out⟩, ⟨by (with_reducible repeat (first | refine kQN ?_ _ | refine kQD ?_ | refine kQA ?_ _)); refine kQP (cs := #[.int .i64 (wrap64 (1 + t338)), .slice none 0 0]) ?_ 1 _ rfl; (with_reducible repeat (first | refine kQN ?_ _ | refine kQD ?_ | refine kQA ?_ _)); refine kQP (cs := #[.int .i64 0, .slice none 0 0]) ?_ 0 _ rfl; (with_reducible repeat (first | refine kQN ?_ _ | refine kQD ?_ | refine kQA ?_ _)); exact BK377.out⟩, ⟨tB⟩⟩
     rename_i za_3_0 za_3_1 za_3_2 za_3_3 za_3_4 za_3_5 za_3_6 za_3_7 za_3_8 za_3_9 za_3_10 za_3_11 za_3_12 za_3_13 za_3_14 za_3_15 za_3_16 za_3_17 za_3_18 za_3_19 za_3_20 za_3_21 za_3_22 za_3_23 za_3_24 za_3_25 za_3_26 za_3_27 za_3_28 za_3_29 za_3_30 za_3_31 za_3_32 za_3_33 za_3_34 za_3_35 za_3_36 za_3_37 za_3_38 za_3_39 za_3_40 za_3_41 za_3_42 za_3_43 za_3_44 za_3_45 za_3_46 za_3_47 za_3_48 za_3_49 za_3_50 za_3_51 za_3_52 za_3_53 za_3_54 za_3_55 za_3_56 za_3_57 za_3_58 za_3_59 za_3_60 za_3_61 za_3_62 za_3_63 za_3_64 za_3_65 za_3_66 za_3_67 za_3_68 za_3_69 za_3_70 za_3_71 za_3_72 za_3_73 za_3_74 za_3_75 za_3_76 za_3_77 za_3_78 za_3_79 za_3_80 za_3_81 za_3_82 za_3_83 za_3_84 za_3_85 za_3_86 za_3_87 za_3_88 za_3_89 za_3_90 za_3_91 za_3_92 za_3_93 za_3_94 za_3_95 za_3_96 za_3_97 za_3_98 za_3_99 za_3_100 za_3_101 za_3_102 za_3_103 za_3_104 za_3_105 za_3_106 za_3_107 za_3_108 za_3_109 za_3_110 za_3_111 za_3_112 za_3_113 za_3_114 za_3_115 za_3_116 za_3_117 za_3_118 za_3_119 za_3_120 za_3_121 za_3_122 za_3_123 za_3_124 za_3_125 za_3_126 za_3_127 za_3_128 za_3_129 za_3_130 za_3_131 za_3_132 za_3_133 za_3_134 za_3_135 za_3_136 za_3_137 za_3_138 za_3_139 za_3_140 za_3_141 za_3_142 za_3_143 za_3_144 za_3_145
     clear hG0_ hG1_ hG2_
     revert k A0 c0 l0 A1 c1 l1 r w hu27 HR0 HC0 HR1 HC1 za_3_0 A3 za_3_1 t338 A5 za_3_2 t339 t340 A6 za_3_3 t344 t345 A7 za_3_4 t346 t347 t350 A8 za_3_5 t352 t353 t356 A9 za_3_6 za_3_7 za_3_8 nd w11 gb343 w12 GW343 GE343 Ao14 co14 w15 w17 gb351 w18 GW351 GE351 NB343_351 NB351_343 hnb19 hnc19 Ao21 co21 w23 gb357 w24 za_3_9 za_3_10 za_3_11 za_3_12 GW357 GE357 NB343_357 NB357_343 NB351_357 NB357_351 hnb25 hnc25 hnb26 hnc26 Ao28 co28 HO342 HO349 HO355 wc u41 u42 u43 u44 u45 u46 u47 u48 u49 u50 u51 u52 u53 u54 u55 u56 u57 u58 u59 u60 u61 u62 u63 u64 u65 u66 u67 u68 u69 u70 u71 u72 u73 u74 u75 u76 u77 u78 u79 u80 u81 u82 u83 u84 u85 u86 u87 u88 u89 u90 u91 u92 u93 u94 u95 u96 za_3_13 za_3_14 za_3_15 za_3_16 za_3_17 za_3_18 za_3_19 za_3_20 za_3_21 za_3_22 za_3_23 za_3_24 za_3_25 za_3_26 za_3_27 za_3_28 za_3_29 za_3_30 za_3_31 za_3_32 za_3_33 za_3_34 za_3_35 za_3_36 za_3_37 za_3_38 za_3_39 za_3_40 za_3_41 za_3_42 za_3_43 za_3_44 za_3_45 za_3_46 za_3_47 za_3_48 za_3_49 za_3_50 za_3_51 za_3_52 za_3_53 za_3_54 za_3_55 za_3_56 za_3_57 za_3_58 za_3_59 za_3_60 za_3_61 za_3_62 za_3_63 za_3_64 za_3_65 za_3_66 za_3_67 za_3_68 za_3_69 za_3_70 za_3_71 za_3_72 za_3_73 za_3_74 za_3_75 za_3_76 za_3_77 za_3_78 za_3_79 za_3_80 za_3_81 za_3_82 za_3_83 za_3_84 za_3_85 za_3_86 za_3_87 za_3_88 za_3_89 za_3_90 u176 u177 u178 u179 u180 u181 u182 u183 u184 u185 u186 u187 u188 u189 u190 u191 u192 u193 za_3_91 za_3_92 za_3_93 za_3_94 za_3_95 za_3_96 za_3_97 za_3_98 za_3_99 za_3_100 za_3_101 za_3_102 za_3_103 za_3_104 za_3_105 za_3_106 za_3_107 u211 u212 u213 u214 u215 u216 u217 u218 u219 u220 u221 u222 u223 u224 u225 u226 u227 u228 u229 u230 u231 u232 u233 u234 u235 u236 u237 u238 u239 u240 u241 u242 u243 u244 u245 u246 u247 u248 u249 u250 u251 u252 u253 u254 u255 u256 u257 u258 u259 u260 u261 u262 u263 u264 u265 u266 u267 u268 u269 u270 u271 u272 u273 u274 u275 u276 u277 u278 u279 u280 u281 u282 u283 u284 u285 u286 u287 u288 u289 u290 u291 u292 u293 u294 u295 u296 u297 u298 u299 u300 u301 u302 u303 u304 u305 u306 u307 u308 u309 u310 u311 u312 u313 u314 u315 za_3_108 za_3_109 za_3_110 za_3_111 za_3_112 za_3_113 za_3_114 kj9 HJ9 za_3_115 za_3_116 za_3_117 u14 u15 u16 u17 u98 u99 u100 u101 u102 u103 u104 u105 u106 u107 u108 u109 u110 u111 u112 u113 u114 u115 u116 u117 u118 u119 u120 u121 u122 u123 u124 u125 u126 u127 u128 u129 u130 u131 u132 u133 u134 u135 u136 u137 u138 u139 u140 u141 u142 u143 u144 u145 u146 u147 u148 u149 u150 u151 u152 u153 u154 u155 u156 za_3_118 za_3_119 za_3_120 x13_2 za_3_121 za_3_122 za_3_123 za_3_124 za_3_125 za_3_126 za_3_127 k2 za_3_128 HK2 hnb109 hnc109 hnb110 hnc110 za_3_129 za_3_130 za_3_131 za_3_132 u4 u19 u20 u157 u158 u159 u160 u161 u162 u163 u164 u165 u166 u167 u168 u169 u170 u171 u172 u173 u174 u175 za_3_133 za_3_134 za_3_135 x18_3 k3 za_3_136 HK3 za_3_137 c112b0 c126 c126b0 c126b1 c126b2 t369 t370 t373 A132 H t375 t376 A133 H' hnb134 hnc134 hnb135 hnc135 hcz136_0 hcz136_1 hfz136_0 hfz136_1 hnb137 hnc137 hcz138_0 hcz138_1 hfz138_0 hfz138_1 za_3_138 za_3_139 w139 gb374 w140 GW374 GE374 NB343_374 NB374_343 NB351_374 NB374_351 NB357_374 NB374_357 hnb141 hnc141 hnb142 hnc142 hnb143 hnc143 hcz144_0 hcz144_1 hfz144_0 hfz144_1 Ao145 co145 w146 gb377 w147 HO_344001 HO_352001 HO_358001 HO372 BK343 BK351 BK357 BK374 HB BK377 GW377 GE377 NB343_377 NB377_343 NB351_377 NB377_351 NB357_377 NB377_357 NB374_377 NB377_374 hnb148 hnc148 hnb149 hnc149 hnb150 hnc150 hnb151 hnc151 hcz152_0 hcz152_1 hfz152_0 hfz152_1 za_3_140 za_3_141 gk wr u26 u194 u195 u196 u197 u198 u199 u200 u201 u202 u203 u204 u205 u206 u207 u208 u209 u210 hrel za_3_142 za_3_143 za_3_144 za_3_145
     exact hG3_.out
end Go.Proofs.Ythjfilmdobkmlaa.P
