/- Functions of the program and what they tell, as the printing program wrote it. -/
import Derived.Test.YtbalkaphibnpcaaPx0
import Derived.Test.YtbalkaphibnpcaaPx1
import Derived.Test.YtbalkaphibnpcaaPx5
import Derived.Test.YtbalkaphibnpcaaPx6
import Derived.Test.YtbalkaphibnpcaaPx30
namespace Go.Proofs.Ytbalkaphibnpcaa.P
open Go.Shelf Go.RowKit Go.Proofs.YtbalkaphibnpcaaW.PrintWords Go.Proofs.YtbalkaphibnpcaaW.PrintLast Go.Proofs.YtbalkaphibnpcaaW.PrintMore
attribute [local go_sem] max2_int min2_int max_two min_two max_three min_three max_four min_four
set_option linter.unusedVariables false
set_option linter.unusedSimpArgs false
set_option maxHeartbeats 8000000
set_option maxRecDepth 100000
mutual
def spec_l07Ok.j0 : Nat → Bool → Int → Int → Int → Int → List (List Int) → List (List Int) → Option (Bool)
  | 0, _, _, _, _, _, _, _ => none
  | k + 1, x47, x41000, x41001, x41002, x41003, x41004, x41005 => if x47 = true then (some false) else (spec_l07Ok.l0 k 0 x41000 x41001 x41002 x41003 x41004 x41005)
def spec_l07Ok.l0 : Nat → Int → Int → Int → Int → Int → List (List Int) → List (List Int) → Option (Bool)
  | 0, _, _, _, _, _, _, _ => none
  | k + 1, x3, x41000, x41001, x41002, x41003, x41004, x41005 => if x3 < (x41004.length : Int) then (if 0 ≤ x3 then (if ((rd_L1 x41004 x3).length : Int) = 2 then ((spec_l00Rises.f k (rd_L1 x41004 x3) 0 (wrap64 (x41002 - 1))).bind fun t383 => (if t383 = true then (if x3 > 0 then (if 0 ≤ (wrap64 (x3 - 1)) then (if (wrap64 (x3 - 1)) < (x41004.length : Int) then (if 0 < ((rd_L1 x41004 (wrap64 (x3 - 1))).length : Int) then (if 0 < ((rd_L1 x41004 x3).length : Int) then (if (rd (rd_L1 x41004 (wrap64 (x3 - 1))) 0) > (rd (rd_L1 x41004 x3) 0) then (some false) else (spec_l07Ok.l0 k (wrap64 (x3 + 1)) x41000 x41001 x41002 x41003 x41004 x41005)) else (none)) else (none)) else (none)) else (none)) else (spec_l07Ok.l0 k (wrap64 (x3 + 1)) x41000 x41001 x41002 x41003 x41004 x41005)) else (some false))) else (some false)) else (none)) else (spec_l07Ok.l1 k 0 x41000 x41001 x41002 x41003 x41004 x41005)
def spec_l07Ok.l1 : Nat → Int → Int → Int → Int → Int → List (List Int) → List (List Int) → Option (Bool)
  | 0, _, _, _, _, _, _, _ => none
  | k + 1, x4, x41000, x41001, x41002, x41003, x41004, x41005 => if x4 < (x41005.length : Int) then (if 0 ≤ x4 then (if x4 < (x41004.length : Int) then (if 0 < ((rd_L1 x41004 x4).length : Int) then ((spec_l07Has.f k x41000 x41001 x41002 x41003 x41004 x41005 (rd (rd_L1 x41004 x4) 0)).bind fun t391 => (if ((rd_L1 x41005 x4).length : Int) = t391 then ((spec_l04Elements.f k x41000 x41001 (rd_L1 x41005 x4)).bind fun t393 => (if t393 = true then (spec_l07Ok.l1 k (wrap64 (x4 + 1)) x41000 x41001 x41002 x41003 x41004 x41005) else (some false))) else (some false))) else (none)) else (none)) else (none)) else (some true)
end
def spec_l07Ok.f (k : Nat) (a0_0 : Int) (a0_1 : Int) (a0_2 : Int) (a0_3 : Int) (l0_4 : List (List Int)) (l0_5 : List (List Int)) : Option (Bool) := (spec_l01Ok.f k a0_0 a0_1).bind fun t378 => (if t378 = true then ((spec_l00In.f a0_2 2 8).bind fun t379 => (if t379 = true then ((spec_l00In.f a0_3 1 3).bind fun t380 => (if t380 = true then (if (l0_4.length : Int) > 14 then (spec_l07Ok.j0 k true a0_0 a0_1 a0_2 a0_3 l0_4 l0_5) else (spec_l07Ok.j0 k ((l0_5.length : Int) != (l0_4.length : Int)) a0_0 a0_1 a0_2 a0_3 l0_4 l0_5)) else (spec_l07Ok.j0 k true a0_0 a0_1 a0_2 a0_3 l0_4 l0_5))) else (spec_l07Ok.j0 k true a0_0 a0_1 a0_2 a0_3 l0_4 l0_5))) else (spec_l07Ok.j0 k true a0_0 a0_1 a0_2 a0_3 l0_4 l0_5))
theorem spec_l07Ok.mono_l : ∀ k, (∀ y0 y1 y2 y3 y4 y5 y6, LeO (spec_l07Ok.j0 k y0 y1 y2 y3 y4 y5 y6) (spec_l07Ok.j0 (k + 1) y0 y1 y2 y3 y4 y5 y6)) ∧ (∀ y0 y1 y2 y3 y4 y5 y6, LeO (spec_l07Ok.l0 k y0 y1 y2 y3 y4 y5 y6) (spec_l07Ok.l0 (k + 1) y0 y1 y2 y3 y4 y5 y6)) ∧ (∀ y0 y1 y2 y3 y4 y5 y6, LeO (spec_l07Ok.l1 k y0 y1 y2 y3 y4 y5 y6) (spec_l07Ok.l1 (k + 1) y0 y1 y2 y3 y4 y5 y6))
 | 0 => ⟨fun _ _ _ _ _ _ _ r h => by simp [spec_l07Ok.j0] at h, fun _ _ _ _ _ _ _ r h => by simp [spec_l07Ok.l0] at h, fun _ _ _ _ _ _ _ r h => by simp [spec_l07Ok.l1] at h⟩
 | k + 1 => by
  obtain ⟨ih0, ih1, ih2⟩ := spec_l07Ok.mono_l k
  refine ⟨?_, ?_, ?_⟩ <;> intros <;> first | unfold spec_l07Ok.j0 | unfold spec_l07Ok.l0 | unfold spec_l07Ok.l1
  all_goals repeat' first
   | (with_reducible first | apply ih0 | apply ih1 | apply ih2 | apply spec_l00Rises.mono | apply spec_l01Ok.mono | apply spec_l04Elements.mono | apply spec_l07Has.mono | exact LeO.refl _ | exact LeO.none _ | refine LeO.ite ?_ ?_ | refine LeO.bind ?_ (fun _ => ?_))
   | exact LeO.none _
   | refine LeO.ite ?_ ?_
   | refine LeO.bind ?_ (fun _ => ?_)
theorem spec_l07Ok.mono : ∀ a0 a1 a2 a3 a4 a5 k, LeO (spec_l07Ok.f k a0 a1 a2 a3 a4 a5) (spec_l07Ok.f (k + 1) a0 a1 a2 a3 a4 a5) := by
 intro a0 a1 a2 a3 a4 a5 k
 obtain ⟨ih0, ih1, ih2⟩ := spec_l07Ok.mono_l k
 unfold spec_l07Ok.f
 repeat' first
  | (with_reducible first | apply ih0 | apply ih1 | apply ih2 | apply spec_l00Rises.mono | apply spec_l01Ok.mono | apply spec_l04Elements.mono | apply spec_l07Has.mono | exact LeO.refl _ | exact LeO.none _ | refine LeO.ite ?_ ?_ | refine LeO.bind ?_ (fun _ => ?_))
  | exact LeO.none _
  | refine LeO.ite ?_ ?_
  | refine LeO.bind ?_ (fun _ => ?_)
def spec_l07Ok.T1 : Bool × List (List Nat × List Nat) := (true, [([], []), ([0], [0]), ([1], [1]), ([2], [2]), ([3], [3]), ([4], [4]), ([5, 4], [5]), ([6], [6]), ([7, 6], [6, 7]), ([8, 6], [6, 8]), ([9, 6], [6, 9]), ([10, 6, 6], [6, 10]), ([11, 6], [6, 11]), ([6, 12], [6, 12]), ([13, 11], [13]), ([14], [14]), ([15, 14], [14, 15]), ([16, 14], [14, 16]), ([17, 14], [14, 17]), ([18, 14, 14], [14, 18]), ([19, 14], [14, 19]), ([14, 20], [14, 20]), ([21, 19], [21]), ([22], [22]), ([23, 22], [22, 23]), ([24, 22], [22, 24]), ([25, 22], [22, 25]), ([26, 22], [22, 26]), ([27, 22], [22, 27]), ([22, 28], [22, 28]), ([29, 22], [29]), ([30], [30]), ([31, 30], [30, 31]), ([32, 30], [30, 32]), ([33, 30], [30, 33]), ([34, 30], [30, 34]), ([30], [30]), ([36, 30], [30, 36]), ([37, 30], [30, 37]), ([38, 30], [30, 38]), ([39, 30], [30, 39]), ([35, 40, 30], [30, 35, 40]), ([30, 41], [30, 41])])
def spec_l07Ok.B1 : List Nat := [0, 1, 3, 7, 15, 31, 63, 127, 255, 511, 1023, 2047, 4095, 8191, 16383, 32767, 65535, 131071, 262143, 524287, 1048575, 2097151, 4194303, 8388607, 16777215, 33554431, 67108863, 134217727, 268435455, 536870911, 1073741823, 2147483647, 4294967295, 8589934591, 17179869183, 34359738367, 2147483647, 70866960383, 208305913855, 483183820799, 1032939634687, 2199023255551, 4398046511103]
theorem spec_l07Ok.tab1 : rtab .any (opsOf Try.f78 1) = spec_l07Ok.T1 := by kernel_rfl
theorem spec_l07Ok.bits1 : waitsOk spec_l07Ok.T1.2 spec_l07Ok.B1 = true := by kernel_rfl
def spec_l07Ok.T6 : Bool × List (List Nat × List Nat) := (true, [([], []), ([0], [0]), ([1], [1]), ([2], [2]), ([], []), ([3, 4], [3, 4]), ([5], [5]), ([6], [6]), ([7], [7]), ([8], [8]), ([9], [9]), ([10, 9], [9, 10]), ([11, 9], [9, 11]), ([12, 9], [9, 12]), ([9], [9]), ([13, 14, 9], [9, 13, 14]), ([15, 9], [9, 15]), ([9], [9]), ([17, 9], [9, 17]), ([18, 9], [9, 18]), ([19, 9], [9, 19]), ([20, 9], [9, 20]), ([16, 21, 9, 9], [9, 16, 21]), ([22, 9], [9, 22]), ([9, 23], [9, 23]), ([24, 22], [24]), ([25], [25]), ([26, 25], [25, 26]), ([27, 25, 25], [25, 27]), ([28], [28]), ([29, 28], [28, 29]), ([30, 28], [28, 30]), ([31, 28], [28, 31]), ([28], [28]), ([33, 28], [28, 33]), ([32, 34, 28], [28, 32, 34]), ([35, 28], [28, 35]), ([36, 28], [28, 36]), ([37, 28], [28, 37]), ([28], [28]), ([39, 28], [28, 39]), ([40, 28], [28, 40]), ([41, 28], [28, 41]), ([28], [28]), ([42, 43, 28], [28, 42, 43]), ([44, 28], [28, 44]), ([45, 28], [28, 45]), ([46, 28], [28, 46]), ([38, 47, 28], [28, 38, 47]), ([28, 48, 25], [25, 28, 48]), ([25, 49], [25, 49])])
def spec_l07Ok.B6 : List Nat := [0, 1, 3, 7, 0, 31, 63, 127, 255, 511, 1023, 2047, 4095, 8191, 1023, 32767, 65535, 1023, 132095, 394239, 918527, 1967103, 4194303, 8388607, 16777215, 33554431, 67108863, 134217727, 268435455, 536870911, 1073741823, 2147483647, 4294967295, 536870911, 9126805503, 34359738367, 68719476735, 137438953471, 274877906943, 536870911, 550292684799, 1649804312575, 3848827568127, 536870911, 17042967101439, 34635153145855, 69819525234687, 140188269412351, 281474976710655, 562949953421311, 1125899906842623]
theorem spec_l07Ok.tab6 : rtab .any (opsOf Try.f78 6) = spec_l07Ok.T6 := by kernel_rfl
theorem spec_l07Ok.bits6 : waitsOk spec_l07Ok.T6.2 spec_l07Ok.B6 = true := by kernel_rfl
def spec_l07Ok.T11 : Bool × List (List Nat × List Nat) := (true, [([], []), ([0], [0]), ([1], [1]), ([2], [2]), ([], []), ([3, 4], [3, 4]), ([5], [5]), ([6], [6]), ([], []), ([], []), ([9], [9]), ([10], [10]), ([11], [11]), ([], []), ([12, 13], [12, 13]), ([14], [14]), ([15], [15]), ([16], [16]), ([8, 17], [8, 17]), ([7, 18], [7, 18]), ([19, 18], [19]), ([20], [20]), ([21, 20], [20, 21]), ([22, 20], [20, 22]), ([23, 20], [20, 23]), ([20], [20]), ([25, 20], [20, 25]), ([26, 20], [20, 26]), ([27, 20], [20, 27]), ([20], [20]), ([28, 29, 20], [20, 28, 29]), ([30, 20], [20, 30]), ([24, 31, 20, 20], [20, 24, 31]), ([32, 20], [20, 32]), ([20, 33], [20, 33])])
def spec_l07Ok.B11 : List Nat := [0, 1, 3, 7, 0, 31, 63, 127, 0, 0, 512, 1536, 3584, 0, 15872, 32256, 65024, 130560, 261888, 524287, 1048575, 2097151, 4194303, 8388607, 16777215, 2097151, 35651583, 102760447, 236978175, 2097151, 1042284543, 2116026367, 4294967295, 8589934591, 17179869183]
theorem spec_l07Ok.tab11 : rtab .any (opsOf Try.f78 11) = spec_l07Ok.T11 := by kernel_rfl
theorem spec_l07Ok.bits11 : waitsOk spec_l07Ok.T11.2 spec_l07Ok.B11 = true := by kernel_rfl
theorem spec_l07Ok.calls (k : Nat) (g0_0 : Addr) (a0_0 : Int) (a0_1 : Int) (a0_2 : Int) (a0_3 : Int) (A0_4 : Option Addr) (c0_4 : Nat) (l0_4 : List (List Int)) (A0_5 : Option Addr) (c0_5 : Nat) (l0_5 : List (List Int)) (r : Bool) (w : World) (hr0_4 : Kd.C (Kd.slice 2 (Kd.int .i64)) w A0_4 l0_4.length l0_4) (hc0_4 : l0_4.length ≤ c0_4) (hr0_5 : Kd.C (Kd.slice 2 (Kd.int .i64)) w A0_5 l0_5.length l0_5) (hc0_5 : l0_5.length ≤ c0_5) (hb0_0 : AtC w g0_0 [.int .i64 a0_0, .int .i64 a0_1, .int .i64 a0_2, .int .i64 a0_3, .slice A0_4 l0_4.length c0_4, .slice A0_5 l0_5.length c0_5]) (h : spec_l07Ok.f k a0_0 a0_1 a0_2 a0_3 l0_4 l0_5 = some r) :
 Calls Try.prog 78 #[.pointer (some g0_0)] w fun e w' => e = .returned (.bool r) ∧ Below w.heap.size w w' := by
 have hu28 := Try.underlying28
 have HR0_4 := Aq.mk hr0_4
 have HC0_4 := Aq.mk hc0_4
 clear hr0_4 hc0_4
 have HR0_5 := Aq.mk hr0_5
 have HC0_5 := Aq.mk hc0_5
 clear hr0_5 hc0_5
 have BK40 := Aq.mk hb0_0
 clear hb0_0
 have HB := Aq.mk (Below.refl w.heap.size w)
 have H : ((spec_l01Ok.f k a0_0 a0_1).bind fun t378 => (if t378 = true then ((spec_l00In.f a0_2 2 8).bind fun t379 => (if t379 = true then ((spec_l00In.f a0_3 1 3).bind fun t380 => (if t380 = true then (if (l0_4.length : Int) > 14 then (spec_l07Ok.j0 k true a0_0 a0_1 a0_2 a0_3 l0_4 l0_5) else (spec_l07Ok.j0 k ((l0_5.length : Int) != (l0_4.length : Int)) a0_0 a0_1 a0_2 a0_3 l0_4 l0_5)) else (spec_l07Ok.j0 k true a0_0 a0_1 a0_2 a0_3 l0_4 l0_5))) else (spec_l07Ok.j0 k true a0_0 a0_1 a0_2 a0_3 l0_4 l0_5))) else (spec_l07Ok.j0 k true a0_0 a0_1 a0_2 a0_3 l0_4 l0_5))) = some r := h
 clear h
 have HC2 := Aq.mk H
 clear H
 go_enter Try.func78, Try.ntmps78
 go_upto_region 1 with (fail)
 go_cut [47] (fun v47 wc => ∃ (kq : Nat) (x47_1 : Bool), v47 = .bool x47_1 ∧ Aq (spec_l07Ok.j0 kq x47_1 a0_0 a0_1 a0_2 a0_3 l0_4 l0_5 = some r) ∧ Aq (kq ≤ k) ∧ Aq (Below w.heap.size w wc))
 case first =>
  have H := HC2.out
  clear HC2
  obtain ⟨t378, A3, H⟩ := qBd H
  by_cases c4 : t378 = true
  rotate_left
  ·replace c4 := Bool.eq_false_iff.mpr c4
   subst c4
   rw [if_neg (show ¬ (false = true) by decide)] at H
   replace H' := Aq.mk H
   clear H
   try go_wp2
   have n0_ := Aq.mk (bQ1 HB.out)
   clear HB
   have HB := n0_
   clear n0_
   refine start_ (n := 43) (S := fun w' => w'.cell? g0_0 = some (.int .i64 a0_0) ∧ w'.cell? ⟨g0_0.block, g0_0.off + 1, none⟩ = some (.int .i64 a0_1) ∧ w'.cell? ⟨g0_0.block, g0_0.off + 2, none⟩ = some (.int .i64 a0_2) ∧ w'.cell? ⟨g0_0.block, g0_0.off + 3, none⟩ = some (.int .i64 a0_3) ∧ w'.cell? ⟨g0_0.block, g0_0.off + 4, none⟩ = some (.slice A0_4 l0_4.length c0_4) ∧ w'.cell? ⟨g0_0.block, g0_0.off + 5, none⟩ = some (.slice A0_5 l0_5.length c0_5)) (ds := []) #[false, false, false, false, false, false, false, false, false, false, false, false, false, false, false, false, false, false, false, false, false, false, false, false, false, false, false, false, false, false, false, false, false, false, false, false, false, false, false, false, false, false, false] (by kernel_rfl) rfl rfl ⟨(tcw tB (AtC.cell0 BK40.out _ rfl)), (tcw tB (AtC.cell BK40.out 1 _ (by decide) rfl)), (tcw tB (AtC.cell BK40.out 2 _ (by decide) rfl)), (tcw tB (AtC.cell BK40.out 3 _ (by decide) rfl)), (tcw tB (AtC.cell BK40.out 4 _ (by decide) rfl)), (tcw tB (AtC.cell BK40.out 5 _ (by decide) rfl))⟩ (fun hHeld => ?_); refine with_tabW spec_l07Ok.tab1 spec_l07Ok.bits1 (fun HT_ HW_ => ?_)
   generalize w.drew = w18 at HB hHeld ⊢
   refine tP0 0 5 (bm 43 1) ?_
   refine tP0 1 6 (bm 43 3) ?_
   refine tP0 2 7 (bm 43 7) ?_
   refine tT6 3 8 (bm 43 15) ?_
   refine one_ (i := 4) (N := some 9) (bm 43 31) rfl rfl (one_of HT_.out (by kernel_rfl)) (by decide) (fun K hK => ?_)
   refine goes_ Try.func61 (by kernel_rfl) rfl #[.agg #[.int .i64 a0_0, .int .i64 a0_1]] (by rfl) rfl rfl tL ?_
   with_reducible refine (spec_l01Ok.calls k a0_0 a0_1 false _ A3.out).mono ?_
   rintro e w19 ⟨rfl, hb⟩
   refine ⟨_, rfl, ?_⟩
   have n0_ := Aq.mk (bQT tB hb)
   clear HB
   have HB := n0_
   clear n0_
   (try clear hb)
   (try clear hb2)
   (try clear hk)
   (try clear hi)
   refine hK.out _ _ ⟨(tcw tB (AtC.cell0 BK40.out _ rfl)), (tcw tB (AtC.cell BK40.out 1 _ (by decide) rfl)), (tcw tB (AtC.cell BK40.out 2 _ (by decide) rfl)), (tcw tB (AtC.cell BK40.out 3 _ (by decide) rfl)), (tcw tB (AtC.cell BK40.out 4 _ (by decide) rfl)), (tcw tB (AtC.cell BK40.out 5 _ (by decide) rfl))⟩ (fun hHeld => ?_)
   clear hK K
   refine tN 9 ?_
   refine tP0 5 10 (bm 43 63) ?_
   refine tP0 6 11 (bm 43 127) ?_
   refine pure_ (i := 7) (N := some 12) (v := undef) (a' := ?_) #[true, true, true, true, true, true, true, true, false, false, false, false, false, false, false, false, false, false, false, false, false, false, false, false, false, false, false, false, false, false, false, false, false, false, false, false, false, false, false, false, false, false, false] rfl rfl (any_of HT_.out (by kernel_rfl)) (fun _ _ _ h => h) (Or.inr ⟨by rfl, rfl⟩) ?_ ?_
   rotate_left
   ·simp only [Act.put, qSa, qSb, qSc, i64_w, i32_w]
    rfl
   refine pure_ (i := 8) (N := some 13) (v := undef) (a' := ?_) #[true, true, true, true, true, true, true, true, true, false, false, false, false, false, false, false, false, false, false, false, false, false, false, false, false, false, false, false, false, false, false, false, false, false, false, false, false, false, false, false, false, false, false] rfl rfl (any_of HT_.out (by kernel_rfl)) (fun _ _ _ h => h) (Or.inr ⟨by rfl, rfl⟩) ?_ ?_
   rotate_left
   ·simp only [Act.put, qSa, qSb, qSc, i64_w, i32_w]
    rfl
   refine pure_ (i := 9) (N := some 14) (v := undef) (a' := ?_) #[true, true, true, true, true, true, true, true, true, true, false, false, false, false, false, false, false, false, false, false, false, false, false, false, false, false, false, false, false, false, false, false, false, false, false, false, false, false, false, false, false, false, false] rfl rfl (any_of HT_.out (by kernel_rfl)) (fun _ _ _ h => h) (Or.inr ⟨by rfl, rfl⟩) ?_ ?_
   rotate_left
   ·simp only [Act.put, qSa, qSb, qSc, i64_w, i32_w]
    rfl
   refine pure_ (i := 10) (N := some 15) (v := undef) (a' := ?_) #[true, true, true, true, true, true, true, true, true, true, true, false, false, false, false, false, false, false, false, false, false, false, false, false, false, false, false, false, false, false, false, false, false, false, false, false, false, false, false, false, false, false, false] rfl rfl (any_of HT_.out (by kernel_rfl)) (fun _ _ _ h => h) (Or.inr ⟨by rfl, rfl⟩) ?_ ?_
   rotate_left
   ·simp only [Act.put, qSa, qSb, qSc, i64_w, i32_w]
    rfl
   refine pure_ (i := 11) (N := some 16) (v := undef) (a' := ?_) #[true, true, true, true, true, true, true, true, true, true, true, true, false, false, false, false, false, false, false, false, false, false, false, false, false, false, false, false, false, false, false, false, false, false, false, false, false, false, false, false, false, false, false] rfl rfl (any_of HT_.out (by kernel_rfl)) (fun _ _ _ h => h) (Or.inr ⟨by rfl, rfl⟩) ?_ ?_
   rotate_left
   ·simp only [Act.put, qSa, qSb, qSc, i64_w, i32_w]
    rfl
   refine pure_ (i := 12) (N := some 17) (v := undef) (a' := ?_) #[true, true, true, true, true, true, true, true, true, true, true, true, true, false, false, false, false, false, false, false, false, false, false, false, false, false, false, false, false, false, false, false, false, false, false, false, false, false, false, false, false, false, false] rfl rfl (any_of HT_.out (by kernel_rfl)) (fun _ _ _ h => h) (Or.inr ⟨by rfl, rfl⟩) ?_ ?_
   rotate_left
   ·simp only [Act.put, qSa, qSb, qSc, i64_w, i32_w]
    rfl
   refine tP0 13 18 (bm 43 16383) ?_
   refine tP0 14 19 (bm 43 32767) ?_
   refine pure_ (i := 15) (N := some 20) (v := undef) (a' := ?_) #[true, true, true, true, true, true, true, true, true, true, true, true, true, true, true, true, false, false, false, false, false, false, false, false, false, false, false, false, false, false, false, false, false, false, false, false, false, false, false, false, false, false, false] rfl rfl (any_of HT_.out (by kernel_rfl)) (fun _ _ _ h => h) (Or.inr ⟨by rfl, rfl⟩) ?_ ?_
   rotate_left
   ·simp only [Act.put, qSa, qSb, qSc, i64_w, i32_w]
    rfl
   refine pure_ (i := 16) (N := some 21) (v := undef) (a' := ?_) #[true, true, true, true, true, true, true, true, true, true, true, true, true, true, true, true, true, false, false, false, false, false, false, false, false, false, false, false, false, false, false, false, false, false, false, false, false, false, false, false, false, false, false] rfl rfl (any_of HT_.out (by kernel_rfl)) (fun _ _ _ h => h) (Or.inr ⟨by rfl, rfl⟩) ?_ ?_
   rotate_left
   ·simp only [Act.put, qSa, qSb, qSc, i64_w, i32_w]
    rfl
   refine pure_ (i := 17) (N := some 22) (v := undef) (a' := ?_) #[true, true, true, true, true, true, true, true, true, true, true, true, true, true, true, true, true, true, false, false, false, false, false, false, false, false, false, false, false, false, false, false, false, false, false, false, false, false, false, false, false, false, false] rfl rfl (any_of HT_.out (by kernel_rfl)) (fun _ _ _ h => h) (Or.inr ⟨by rfl, rfl⟩) ?_ ?_
   rotate_left
   ·simp only [Act.put, qSa, qSb, qSc, i64_w, i32_w]
    rfl
   refine pure_ (i := 18) (N := some 23) (v := undef) (a' := ?_) #[true, true, true, true, true, true, true, true, true, true, true, true, true, true, true, true, true, true, true, false, false, false, false, false, false, false, false, false, false, false, false, false, false, false, false, false, false, false, false, false, false, false, false] rfl rfl (any_of HT_.out (by kernel_rfl)) (fun _ _ _ h => h) (Or.inr ⟨by rfl, rfl⟩) ?_ ?_
   rotate_left
   ·simp only [Act.put, qSa, qSb, qSc, i64_w, i32_w]
    rfl
   refine pure_ (i := 19) (N := some 24) (v := undef) (a' := ?_) #[true, true, true, true, true, true, true, true, true, true, true, true, true, true, true, true, true, true, true, true, false, false, false, false, false, false, false, false, false, false, false, false, false, false, false, false, false, false, false, false, false, false, false] rfl rfl (any_of HT_.out (by kernel_rfl)) (fun _ _ _ h => h) (Or.inr ⟨by rfl, rfl⟩) ?_ ?_
   rotate_left
   ·simp only [Act.put, qSa, qSb, qSc, i64_w, i32_w]
    rfl
   refine pure_ (i := 20) (N := some 25) (v := undef) (a' := ?_) #[true, true, true, true, true, true, true, true, true, true, true, true, true, true, true, true, true, true, true, true, true, false, false, false, false, false, false, false, false, false, false, false, false, false, false, false, false, false, false, false, false, false, false] rfl rfl (any_of HT_.out (by kernel_rfl)) (fun _ _ _ h => h) (Or.inr ⟨by rfl, rfl⟩) ?_ ?_
   rotate_left
   ·simp only [Act.put, qSa, qSb, qSc, i64_w, i32_w]
    rfl
   refine tP0 21 26 (bm 43 4194303) ?_
   refine tP0 22 27 (bm 43 8388607) ?_
   refine pure_ (i := 23) (N := some 28) (v := undef) (a' := ?_) #[true, true, true, true, true, true, true, true, true, true, true, true, true, true, true, true, true, true, true, true, true, true, true, true, false, false, false, false, false, false, false, false, false, false, false, false, false, false, false, false, false, false, false] rfl rfl (any_of HT_.out (by kernel_rfl)) (fun _ _ _ h => h) (Or.inr ⟨by rfl, rfl⟩) ?_ ?_
   rotate_left
   ·simp only [Act.put, qSa, qSb, qSc, i64_w, i32_w]
    rfl
   refine pure_ (i := 24) (N := some 29) (v := undef) (a' := ?_) #[true, true, true, true, true, true, true, true, true, true, true, true, true, true, true, true, true, true, true, true, true, true, true, true, true, false, false, false, false, false, false, false, false, false, false, false, false, false, false, false, false, false, false] rfl rfl (any_of HT_.out (by kernel_rfl)) (fun _ _ _ h => h) (Or.inr ⟨by rfl, rfl⟩) ?_ ?_
   rotate_left
   ·simp only [Act.put, qSa, qSb, qSc, i64_w, i32_w]
    rfl
   refine pure_ (i := 25) (N := some 30) (v := undef) (a' := ?_) #[true, true, true, true, true, true, true, true, true, true, true, true, true, true, true, true, true, true, true, true, true, true, true, true, true, true, false, false, false, false, false, false, false, false, false, false, false, false, false, false, false, false, false] rfl rfl (any_of HT_.out (by kernel_rfl)) (fun _ _ _ h => h) (Or.inr ⟨by rfl, rfl⟩) ?_ ?_
   rotate_left
   ·simp only [Act.put, qSa, qSb, qSc, i64_w, i32_w]
    rfl
   refine pure_ (i := 26) (N := some 31) (v := undef) (a' := ?_) #[true, true, true, true, true, true, true, true, true, true, true, true, true, true, true, true, true, true, true, true, true, true, true, true, true, true, true, false, false, false, false, false, false, false, false, false, false, false, false, false, false, false, false] rfl rfl (any_of HT_.out (by kernel_rfl)) (fun _ _ _ h => h) (Or.inr ⟨by rfl, rfl⟩) ?_ ?_
   rotate_left
   ·simp only [Act.put, qSa, qSb, qSc, i64_w, i32_w]
    rfl
   refine pure_ (i := 27) (N := some 32) (v := undef) (a' := ?_) #[true, true, true, true, true, true, true, true, true, true, true, true, true, true, true, true, true, true, true, true, true, true, true, true, true, true, true, true, false, false, false, false, false, false, false, false, false, false, false, false, false, false, false] rfl rfl (any_of HT_.out (by kernel_rfl)) (fun _ _ _ h => h) (Or.inr ⟨by rfl, rfl⟩) ?_ ?_
   rotate_left
   ·simp only [Act.put, qSa, qSb, qSc, i64_w, i32_w]
    rfl
   refine pure_ (i := 28) (N := some 33) (v := undef) (a' := ?_) #[true, true, true, true, true, true, true, true, true, true, true, true, true, true, true, true, true, true, true, true, true, true, true, true, true, true, true, true, true, false, false, false, false, false, false, false, false, false, false, false, false, false, false] rfl rfl (any_of HT_.out (by kernel_rfl)) (fun _ _ _ h => h) (Or.inr ⟨by rfl, rfl⟩) ?_ ?_
   rotate_left
   ·simp only [Act.put, qSa, qSb, qSc, i64_w, i32_w]
    rfl
   refine tP0 29 34 (bm 43 1073741823) ?_
   refine tP0 30 35 (bm 43 2147483647) ?_
   refine pure_ (i := 31) (N := some 36) (v := undef) (a' := ?_) #[true, true, true, true, true, true, true, true, true, true, true, true, true, true, true, true, true, true, true, true, true, true, true, true, true, true, true, true, true, true, true, true, false, false, false, false, false, false, false, false, false, false, false] rfl rfl (any_of HT_.out (by kernel_rfl)) (fun _ _ _ h => h) (Or.inr ⟨by rfl, rfl⟩) ?_ ?_
   rotate_left
   ·simp only [Act.put, qSa, qSb, qSc, i64_w, i32_w]
    rfl
   refine pure_ (i := 32) (N := some 37) (v := undef) (a' := ?_) #[true, true, true, true, true, true, true, true, true, true, true, true, true, true, true, true, true, true, true, true, true, true, true, true, true, true, true, true, true, true, true, true, true, false, false, false, false, false, false, false, false, false, false] rfl rfl (any_of HT_.out (by kernel_rfl)) (fun _ _ _ h => h) (Or.inr ⟨by rfl, rfl⟩) ?_ ?_
   rotate_left
   ·simp only [Act.put, qSa, qSb, qSc, i64_w, i32_w]
    rfl
   refine pure_ (i := 33) (N := some 38) (v := undef) (a' := ?_) #[true, true, true, true, true, true, true, true, true, true, true, true, true, true, true, true, true, true, true, true, true, true, true, true, true, true, true, true, true, true, true, true, true, true, false, false, false, false, false, false, false, false, false] rfl rfl (any_of HT_.out (by kernel_rfl)) (fun _ _ _ h => h) (Or.inr ⟨by rfl, rfl⟩) ?_ ?_
   rotate_left
   ·simp only [Act.put, qSa, qSb, qSc, i64_w, i32_w]
    rfl
   refine pure_ (i := 34) (N := some 39) (v := undef) (a' := ?_) #[true, true, true, true, true, true, true, true, true, true, true, true, true, true, true, true, true, true, true, true, true, true, true, true, true, true, true, true, true, true, true, true, true, true, true, false, false, false, false, false, false, false, false] rfl rfl (any_of HT_.out (by kernel_rfl)) (fun _ _ _ h => h) (Or.inr ⟨by rfl, rfl⟩) ?_ ?_
   rotate_left
   ·simp only [Act.put, qSa, qSb, qSc, i64_w, i32_w]
    rfl
   refine pure_ (i := 35) (N := some 40) (v := undef) (a' := ?_) #[true, true, true, true, true, true, true, true, true, true, true, true, true, true, true, true, true, true, true, true, true, true, true, true, true, true, true, true, true, true, true, true, true, true, true, true, false, false, false, false, false, false, false] rfl rfl (any_of HT_.out (by kernel_rfl)) (fun _ _ _ h => h) (Or.inr ⟨by rfl, rfl⟩) ?_ ?_
   rotate_left
   ·simp only [Act.put, qSa, qSb, qSc, i64_w, i32_w]
    rfl
   refine pure_ (i := 36) (N := some 41) (v := undef) (a' := ?_) #[true, true, true, true, true, true, true, true, true, true, true, true, true, true, true, true, true, true, true, true, true, true, true, true, true, true, true, true, true, true, true, true, true, true, true, true, true, false, false, false, false, false, false] rfl rfl (any_of HT_.out (by kernel_rfl)) (fun _ _ _ h => h) (Or.inr ⟨by rfl, rfl⟩) ?_ ?_
   rotate_left
   ·simp only [Act.put, qSa, qSb, qSc, i64_w, i32_w]
    rfl
   refine pure_ (i := 37) (N := some 42) (v := undef) (a' := ?_) #[true, true, true, true, true, true, true, true, true, true, true, true, true, true, true, true, true, true, true, true, true, true, true, true, true, true, true, true, true, true, true, true, true, true, true, true, true, true, false, false, false, false, false] rfl rfl (any_of HT_.out (by kernel_rfl)) (fun _ _ _ h => h) (Or.inr ⟨by rfl, rfl⟩) ?_ ?_
   rotate_left
   ·simp only [Act.put, qSa, qSb, qSc, i64_w, i32_w]
    rfl
   refine pure_ (i := 38) (N := some 43) (v := undef) (a' := ?_) #[true, true, true, true, true, true, true, true, true, true, true, true, true, true, true, true, true, true, true, true, true, true, true, true, true, true, true, true, true, true, true, true, true, true, true, true, true, true, true, false, false, false, false] rfl rfl (any_of HT_.out (by kernel_rfl)) (fun _ _ _ h => h) (Or.inr ⟨by rfl, rfl⟩) ?_ ?_
   rotate_left
   ·simp only [Act.put, qSa, qSb, qSc, i64_w, i32_w]
    rfl
   refine pure_ (i := 39) (N := some 44) (v := undef) (a' := ?_) #[true, true, true, true, true, true, true, true, true, true, true, true, true, true, true, true, true, true, true, true, true, true, true, true, true, true, true, true, true, true, true, true, true, true, true, true, true, true, true, true, false, false, false] rfl rfl (any_of HT_.out (by kernel_rfl)) (fun _ _ _ h => h) (Or.inr ⟨by rfl, rfl⟩) ?_ ?_
   rotate_left
   ·simp only [Act.put, qSa, qSb, qSc, i64_w, i32_w]
    rfl
   refine pure_ (i := 40) (N := some 45) (v := undef) (a' := ?_) #[true, true, true, true, true, true, true, true, true, true, true, true, true, true, true, true, true, true, true, true, true, true, true, true, true, true, true, true, true, true, true, true, true, true, true, true, true, true, true, true, true, false, false] rfl rfl (any_of HT_.out (by kernel_rfl)) (fun _ _ _ h => h) (Or.inr ⟨by rfl, rfl⟩) ?_ ?_
   rotate_left
   ·simp only [Act.put, qSa, qSb, qSc, i64_w, i32_w]
    rfl
   refine pure_ (i := 41) (N := some 46) (v := undef) (a' := ?_) #[true, true, true, true, true, true, true, true, true, true, true, true, true, true, true, true, true, true, true, true, true, true, true, true, true, true, true, true, true, true, true, true, true, true, true, true, true, true, true, true, true, true, false] rfl rfl (any_of HT_.out (by kernel_rfl)) (fun _ _ _ h => h) (Or.inr ⟨by rfl, rfl⟩) ?_ ?_
   rotate_left
   ·simp only [Act.put, qSa, qSb, qSc, i64_w, i32_w]
    rfl
   refine tP0 42 47 (bm 43 8796093022207) ?_
   refine done_ (done_of HT_.out (by kernel_rfl)) ?_
   try go_wp2
   go_meet
   case rel => exact ⟨_, (true), tS, H', ⟨tO⟩, ⟨tB⟩⟩
  subst c4
  rw [if_pos rfl] at H
  obtain ⟨t379, A5, H⟩ := qBd H
  by_cases c6 : t379 = true
  rotate_left
  ·replace c6 := Bool.eq_false_iff.mpr c6
   subst c6
   rw [if_neg (show ¬ (false = true) by decide)] at H
   replace H' := Aq.mk H
   clear H
   try go_wp2
   have n0_ := Aq.mk (bQ1 HB.out)
   clear HB
   have HB := n0_
   clear n0_
   refine start_ (n := 43) (S := fun w' => w'.cell? g0_0 = some (.int .i64 a0_0) ∧ w'.cell? ⟨g0_0.block, g0_0.off + 1, none⟩ = some (.int .i64 a0_1) ∧ w'.cell? ⟨g0_0.block, g0_0.off + 2, none⟩ = some (.int .i64 a0_2) ∧ w'.cell? ⟨g0_0.block, g0_0.off + 3, none⟩ = some (.int .i64 a0_3) ∧ w'.cell? ⟨g0_0.block, g0_0.off + 4, none⟩ = some (.slice A0_4 l0_4.length c0_4) ∧ w'.cell? ⟨g0_0.block, g0_0.off + 5, none⟩ = some (.slice A0_5 l0_5.length c0_5)) (ds := []) #[false, false, false, false, false, false, false, false, false, false, false, false, false, false, false, false, false, false, false, false, false, false, false, false, false, false, false, false, false, false, false, false, false, false, false, false, false, false, false, false, false, false, false] (by kernel_rfl) rfl rfl ⟨(tcw tB (AtC.cell0 BK40.out _ rfl)), (tcw tB (AtC.cell BK40.out 1 _ (by decide) rfl)), (tcw tB (AtC.cell BK40.out 2 _ (by decide) rfl)), (tcw tB (AtC.cell BK40.out 3 _ (by decide) rfl)), (tcw tB (AtC.cell BK40.out 4 _ (by decide) rfl)), (tcw tB (AtC.cell BK40.out 5 _ (by decide) rfl))⟩ (fun hHeld => ?_); refine with_tabW spec_l07Ok.tab1 spec_l07Ok.bits1 (fun HT_ HW_ => ?_)
   generalize w.drew = w16 at HB hHeld ⊢
   refine tP0 0 5 (bm 43 1) ?_
   refine tP0 1 6 (bm 43 3) ?_
   refine tP0 2 7 (bm 43 7) ?_
   refine tT6 3 8 (bm 43 15) ?_
   refine one_ (i := 4) (N := some 9) (bm 43 31) rfl rfl (one_of HT_.out (by kernel_rfl)) (by decide) (fun K hK => ?_)
   refine goes_ Try.func61 (by kernel_rfl) rfl #[.agg #[.int .i64 a0_0, .int .i64 a0_1]] (by rfl) rfl rfl tL ?_
   with_reducible refine (spec_l01Ok.calls k a0_0 a0_1 true _ A3.out).mono ?_
   rintro e w17 ⟨rfl, hb⟩
   refine ⟨_, rfl, ?_⟩
   have n0_ := Aq.mk (bQT tB hb)
   clear HB
   have HB := n0_
   clear n0_
   (try clear hb)
   (try clear hb2)
   (try clear hk)
   (try clear hi)
   refine hK.out _ _ ⟨(tcw tB (AtC.cell0 BK40.out _ rfl)), (tcw tB (AtC.cell BK40.out 1 _ (by decide) rfl)), (tcw tB (AtC.cell BK40.out 2 _ (by decide) rfl)), (tcw tB (AtC.cell BK40.out 3 _ (by decide) rfl)), (tcw tB (AtC.cell BK40.out 4 _ (by decide) rfl)), (tcw tB (AtC.cell BK40.out 5 _ (by decide) rfl))⟩ (fun hHeld => ?_)
   clear hK K
   refine tN 9 ?_
   refine tP0 5 10 (bm 43 63) ?_
   refine tP0 6 11 (bm 43 127) ?_
   refine tP0 7 12 (bm 43 255) ?_
   refine tP0 8 13 (bm 43 511) ?_
   refine tP0 9 14 (bm 43 1023) ?_
   refine tT6 10 15 (bm 43 2047) ?_
   refine one_ (i := 11) (N := some 16) (bm 43 4095) rfl rfl (one_of HT_.out (by kernel_rfl)) (by decide) (fun K hK => ?_)
   refine goes_ Try.func62 (by kernel_rfl) rfl #[.int .i64 a0_2, .int .i64 2, .int .i64 8] (by rfl) rfl rfl tL ?_
   with_reducible refine (spec_l00In.calls a0_2 2 8 false _ A5.out).mono ?_
   rintro e w' ⟨rfl, ⟨nd, rfl⟩⟩
   refine ⟨_, rfl, ?_⟩
   refine hK.out _ _ ⟨(tcw tB (AtC.cell0 BK40.out _ rfl)), (tcw tB (AtC.cell BK40.out 1 _ (by decide) rfl)), (tcw tB (AtC.cell BK40.out 2 _ (by decide) rfl)), (tcw tB (AtC.cell BK40.out 3 _ (by decide) rfl)), (tcw tB (AtC.cell BK40.out 4 _ (by decide) rfl)), (tcw tB (AtC.cell BK40.out 5 _ (by decide) rfl))⟩ (fun hHeld => ?_)
   clear hK K
   refine tN 16 ?_
   refine tP0 12 17 (bm 43 8191) ?_
   refine tP0 13 18 (bm 43 16383) ?_
   refine tP0 14 19 (bm 43 32767) ?_
   refine pure_ (i := 15) (N := some 20) (v := undef) (a' := ?_) #[true, true, true, true, true, true, true, true, true, true, true, true, true, true, true, true, false, false, false, false, false, false, false, false, false, false, false, false, false, false, false, false, false, false, false, false, false, false, false, false, false, false, false] rfl rfl (any_of HT_.out (by kernel_rfl)) (fun _ _ _ h => h) (Or.inr ⟨by rfl, rfl⟩) ?_ ?_
   rotate_left
   ·simp only [Act.put, qSa, qSb, qSc, i64_w, i32_w]
    rfl
   refine pure_ (i := 16) (N := some 21) (v := undef) (a' := ?_) #[true, true, true, true, true, true, true, true, true, true, true, true, true, true, true, true, true, false, false, false, false, false, false, false, false, false, false, false, false, false, false, false, false, false, false, false, false, false, false, false, false, false, false] rfl rfl (any_of HT_.out (by kernel_rfl)) (fun _ _ _ h => h) (Or.inr ⟨by rfl, rfl⟩) ?_ ?_
   rotate_left
   ·simp only [Act.put, qSa, qSb, qSc, i64_w, i32_w]
    rfl
   refine pure_ (i := 17) (N := some 22) (v := undef) (a' := ?_) #[true, true, true, true, true, true, true, true, true, true, true, true, true, true, true, true, true, true, false, false, false, false, false, false, false, false, false, false, false, false, false, false, false, false, false, false, false, false, false, false, false, false, false] rfl rfl (any_of HT_.out (by kernel_rfl)) (fun _ _ _ h => h) (Or.inr ⟨by rfl, rfl⟩) ?_ ?_
   rotate_left
   ·simp only [Act.put, qSa, qSb, qSc, i64_w, i32_w]
    rfl
   refine pure_ (i := 18) (N := some 23) (v := undef) (a' := ?_) #[true, true, true, true, true, true, true, true, true, true, true, true, true, true, true, true, true, true, true, false, false, false, false, false, false, false, false, false, false, false, false, false, false, false, false, false, false, false, false, false, false, false, false] rfl rfl (any_of HT_.out (by kernel_rfl)) (fun _ _ _ h => h) (Or.inr ⟨by rfl, rfl⟩) ?_ ?_
   rotate_left
   ·simp only [Act.put, qSa, qSb, qSc, i64_w, i32_w]
    rfl
   refine pure_ (i := 19) (N := some 24) (v := undef) (a' := ?_) #[true, true, true, true, true, true, true, true, true, true, true, true, true, true, true, true, true, true, true, true, false, false, false, false, false, false, false, false, false, false, false, false, false, false, false, false, false, false, false, false, false, false, false] rfl rfl (any_of HT_.out (by kernel_rfl)) (fun _ _ _ h => h) (Or.inr ⟨by rfl, rfl⟩) ?_ ?_
   rotate_left
   ·simp only [Act.put, qSa, qSb, qSc, i64_w, i32_w]
    rfl
   refine pure_ (i := 20) (N := some 25) (v := undef) (a' := ?_) #[true, true, true, true, true, true, true, true, true, true, true, true, true, true, true, true, true, true, true, true, true, false, false, false, false, false, false, false, false, false, false, false, false, false, false, false, false, false, false, false, false, false, false] rfl rfl (any_of HT_.out (by kernel_rfl)) (fun _ _ _ h => h) (Or.inr ⟨by rfl, rfl⟩) ?_ ?_
   rotate_left
   ·simp only [Act.put, qSa, qSb, qSc, i64_w, i32_w]
    rfl
   refine tP0 21 26 (bm 43 4194303) ?_
   refine tP0 22 27 (bm 43 8388607) ?_
   refine pure_ (i := 23) (N := some 28) (v := undef) (a' := ?_) #[true, true, true, true, true, true, true, true, true, true, true, true, true, true, true, true, true, true, true, true, true, true, true, true, false, false, false, false, false, false, false, false, false, false, false, false, false, false, false, false, false, false, false] rfl rfl (any_of HT_.out (by kernel_rfl)) (fun _ _ _ h => h) (Or.inr ⟨by rfl, rfl⟩) ?_ ?_
   rotate_left
   ·simp only [Act.put, qSa, qSb, qSc, i64_w, i32_w]
    rfl
   refine pure_ (i := 24) (N := some 29) (v := undef) (a' := ?_) #[true, true, true, true, true, true, true, true, true, true, true, true, true, true, true, true, true, true, true, true, true, true, true, true, true, false, false, false, false, false, false, false, false, false, false, false, false, false, false, false, false, false, false] rfl rfl (any_of HT_.out (by kernel_rfl)) (fun _ _ _ h => h) (Or.inr ⟨by rfl, rfl⟩) ?_ ?_
   rotate_left
   ·simp only [Act.put, qSa, qSb, qSc, i64_w, i32_w]
    rfl
   refine pure_ (i := 25) (N := some 30) (v := undef) (a' := ?_) #[true, true, true, true, true, true, true, true, true, true, true, true, true, true, true, true, true, true, true, true, true, true, true, true, true, true, false, false, false, false, false, false, false, false, false, false, false, false, false, false, false, false, false] rfl rfl (any_of HT_.out (by kernel_rfl)) (fun _ _ _ h => h) (Or.inr ⟨by rfl, rfl⟩) ?_ ?_
   rotate_left
   ·simp only [Act.put, qSa, qSb, qSc, i64_w, i32_w]
    rfl
   refine pure_ (i := 26) (N := some 31) (v := undef) (a' := ?_) #[true, true, true, true, true, true, true, true, true, true, true, true, true, true, true, true, true, true, true, true, true, true, true, true, true, true, true, false, false, false, false, false, false, false, false, false, false, false, false, false, false, false, false] rfl rfl (any_of HT_.out (by kernel_rfl)) (fun _ _ _ h => h) (Or.inr ⟨by rfl, rfl⟩) ?_ ?_
   rotate_left
   ·simp only [Act.put, qSa, qSb, qSc, i64_w, i32_w]
    rfl
   refine pure_ (i := 27) (N := some 32) (v := undef) (a' := ?_) #[true, true, true, true, true, true, true, true, true, true, true, true, true, true, true, true, true, true, true, true, true, true, true, true, true, true, true, true, false, false, false, false, false, false, false, false, false, false, false, false, false, false, false] rfl rfl (any_of HT_.out (by kernel_rfl)) (fun _ _ _ h => h) (Or.inr ⟨by rfl, rfl⟩) ?_ ?_
   rotate_left
   ·simp only [Act.put, qSa, qSb, qSc, i64_w, i32_w]
    rfl
   refine pure_ (i := 28) (N := some 33) (v := undef) (a' := ?_) #[true, true, true, true, true, true, true, true, true, true, true, true, true, true, true, true, true, true, true, true, true, true, true, true, true, true, true, true, true, false, false, false, false, false, false, false, false, false, false, false, false, false, false] rfl rfl (any_of HT_.out (by kernel_rfl)) (fun _ _ _ h => h) (Or.inr ⟨by rfl, rfl⟩) ?_ ?_
   rotate_left
   ·simp only [Act.put, qSa, qSb, qSc, i64_w, i32_w]
    rfl
   refine tP0 29 34 (bm 43 1073741823) ?_
   refine tP0 30 35 (bm 43 2147483647) ?_
   refine pure_ (i := 31) (N := some 36) (v := undef) (a' := ?_) #[true, true, true, true, true, true, true, true, true, true, true, true, true, true, true, true, true, true, true, true, true, true, true, true, true, true, true, true, true, true, true, true, false, false, false, false, false, false, false, false, false, false, false] rfl rfl (any_of HT_.out (by kernel_rfl)) (fun _ _ _ h => h) (Or.inr ⟨by rfl, rfl⟩) ?_ ?_
   rotate_left
   ·simp only [Act.put, qSa, qSb, qSc, i64_w, i32_w]
    rfl
   refine pure_ (i := 32) (N := some 37) (v := undef) (a' := ?_) #[true, true, true, true, true, true, true, true, true, true, true, true, true, true, true, true, true, true, true, true, true, true, true, true, true, true, true, true, true, true, true, true, true, false, false, false, false, false, false, false, false, false, false] rfl rfl (any_of HT_.out (by kernel_rfl)) (fun _ _ _ h => h) (Or.inr ⟨by rfl, rfl⟩) ?_ ?_
   rotate_left
   ·simp only [Act.put, qSa, qSb, qSc, i64_w, i32_w]
    rfl
   refine pure_ (i := 33) (N := some 38) (v := undef) (a' := ?_) #[true, true, true, true, true, true, true, true, true, true, true, true, true, true, true, true, true, true, true, true, true, true, true, true, true, true, true, true, true, true, true, true, true, true, false, false, false, false, false, false, false, false, false] rfl rfl (any_of HT_.out (by kernel_rfl)) (fun _ _ _ h => h) (Or.inr ⟨by rfl, rfl⟩) ?_ ?_
   rotate_left
   ·simp only [Act.put, qSa, qSb, qSc, i64_w, i32_w]
    rfl
   refine pure_ (i := 34) (N := some 39) (v := undef) (a' := ?_) #[true, true, true, true, true, true, true, true, true, true, true, true, true, true, true, true, true, true, true, true, true, true, true, true, true, true, true, true, true, true, true, true, true, true, true, false, false, false, false, false, false, false, false] rfl rfl (any_of HT_.out (by kernel_rfl)) (fun _ _ _ h => h) (Or.inr ⟨by rfl, rfl⟩) ?_ ?_
   rotate_left
   ·simp only [Act.put, qSa, qSb, qSc, i64_w, i32_w]
    rfl
   refine pure_ (i := 35) (N := some 40) (v := undef) (a' := ?_) #[true, true, true, true, true, true, true, true, true, true, true, true, true, true, true, true, true, true, true, true, true, true, true, true, true, true, true, true, true, true, true, true, true, true, true, true, false, false, false, false, false, false, false] rfl rfl (any_of HT_.out (by kernel_rfl)) (fun _ _ _ h => h) (Or.inr ⟨by rfl, rfl⟩) ?_ ?_
   rotate_left
   ·simp only [Act.put, qSa, qSb, qSc, i64_w, i32_w]
    rfl
   refine pure_ (i := 36) (N := some 41) (v := undef) (a' := ?_) #[true, true, true, true, true, true, true, true, true, true, true, true, true, true, true, true, true, true, true, true, true, true, true, true, true, true, true, true, true, true, true, true, true, true, true, true, true, false, false, false, false, false, false] rfl rfl (any_of HT_.out (by kernel_rfl)) (fun _ _ _ h => h) (Or.inr ⟨by rfl, rfl⟩) ?_ ?_
   rotate_left
   ·simp only [Act.put, qSa, qSb, qSc, i64_w, i32_w]
    rfl
   refine pure_ (i := 37) (N := some 42) (v := undef) (a' := ?_) #[true, true, true, true, true, true, true, true, true, true, true, true, true, true, true, true, true, true, true, true, true, true, true, true, true, true, true, true, true, true, true, true, true, true, true, true, true, true, false, false, false, false, false] rfl rfl (any_of HT_.out (by kernel_rfl)) (fun _ _ _ h => h) (Or.inr ⟨by rfl, rfl⟩) ?_ ?_
   rotate_left
   ·simp only [Act.put, qSa, qSb, qSc, i64_w, i32_w]
    rfl
   refine pure_ (i := 38) (N := some 43) (v := undef) (a' := ?_) #[true, true, true, true, true, true, true, true, true, true, true, true, true, true, true, true, true, true, true, true, true, true, true, true, true, true, true, true, true, true, true, true, true, true, true, true, true, true, true, false, false, false, false] rfl rfl (any_of HT_.out (by kernel_rfl)) (fun _ _ _ h => h) (Or.inr ⟨by rfl, rfl⟩) ?_ ?_
   rotate_left
   ·simp only [Act.put, qSa, qSb, qSc, i64_w, i32_w]
    rfl
   refine pure_ (i := 39) (N := some 44) (v := undef) (a' := ?_) #[true, true, true, true, true, true, true, true, true, true, true, true, true, true, true, true, true, true, true, true, true, true, true, true, true, true, true, true, true, true, true, true, true, true, true, true, true, true, true, true, false, false, false] rfl rfl (any_of HT_.out (by kernel_rfl)) (fun _ _ _ h => h) (Or.inr ⟨by rfl, rfl⟩) ?_ ?_
   rotate_left
   ·simp only [Act.put, qSa, qSb, qSc, i64_w, i32_w]
    rfl
   refine pure_ (i := 40) (N := some 45) (v := undef) (a' := ?_) #[true, true, true, true, true, true, true, true, true, true, true, true, true, true, true, true, true, true, true, true, true, true, true, true, true, true, true, true, true, true, true, true, true, true, true, true, true, true, true, true, true, false, false] rfl rfl (any_of HT_.out (by kernel_rfl)) (fun _ _ _ h => h) (Or.inr ⟨by rfl, rfl⟩) ?_ ?_
   rotate_left
   ·simp only [Act.put, qSa, qSb, qSc, i64_w, i32_w]
    rfl
   refine pure_ (i := 41) (N := some 46) (v := undef) (a' := ?_) #[true, true, true, true, true, true, true, true, true, true, true, true, true, true, true, true, true, true, true, true, true, true, true, true, true, true, true, true, true, true, true, true, true, true, true, true, true, true, true, true, true, true, false] rfl rfl (any_of HT_.out (by kernel_rfl)) (fun _ _ _ h => h) (Or.inr ⟨by rfl, rfl⟩) ?_ ?_
   rotate_left
   ·simp only [Act.put, qSa, qSb, qSc, i64_w, i32_w]
    rfl
   refine tP0 42 47 (bm 43 8796093022207) ?_
   refine done_ (done_of HT_.out (by kernel_rfl)) ?_
   try go_wp2
   go_meet
   case rel => exact ⟨_, (true), tS, H', ⟨tO⟩, ⟨tB⟩⟩
  subst c6
  rw [if_pos rfl] at H
  obtain ⟨t380, A7, H⟩ := qBd H
  by_cases c8 : t380 = true
  rotate_left
  ·replace c8 := Bool.eq_false_iff.mpr c8
   subst c8
   rw [if_neg (show ¬ (false = true) by decide)] at H
   replace H' := Aq.mk H
   clear H
   try go_wp2
   have n0_ := Aq.mk (bQ1 HB.out)
   clear HB
   have HB := n0_
   clear n0_
   refine start_ (n := 43) (S := fun w' => w'.cell? g0_0 = some (.int .i64 a0_0) ∧ w'.cell? ⟨g0_0.block, g0_0.off + 1, none⟩ = some (.int .i64 a0_1) ∧ w'.cell? ⟨g0_0.block, g0_0.off + 2, none⟩ = some (.int .i64 a0_2) ∧ w'.cell? ⟨g0_0.block, g0_0.off + 3, none⟩ = some (.int .i64 a0_3) ∧ w'.cell? ⟨g0_0.block, g0_0.off + 4, none⟩ = some (.slice A0_4 l0_4.length c0_4) ∧ w'.cell? ⟨g0_0.block, g0_0.off + 5, none⟩ = some (.slice A0_5 l0_5.length c0_5)) (ds := []) #[false, false, false, false, false, false, false, false, false, false, false, false, false, false, false, false, false, false, false, false, false, false, false, false, false, false, false, false, false, false, false, false, false, false, false, false, false, false, false, false, false, false, false] (by kernel_rfl) rfl rfl ⟨(tcw tB (AtC.cell0 BK40.out _ rfl)), (tcw tB (AtC.cell BK40.out 1 _ (by decide) rfl)), (tcw tB (AtC.cell BK40.out 2 _ (by decide) rfl)), (tcw tB (AtC.cell BK40.out 3 _ (by decide) rfl)), (tcw tB (AtC.cell BK40.out 4 _ (by decide) rfl)), (tcw tB (AtC.cell BK40.out 5 _ (by decide) rfl))⟩ (fun hHeld => ?_); refine with_tabW spec_l07Ok.tab1 spec_l07Ok.bits1 (fun HT_ HW_ => ?_)
   generalize w.drew = w14 at HB hHeld ⊢
   refine tP0 0 5 (bm 43 1) ?_
   refine tP0 1 6 (bm 43 3) ?_
   refine tP0 2 7 (bm 43 7) ?_
   refine tT6 3 8 (bm 43 15) ?_
   refine one_ (i := 4) (N := some 9) (bm 43 31) rfl rfl (one_of HT_.out (by kernel_rfl)) (by decide) (fun K hK => ?_)
   refine goes_ Try.func61 (by kernel_rfl) rfl #[.agg #[.int .i64 a0_0, .int .i64 a0_1]] (by rfl) rfl rfl tL ?_
   with_reducible refine (spec_l01Ok.calls k a0_0 a0_1 true _ A3.out).mono ?_
   rintro e w15 ⟨rfl, hb⟩
   refine ⟨_, rfl, ?_⟩
   have n0_ := Aq.mk (bQT tB hb)
   clear HB
   have HB := n0_
   clear n0_
   (try clear hb)
   (try clear hb2)
   (try clear hk)
   (try clear hi)
   refine hK.out _ _ ⟨(tcw tB (AtC.cell0 BK40.out _ rfl)), (tcw tB (AtC.cell BK40.out 1 _ (by decide) rfl)), (tcw tB (AtC.cell BK40.out 2 _ (by decide) rfl)), (tcw tB (AtC.cell BK40.out 3 _ (by decide) rfl)), (tcw tB (AtC.cell BK40.out 4 _ (by decide) rfl)), (tcw tB (AtC.cell BK40.out 5 _ (by decide) rfl))⟩ (fun hHeld => ?_)
   clear hK K
   refine tN 9 ?_
   refine tP0 5 10 (bm 43 63) ?_
   refine tP0 6 11 (bm 43 127) ?_
   refine tP0 7 12 (bm 43 255) ?_
   refine tP0 8 13 (bm 43 511) ?_
   refine tP0 9 14 (bm 43 1023) ?_
   refine tT6 10 15 (bm 43 2047) ?_
   refine one_ (i := 11) (N := some 16) (bm 43 4095) rfl rfl (one_of HT_.out (by kernel_rfl)) (by decide) (fun K hK => ?_)
   refine goes_ Try.func62 (by kernel_rfl) rfl #[.int .i64 a0_2, .int .i64 2, .int .i64 8] (by rfl) rfl rfl tL ?_
   with_reducible refine (spec_l00In.calls a0_2 2 8 true _ A5.out).mono ?_
   rintro e w' ⟨rfl, ⟨nd, rfl⟩⟩
   refine ⟨_, rfl, ?_⟩
   refine hK.out _ _ ⟨(tcw tB (AtC.cell0 BK40.out _ rfl)), (tcw tB (AtC.cell BK40.out 1 _ (by decide) rfl)), (tcw tB (AtC.cell BK40.out 2 _ (by decide) rfl)), (tcw tB (AtC.cell BK40.out 3 _ (by decide) rfl)), (tcw tB (AtC.cell BK40.out 4 _ (by decide) rfl)), (tcw tB (AtC.cell BK40.out 5 _ (by decide) rfl))⟩ (fun hHeld => ?_)
   clear hK K
   refine tN 16 ?_
   refine tP0 12 17 (bm 43 8191) ?_
   refine tP0 13 18 (bm 43 16383) ?_
   refine tP0 14 19 (bm 43 32767) ?_
   refine tP0 15 20 (bm 43 65535) ?_
   refine tP0 16 21 (bm 43 131071) ?_
   refine tP0 17 22 (bm 43 262143) ?_
   refine tT6 18 23 (bm 43 524287) ?_
   refine one_ (i := 19) (N := some 24) (bm 43 1048575) rfl rfl (one_of HT_.out (by kernel_rfl)) (by decide) (fun K hK => ?_)
   refine goes_ Try.func62 (by kernel_rfl) rfl #[.int .i64 a0_3, .int .i64 1, .int .i64 3] (by rfl) rfl rfl tL ?_
   with_reducible refine (spec_l00In.calls a0_3 1 3 false _ A7.out).mono ?_
   rintro e w' ⟨rfl, ⟨nd, rfl⟩⟩
   refine ⟨_, rfl, ?_⟩
   refine hK.out _ _ ⟨(tcw tB (AtC.cell0 BK40.out _ rfl)), (tcw tB (AtC.cell BK40.out 1 _ (by decide) rfl)), (tcw tB (AtC.cell BK40.out 2 _ (by decide) rfl)), (tcw tB (AtC.cell BK40.out 3 _ (by decide) rfl)), (tcw tB (AtC.cell BK40.out 4 _ (by decide) rfl)), (tcw tB (AtC.cell BK40.out 5 _ (by decide) rfl))⟩ (fun hHeld => ?_)
   clear hK K
   refine tN 24 ?_
   refine tP0 20 25 (bm 43 2097151) ?_
   refine tP0 21 26 (bm 43 4194303) ?_
   refine tP0 22 27 (bm 43 8388607) ?_
   refine pure_ (i := 23) (N := some 28) (v := undef) (a' := ?_) #[true, true, true, true, true, true, true, true, true, true, true, true, true, true, true, true, true, true, true, true, true, true, true, true, false, false, false, false, false, false, false, false, false, false, false, false, false, false, false, false, false, false, false] rfl rfl (any_of HT_.out (by kernel_rfl)) (fun _ _ _ h => h) (Or.inr ⟨by rfl, rfl⟩) ?_ ?_
   rotate_left
   ·simp only [Act.put, qSa, qSb, qSc, i64_w, i32_w]
    rfl
   refine pure_ (i := 24) (N := some 29) (v := undef) (a' := ?_) #[true, true, true, true, true, true, true, true, true, true, true, true, true, true, true, true, true, true, true, true, true, true, true, true, true, false, false, false, false, false, false, false, false, false, false, false, false, false, false, false, false, false, false] rfl rfl (any_of HT_.out (by kernel_rfl)) (fun _ _ _ h => h) (Or.inr ⟨by rfl, rfl⟩) ?_ ?_
   rotate_left
   ·simp only [Act.put, qSa, qSb, qSc, i64_w, i32_w]
    rfl
   refine pure_ (i := 25) (N := some 30) (v := undef) (a' := ?_) #[true, true, true, true, true, true, true, true, true, true, true, true, true, true, true, true, true, true, true, true, true, true, true, true, true, true, false, false, false, false, false, false, false, false, false, false, false, false, false, false, false, false, false] rfl rfl (any_of HT_.out (by kernel_rfl)) (fun _ _ _ h => h) (Or.inr ⟨by rfl, rfl⟩) ?_ ?_
   rotate_left
   ·simp only [Act.put, qSa, qSb, qSc, i64_w, i32_w]
    rfl
   refine pure_ (i := 26) (N := some 31) (v := undef) (a' := ?_) #[true, true, true, true, true, true, true, true, true, true, true, true, true, true, true, true, true, true, true, true, true, true, true, true, true, true, true, false, false, false, false, false, false, false, false, false, false, false, false, false, false, false, false] rfl rfl (any_of HT_.out (by kernel_rfl)) (fun _ _ _ h => h) (Or.inr ⟨by rfl, rfl⟩) ?_ ?_
   rotate_left
   ·simp only [Act.put, qSa, qSb, qSc, i64_w, i32_w]
    rfl
   refine pure_ (i := 27) (N := some 32) (v := undef) (a' := ?_) #[true, true, true, true, true, true, true, true, true, true, true, true, true, true, true, true, true, true, true, true, true, true, true, true, true, true, true, true, false, false, false, false, false, false, false, false, false, false, false, false, false, false, false] rfl rfl (any_of HT_.out (by kernel_rfl)) (fun _ _ _ h => h) (Or.inr ⟨by rfl, rfl⟩) ?_ ?_
   rotate_left
   ·simp only [Act.put, qSa, qSb, qSc, i64_w, i32_w]
    rfl
   refine pure_ (i := 28) (N := some 33) (v := undef) (a' := ?_) #[true, true, true, true, true, true, true, true, true, true, true, true, true, true, true, true, true, true, true, true, true, true, true, true, true, true, true, true, true, false, false, false, false, false, false, false, false, false, false, false, false, false, false] rfl rfl (any_of HT_.out (by kernel_rfl)) (fun _ _ _ h => h) (Or.inr ⟨by rfl, rfl⟩) ?_ ?_
   rotate_left
   ·simp only [Act.put, qSa, qSb, qSc, i64_w, i32_w]
    rfl
   refine tP0 29 34 (bm 43 1073741823) ?_
   refine tP0 30 35 (bm 43 2147483647) ?_
   refine pure_ (i := 31) (N := some 36) (v := undef) (a' := ?_) #[true, true, true, true, true, true, true, true, true, true, true, true, true, true, true, true, true, true, true, true, true, true, true, true, true, true, true, true, true, true, true, true, false, false, false, false, false, false, false, false, false, false, false] rfl rfl (any_of HT_.out (by kernel_rfl)) (fun _ _ _ h => h) (Or.inr ⟨by rfl, rfl⟩) ?_ ?_
   rotate_left
   ·simp only [Act.put, qSa, qSb, qSc, i64_w, i32_w]
    rfl
   refine pure_ (i := 32) (N := some 37) (v := undef) (a' := ?_) #[true, true, true, true, true, true, true, true, true, true, true, true, true, true, true, true, true, true, true, true, true, true, true, true, true, true, true, true, true, true, true, true, true, false, false, false, false, false, false, false, false, false, false] rfl rfl (any_of HT_.out (by kernel_rfl)) (fun _ _ _ h => h) (Or.inr ⟨by rfl, rfl⟩) ?_ ?_
   rotate_left
   ·simp only [Act.put, qSa, qSb, qSc, i64_w, i32_w]
    rfl
   refine pure_ (i := 33) (N := some 38) (v := undef) (a' := ?_) #[true, true, true, true, true, true, true, true, true, true, true, true, true, true, true, true, true, true, true, true, true, true, true, true, true, true, true, true, true, true, true, true, true, true, false, false, false, false, false, false, false, false, false] rfl rfl (any_of HT_.out (by kernel_rfl)) (fun _ _ _ h => h) (Or.inr ⟨by rfl, rfl⟩) ?_ ?_
   rotate_left
   ·simp only [Act.put, qSa, qSb, qSc, i64_w, i32_w]
    rfl
   refine pure_ (i := 34) (N := some 39) (v := undef) (a' := ?_) #[true, true, true, true, true, true, true, true, true, true, true, true, true, true, true, true, true, true, true, true, true, true, true, true, true, true, true, true, true, true, true, true, true, true, true, false, false, false, false, false, false, false, false] rfl rfl (any_of HT_.out (by kernel_rfl)) (fun _ _ _ h => h) (Or.inr ⟨by rfl, rfl⟩) ?_ ?_
   rotate_left
   ·simp only [Act.put, qSa, qSb, qSc, i64_w, i32_w]
    rfl
   refine pure_ (i := 35) (N := some 40) (v := undef) (a' := ?_) #[true, true, true, true, true, true, true, true, true, true, true, true, true, true, true, true, true, true, true, true, true, true, true, true, true, true, true, true, true, true, true, true, true, true, true, true, false, false, false, false, false, false, false] rfl rfl (any_of HT_.out (by kernel_rfl)) (fun _ _ _ h => h) (Or.inr ⟨by rfl, rfl⟩) ?_ ?_
   rotate_left
   ·simp only [Act.put, qSa, qSb, qSc, i64_w, i32_w]
    rfl
   refine pure_ (i := 36) (N := some 41) (v := undef) (a' := ?_) #[true, true, true, true, true, true, true, true, true, true, true, true, true, true, true, true, true, true, true, true, true, true, true, true, true, true, true, true, true, true, true, true, true, true, true, true, true, false, false, false, false, false, false] rfl rfl (any_of HT_.out (by kernel_rfl)) (fun _ _ _ h => h) (Or.inr ⟨by rfl, rfl⟩) ?_ ?_
   rotate_left
   ·simp only [Act.put, qSa, qSb, qSc, i64_w, i32_w]
    rfl
   refine pure_ (i := 37) (N := some 42) (v := undef) (a' := ?_) #[true, true, true, true, true, true, true, true, true, true, true, true, true, true, true, true, true, true, true, true, true, true, true, true, true, true, true, true, true, true, true, true, true, true, true, true, true, true, false, false, false, false, false] rfl rfl (any_of HT_.out (by kernel_rfl)) (fun _ _ _ h => h) (Or.inr ⟨by rfl, rfl⟩) ?_ ?_
   rotate_left
   ·simp only [Act.put, qSa, qSb, qSc, i64_w, i32_w]
    rfl
   refine pure_ (i := 38) (N := some 43) (v := undef) (a' := ?_) #[true, true, true, true, true, true, true, true, true, true, true, true, true, true, true, true, true, true, true, true, true, true, true, true, true, true, true, true, true, true, true, true, true, true, true, true, true, true, true, false, false, false, false] rfl rfl (any_of HT_.out (by kernel_rfl)) (fun _ _ _ h => h) (Or.inr ⟨by rfl, rfl⟩) ?_ ?_
   rotate_left
   ·simp only [Act.put, qSa, qSb, qSc, i64_w, i32_w]
    rfl
   refine pure_ (i := 39) (N := some 44) (v := undef) (a' := ?_) #[true, true, true, true, true, true, true, true, true, true, true, true, true, true, true, true, true, true, true, true, true, true, true, true, true, true, true, true, true, true, true, true, true, true, true, true, true, true, true, true, false, false, false] rfl rfl (any_of HT_.out (by kernel_rfl)) (fun _ _ _ h => h) (Or.inr ⟨by rfl, rfl⟩) ?_ ?_
   rotate_left
   ·simp only [Act.put, qSa, qSb, qSc, i64_w, i32_w]
    rfl
   refine pure_ (i := 40) (N := some 45) (v := undef) (a' := ?_) #[true, true, true, true, true, true, true, true, true, true, true, true, true, true, true, true, true, true, true, true, true, true, true, true, true, true, true, true, true, true, true, true, true, true, true, true, true, true, true, true, true, false, false] rfl rfl (any_of HT_.out (by kernel_rfl)) (fun _ _ _ h => h) (Or.inr ⟨by rfl, rfl⟩) ?_ ?_
   rotate_left
   ·simp only [Act.put, qSa, qSb, qSc, i64_w, i32_w]
    rfl
   refine pure_ (i := 41) (N := some 46) (v := undef) (a' := ?_) #[true, true, true, true, true, true, true, true, true, true, true, true, true, true, true, true, true, true, true, true, true, true, true, true, true, true, true, true, true, true, true, true, true, true, true, true, true, true, true, true, true, true, false] rfl rfl (any_of HT_.out (by kernel_rfl)) (fun _ _ _ h => h) (Or.inr ⟨by rfl, rfl⟩) ?_ ?_
   rotate_left
   ·simp only [Act.put, qSa, qSb, qSc, i64_w, i32_w]
    rfl
   refine tP0 42 47 (bm 43 8796093022207) ?_
   refine done_ (done_of HT_.out (by kernel_rfl)) ?_
   try go_wp2
   go_meet
   case rel => exact ⟨_, (true), tS, H', ⟨tO⟩, ⟨tB⟩⟩
  subst c8
  rw [if_pos rfl] at H
  by_cases c9 : (l0_4.length : Int) > 14
  rotate_left
  ·rw [if_neg c9] at H
   have c9b0 := decide_eq_false c9
   have c9b1 : decide (14 < l0_4.length) = false := decide_eq_false (by omega)
   clear c9
   (first | rw [c9b0] | (simp only [i64_w, i32_w]; rw [c9b0]) | skip)
   replace H' := Aq.mk H
   clear H
   try go_wp2
   have n0_ := Aq.mk (bQ1 HB.out)
   clear HB
   have HB := n0_
   clear n0_
   refine start_ (n := 43) (S := fun w' => w'.cell? g0_0 = some (.int .i64 a0_0) ∧ w'.cell? ⟨g0_0.block, g0_0.off + 1, none⟩ = some (.int .i64 a0_1) ∧ w'.cell? ⟨g0_0.block, g0_0.off + 2, none⟩ = some (.int .i64 a0_2) ∧ w'.cell? ⟨g0_0.block, g0_0.off + 3, none⟩ = some (.int .i64 a0_3) ∧ w'.cell? ⟨g0_0.block, g0_0.off + 4, none⟩ = some (.slice A0_4 l0_4.length c0_4) ∧ w'.cell? ⟨g0_0.block, g0_0.off + 5, none⟩ = some (.slice A0_5 l0_5.length c0_5)) (ds := []) #[false, false, false, false, false, false, false, false, false, false, false, false, false, false, false, false, false, false, false, false, false, false, false, false, false, false, false, false, false, false, false, false, false, false, false, false, false, false, false, false, false, false, false] (by kernel_rfl) rfl rfl ⟨(tcw tB (AtC.cell0 BK40.out _ rfl)), (tcw tB (AtC.cell BK40.out 1 _ (by decide) rfl)), (tcw tB (AtC.cell BK40.out 2 _ (by decide) rfl)), (tcw tB (AtC.cell BK40.out 3 _ (by decide) rfl)), (tcw tB (AtC.cell BK40.out 4 _ (by decide) rfl)), (tcw tB (AtC.cell BK40.out 5 _ (by decide) rfl))⟩ (fun hHeld => ?_); refine with_tabW spec_l07Ok.tab1 spec_l07Ok.bits1 (fun HT_ HW_ => ?_)
   generalize w.drew = w12 at HB hHeld ⊢
   refine tP0 0 5 (bm 43 1) ?_
   refine tP0 1 6 (bm 43 3) ?_
   refine tP0 2 7 (bm 43 7) ?_
   refine tT6 3 8 (bm 43 15) ?_
   refine one_ (i := 4) (N := some 9) (bm 43 31) rfl rfl (one_of HT_.out (by kernel_rfl)) (by decide) (fun K hK => ?_)
   refine goes_ Try.func61 (by kernel_rfl) rfl #[.agg #[.int .i64 a0_0, .int .i64 a0_1]] (by rfl) rfl rfl tL ?_
   with_reducible refine (spec_l01Ok.calls k a0_0 a0_1 true _ A3.out).mono ?_
   rintro e w13 ⟨rfl, hb⟩
   refine ⟨_, rfl, ?_⟩
   have n0_ := Aq.mk (bQT tB hb)
   clear HB
   have HB := n0_
   clear n0_
   (try clear hb)
   (try clear hb2)
   (try clear hk)
   (try clear hi)
   refine hK.out _ _ ⟨(tcw tB (AtC.cell0 BK40.out _ rfl)), (tcw tB (AtC.cell BK40.out 1 _ (by decide) rfl)), (tcw tB (AtC.cell BK40.out 2 _ (by decide) rfl)), (tcw tB (AtC.cell BK40.out 3 _ (by decide) rfl)), (tcw tB (AtC.cell BK40.out 4 _ (by decide) rfl)), (tcw tB (AtC.cell BK40.out 5 _ (by decide) rfl))⟩ (fun hHeld => ?_)
   clear hK K
   refine tN 9 ?_
   refine tP0 5 10 (bm 43 63) ?_
   refine tP0 6 11 (bm 43 127) ?_
   refine tP0 7 12 (bm 43 255) ?_
   refine tP0 8 13 (bm 43 511) ?_
   refine tP0 9 14 (bm 43 1023) ?_
   refine tT6 10 15 (bm 43 2047) ?_
   refine one_ (i := 11) (N := some 16) (bm 43 4095) rfl rfl (one_of HT_.out (by kernel_rfl)) (by decide) (fun K hK => ?_)
   refine goes_ Try.func62 (by kernel_rfl) rfl #[.int .i64 a0_2, .int .i64 2, .int .i64 8] (by rfl) rfl rfl tL ?_
   with_reducible refine (spec_l00In.calls a0_2 2 8 true _ A5.out).mono ?_
   rintro e w' ⟨rfl, ⟨nd, rfl⟩⟩
   refine ⟨_, rfl, ?_⟩
   refine hK.out _ _ ⟨(tcw tB (AtC.cell0 BK40.out _ rfl)), (tcw tB (AtC.cell BK40.out 1 _ (by decide) rfl)), (tcw tB (AtC.cell BK40.out 2 _ (by decide) rfl)), (tcw tB (AtC.cell BK40.out 3 _ (by decide) rfl)), (tcw tB (AtC.cell BK40.out 4 _ (by decide) rfl)), (tcw tB (AtC.cell BK40.out 5 _ (by decide) rfl))⟩ (fun hHeld => ?_)
   clear hK K
   refine tN 16 ?_
   refine tP0 12 17 (bm 43 8191) ?_
   refine tP0 13 18 (bm 43 16383) ?_
   refine tP0 14 19 (bm 43 32767) ?_
   refine tP0 15 20 (bm 43 65535) ?_
   refine tP0 16 21 (bm 43 131071) ?_
   refine tP0 17 22 (bm 43 262143) ?_
   refine tT6 18 23 (bm 43 524287) ?_
   refine one_ (i := 19) (N := some 24) (bm 43 1048575) rfl rfl (one_of HT_.out (by kernel_rfl)) (by decide) (fun K hK => ?_)
   refine goes_ Try.func62 (by kernel_rfl) rfl #[.int .i64 a0_3, .int .i64 1, .int .i64 3] (by rfl) rfl rfl tL ?_
   with_reducible refine (spec_l00In.calls a0_3 1 3 true _ A7.out).mono ?_
   rintro e w' ⟨rfl, ⟨nd, rfl⟩⟩
   refine ⟨_, rfl, ?_⟩
   refine hK.out _ _ ⟨(tcw tB (AtC.cell0 BK40.out _ rfl)), (tcw tB (AtC.cell BK40.out 1 _ (by decide) rfl)), (tcw tB (AtC.cell BK40.out 2 _ (by decide) rfl)), (tcw tB (AtC.cell BK40.out 3 _ (by decide) rfl)), (tcw tB (AtC.cell BK40.out 4 _ (by decide) rfl)), (tcw tB (AtC.cell BK40.out 5 _ (by decide) rfl))⟩ (fun hHeld => ?_)
   clear hK K
   refine tN 24 ?_
   refine tP0 20 25 (bm 43 2097151) ?_
   refine tP0 21 26 (bm 43 4194303) ?_
   refine tP0 22 27 (bm 43 8388607) ?_
   refine tP0 23 28 (bm 43 16777215) ?_
   refine tP0 24 29 (bm 43 33554431) ?_
   refine tP0 25 30 (bm 43 67108863) ?_
   refine tT6 26 31 (bm 43 134217727) ?_
   refine tP0 27 32 (bm 43 268435455) ?_
   refine tP0 28 33 (bm 43 536870911) ?_
   refine tP0 29 34 (bm 43 1073741823) ?_
   refine tP0 30 35 (bm 43 2147483647) ?_
   refine tP0 31 36 (bm 43 4294967295) ?_
   refine tP0 32 37 (bm 43 8589934591) ?_
   refine tP0 33 38 (bm 43 17179869183) ?_
   refine tP0 36 41 (bm 43 85899345919) ?_
   refine tP0 37 42 (bm 43 223338299391) ?_
   refine tP0 38 43 (bm 43 498216206335) ?_
   refine tT6 34 39 (bm 43 515396075519) ?_
   refine tP0 35 40 (bm 43 549755813887) ?_
   refine tT6 39 44 (bm 43 1099511627775) ?_
   refine tP0 40 45 (bm 43 2199023255551) ?_
   refine tP0 41 46 (bm 43 4398046511103) ?_
   refine tP0 42 47 (bm 43 8796093022207) ?_
   refine done_ (done_of HT_.out (by kernel_rfl)) ?_
   try go_wp2
   go_meet
   case rel => exact ⟨_, (((l0_5.length : Int) != (l0_4.length : Int))), tS, H', ⟨tO⟩, ⟨tB⟩⟩
  rw [if_pos c9] at H
  have c9b0 := decide_eq_true c9
  have c9b1 : decide (14 < l0_4.length) = true := decide_eq_true (by omega)
  clear c9
  (first | rw [c9b0] | (simp only [i64_w, i32_w]; rw [c9b0]) | skip)
  replace H' := Aq.mk H
  clear H
  try go_wp2
  have n0_ := Aq.mk (bQ1 HB.out)
  clear HB
  have HB := n0_
  clear n0_
  refine start_ (n := 43) (S := fun w' => w'.cell? g0_0 = some (.int .i64 a0_0) ∧ w'.cell? ⟨g0_0.block, g0_0.off + 1, none⟩ = some (.int .i64 a0_1) ∧ w'.cell? ⟨g0_0.block, g0_0.off + 2, none⟩ = some (.int .i64 a0_2) ∧ w'.cell? ⟨g0_0.block, g0_0.off + 3, none⟩ = some (.int .i64 a0_3) ∧ w'.cell? ⟨g0_0.block, g0_0.off + 4, none⟩ = some (.slice A0_4 l0_4.length c0_4) ∧ w'.cell? ⟨g0_0.block, g0_0.off + 5, none⟩ = some (.slice A0_5 l0_5.length c0_5)) (ds := []) #[false, false, false, false, false, false, false, false, false, false, false, false, false, false, false, false, false, false, false, false, false, false, false, false, false, false, false, false, false, false, false, false, false, false, false, false, false, false, false, false, false, false, false] (by kernel_rfl) rfl rfl ⟨(tcw tB (AtC.cell0 BK40.out _ rfl)), (tcw tB (AtC.cell BK40.out 1 _ (by decide) rfl)), (tcw tB (AtC.cell BK40.out 2 _ (by decide) rfl)), (tcw tB (AtC.cell BK40.out 3 _ (by decide) rfl)), (tcw tB (AtC.cell BK40.out 4 _ (by decide) rfl)), (tcw tB (AtC.cell BK40.out 5 _ (by decide) rfl))⟩ (fun hHeld => ?_); refine with_tabW spec_l07Ok.tab1 spec_l07Ok.bits1 (fun HT_ HW_ => ?_)
  generalize w.drew = w10 at HB hHeld ⊢
  refine tP0 0 5 (bm 43 1) ?_
  refine tP0 1 6 (bm 43 3) ?_
  refine tP0 2 7 (bm 43 7) ?_
  refine tT6 3 8 (bm 43 15) ?_
  refine one_ (i := 4) (N := some 9) (bm 43 31) rfl rfl (one_of HT_.out (by kernel_rfl)) (by decide) (fun K hK => ?_)
  refine goes_ Try.func61 (by kernel_rfl) rfl #[.agg #[.int .i64 a0_0, .int .i64 a0_1]] (by rfl) rfl rfl tL ?_
  with_reducible refine (spec_l01Ok.calls k a0_0 a0_1 true _ A3.out).mono ?_
  rintro e w11 ⟨rfl, hb⟩
  refine ⟨_, rfl, ?_⟩
  have n0_ := Aq.mk (bQT tB hb)
  clear HB
  have HB := n0_
  clear n0_
  (try clear hb)
  (try clear hb2)
  (try clear hk)
  (try clear hi)
  refine hK.out _ _ ⟨(tcw tB (AtC.cell0 BK40.out _ rfl)), (tcw tB (AtC.cell BK40.out 1 _ (by decide) rfl)), (tcw tB (AtC.cell BK40.out 2 _ (by decide) rfl)), (tcw tB (AtC.cell BK40.out 3 _ (by decide) rfl)), (tcw tB (AtC.cell BK40.out 4 _ (by decide) rfl)), (tcw tB (AtC.cell BK40.out 5 _ (by decide) rfl))⟩ (fun hHeld => ?_)
  clear hK K
  refine tN 9 ?_
  refine tP0 5 10 (bm 43 63) ?_
  refine tP0 6 11 (bm 43 127) ?_
  refine tP0 7 12 (bm 43 255) ?_
  refine tP0 8 13 (bm 43 511) ?_
  refine tP0 9 14 (bm 43 1023) ?_
  refine tT6 10 15 (bm 43 2047) ?_
  refine one_ (i := 11) (N := some 16) (bm 43 4095) rfl rfl (one_of HT_.out (by kernel_rfl)) (by decide) (fun K hK => ?_)
  refine goes_ Try.func62 (by kernel_rfl) rfl #[.int .i64 a0_2, .int .i64 2, .int .i64 8] (by rfl) rfl rfl tL ?_
  with_reducible refine (spec_l00In.calls a0_2 2 8 true _ A5.out).mono ?_
  rintro e w' ⟨rfl, ⟨nd, rfl⟩⟩
  refine ⟨_, rfl, ?_⟩
  refine hK.out _ _ ⟨(tcw tB (AtC.cell0 BK40.out _ rfl)), (tcw tB (AtC.cell BK40.out 1 _ (by decide) rfl)), (tcw tB (AtC.cell BK40.out 2 _ (by decide) rfl)), (tcw tB (AtC.cell BK40.out 3 _ (by decide) rfl)), (tcw tB (AtC.cell BK40.out 4 _ (by decide) rfl)), (tcw tB (AtC.cell BK40.out 5 _ (by decide) rfl))⟩ (fun hHeld => ?_)
  clear hK K
  refine tN 16 ?_
  refine tP0 12 17 (bm 43 8191) ?_
  refine tP0 13 18 (bm 43 16383) ?_
  refine tP0 14 19 (bm 43 32767) ?_
  refine tP0 15 20 (bm 43 65535) ?_
  refine tP0 16 21 (bm 43 131071) ?_
  refine tP0 17 22 (bm 43 262143) ?_
  refine tT6 18 23 (bm 43 524287) ?_
  refine one_ (i := 19) (N := some 24) (bm 43 1048575) rfl rfl (one_of HT_.out (by kernel_rfl)) (by decide) (fun K hK => ?_)
  refine goes_ Try.func62 (by kernel_rfl) rfl #[.int .i64 a0_3, .int .i64 1, .int .i64 3] (by rfl) rfl rfl tL ?_
  with_reducible refine (spec_l00In.calls a0_3 1 3 true _ A7.out).mono ?_
  rintro e w' ⟨rfl, ⟨nd, rfl⟩⟩
  refine ⟨_, rfl, ?_⟩
  refine hK.out _ _ ⟨(tcw tB (AtC.cell0 BK40.out _ rfl)), (tcw tB (AtC.cell BK40.out 1 _ (by decide) rfl)), (tcw tB (AtC.cell BK40.out 2 _ (by decide) rfl)), (tcw tB (AtC.cell BK40.out 3 _ (by decide) rfl)), (tcw tB (AtC.cell BK40.out 4 _ (by decide) rfl)), (tcw tB (AtC.cell BK40.out 5 _ (by decide) rfl))⟩ (fun hHeld => ?_)
  clear hK K
  refine tN 24 ?_
  refine tP0 20 25 (bm 43 2097151) ?_
  refine tP0 21 26 (bm 43 4194303) ?_
  refine tP0 22 27 (bm 43 8388607) ?_
  refine tP0 23 28 (bm 43 16777215) ?_
  refine tP0 24 29 (bm 43 33554431) ?_
  refine tP0 25 30 (bm 43 67108863) ?_
  refine tT6 26 31 (bm 43 134217727) ?_
  refine tP0 27 32 (bm 43 268435455) ?_
  refine tP0 28 33 (bm 43 536870911) ?_
  refine tP0 29 34 (bm 43 1073741823) ?_
  refine tP0 30 35 (bm 43 2147483647) ?_
  refine pure_ (i := 31) (N := some 36) (v := undef) (a' := ?_) #[true, true, true, true, true, true, true, true, true, true, true, true, true, true, true, true, true, true, true, true, true, true, true, true, true, true, true, true, true, true, true, true, false, false, false, false, false, false, false, false, false, false, false] rfl rfl (any_of HT_.out (by kernel_rfl)) (fun _ _ _ h => h) (Or.inr ⟨by rfl, rfl⟩) ?_ ?_
  rotate_left
  ·simp only [Act.put, qSa, qSb, qSc, i64_w, i32_w]
   rfl
  refine pure_ (i := 32) (N := some 37) (v := undef) (a' := ?_) #[true, true, true, true, true, true, true, true, true, true, true, true, true, true, true, true, true, true, true, true, true, true, true, true, true, true, true, true, true, true, true, true, true, false, false, false, false, false, false, false, false, false, false] rfl rfl (any_of HT_.out (by kernel_rfl)) (fun _ _ _ h => h) (Or.inr ⟨by rfl, rfl⟩) ?_ ?_
  rotate_left
  ·simp only [Act.put, qSa, qSb, qSc, i64_w, i32_w]
   rfl
  refine pure_ (i := 33) (N := some 38) (v := undef) (a' := ?_) #[true, true, true, true, true, true, true, true, true, true, true, true, true, true, true, true, true, true, true, true, true, true, true, true, true, true, true, true, true, true, true, true, true, true, false, false, false, false, false, false, false, false, false] rfl rfl (any_of HT_.out (by kernel_rfl)) (fun _ _ _ h => h) (Or.inr ⟨by rfl, rfl⟩) ?_ ?_
  rotate_left
  ·simp only [Act.put, qSa, qSb, qSc, i64_w, i32_w]
   rfl
  refine pure_ (i := 34) (N := some 39) (v := undef) (a' := ?_) #[true, true, true, true, true, true, true, true, true, true, true, true, true, true, true, true, true, true, true, true, true, true, true, true, true, true, true, true, true, true, true, true, true, true, true, false, false, false, false, false, false, false, false] rfl rfl (any_of HT_.out (by kernel_rfl)) (fun _ _ _ h => h) (Or.inr ⟨by rfl, rfl⟩) ?_ ?_
  rotate_left
  ·simp only [Act.put, qSa, qSb, qSc, i64_w, i32_w]
   rfl
  refine pure_ (i := 35) (N := some 40) (v := undef) (a' := ?_) #[true, true, true, true, true, true, true, true, true, true, true, true, true, true, true, true, true, true, true, true, true, true, true, true, true, true, true, true, true, true, true, true, true, true, true, true, false, false, false, false, false, false, false] rfl rfl (any_of HT_.out (by kernel_rfl)) (fun _ _ _ h => h) (Or.inr ⟨by rfl, rfl⟩) ?_ ?_
  rotate_left
  ·simp only [Act.put, qSa, qSb, qSc, i64_w, i32_w]
   rfl
  refine pure_ (i := 36) (N := some 41) (v := undef) (a' := ?_) #[true, true, true, true, true, true, true, true, true, true, true, true, true, true, true, true, true, true, true, true, true, true, true, true, true, true, true, true, true, true, true, true, true, true, true, true, true, false, false, false, false, false, false] rfl rfl (any_of HT_.out (by kernel_rfl)) (fun _ _ _ h => h) (Or.inr ⟨by rfl, rfl⟩) ?_ ?_
  rotate_left
  ·simp only [Act.put, qSa, qSb, qSc, i64_w, i32_w]
   rfl
  refine pure_ (i := 37) (N := some 42) (v := undef) (a' := ?_) #[true, true, true, true, true, true, true, true, true, true, true, true, true, true, true, true, true, true, true, true, true, true, true, true, true, true, true, true, true, true, true, true, true, true, true, true, true, true, false, false, false, false, false] rfl rfl (any_of HT_.out (by kernel_rfl)) (fun _ _ _ h => h) (Or.inr ⟨by rfl, rfl⟩) ?_ ?_
  rotate_left
  ·simp only [Act.put, qSa, qSb, qSc, i64_w, i32_w]
   rfl
  refine pure_ (i := 38) (N := some 43) (v := undef) (a' := ?_) #[true, true, true, true, true, true, true, true, true, true, true, true, true, true, true, true, true, true, true, true, true, true, true, true, true, true, true, true, true, true, true, true, true, true, true, true, true, true, true, false, false, false, false] rfl rfl (any_of HT_.out (by kernel_rfl)) (fun _ _ _ h => h) (Or.inr ⟨by rfl, rfl⟩) ?_ ?_
  rotate_left
  ·simp only [Act.put, qSa, qSb, qSc, i64_w, i32_w]
   rfl
  refine pure_ (i := 39) (N := some 44) (v := undef) (a' := ?_) #[true, true, true, true, true, true, true, true, true, true, true, true, true, true, true, true, true, true, true, true, true, true, true, true, true, true, true, true, true, true, true, true, true, true, true, true, true, true, true, true, false, false, false] rfl rfl (any_of HT_.out (by kernel_rfl)) (fun _ _ _ h => h) (Or.inr ⟨by rfl, rfl⟩) ?_ ?_
  rotate_left
  ·simp only [Act.put, qSa, qSb, qSc, i64_w, i32_w]
   rfl
  refine pure_ (i := 40) (N := some 45) (v := undef) (a' := ?_) #[true, true, true, true, true, true, true, true, true, true, true, true, true, true, true, true, true, true, true, true, true, true, true, true, true, true, true, true, true, true, true, true, true, true, true, true, true, true, true, true, true, false, false] rfl rfl (any_of HT_.out (by kernel_rfl)) (fun _ _ _ h => h) (Or.inr ⟨by rfl, rfl⟩) ?_ ?_
  rotate_left
  ·simp only [Act.put, qSa, qSb, qSc, i64_w, i32_w]
   rfl
  refine pure_ (i := 41) (N := some 46) (v := undef) (a' := ?_) #[true, true, true, true, true, true, true, true, true, true, true, true, true, true, true, true, true, true, true, true, true, true, true, true, true, true, true, true, true, true, true, true, true, true, true, true, true, true, true, true, true, true, false] rfl rfl (any_of HT_.out (by kernel_rfl)) (fun _ _ _ h => h) (Or.inr ⟨by rfl, rfl⟩) ?_ ?_
  rotate_left
  ·simp only [Act.put, qSa, qSb, qSc, i64_w, i32_w]
   rfl
  refine tP0 42 47 (bm 43 8796093022207) ?_
  refine done_ (done_of HT_.out (by kernel_rfl)) ?_
  try go_wp2
  go_meet
  case rel => exact ⟨_, (true), tS, H', ⟨tO⟩, ⟨tB⟩⟩
 clear HC2
 try clear c4
 try clear c6
 obtain ⟨kq, x47_1, rfl, HA, HJ1, HB⟩ := hcut
 cases kq with
 | zero => exact absurd HA.out (by simp [spec_l07Ok.j0])
 | succ kj1 =>
  have H := HA.out
  clear HA
  simp only [spec_l07Ok.j0] at H
  by_cases c20 : x47_1 = true
  ·subst c20
   rw [if_pos rfl] at H
   obtain rfl := Option.some.inj H
   go_wp2
   go_ret
   exact ⟨tE, tB⟩
  replace c20 := Bool.eq_false_iff.mpr c20
  subst c20
  rw [if_neg (show ¬ (false = true) by decide)] at H
  replace H' := Aq.mk H
  clear H
  go_wp2
  go_loopg [3] kj1 (fun kq v3 w' => ∃ (x3_2 : Int), v3 = .int .i64 x3_2 ∧ Aq (spec_l07Ok.l0 kq x3_2 a0_0 a0_1 a0_2 a0_3 l0_4 l0_5 = some r) ∧ Aq (kq ≤ kj1) ∧ Aq (Below w.heap.size w w'))
  case atStart => exact ⟨(0), tS, H', ⟨Nat.le_refl _⟩, ⟨tB⟩⟩
  clear H'
  try clear c4
  try clear c6
  try clear c20
  obtain ⟨x3_2, rfl, HA, HK2, HB⟩ := hrel
  cases gk with
  | zero => exact absurd HA.out (by simp [spec_l07Ok.l0])
  | succ k2 =>
   have H := HA.out
   clear HA
   simp only [spec_l07Ok.l0] at H
   by_cases c21 : x3_2 < (l0_4.length : Int)
   rotate_left
   ·rw [if_neg c21] at H
    have c21b0 := decide_eq_false c21
    clear c21
    replace H' := Aq.mk H
    clear H
    have hcz43_0 : wr.cell? g0_0 = some (.int .i64 a0_0) := AtC.cell0 (AtC.below BK40.out HB.out) _ rfl
    have hcz43_1 : wr.cell? ⟨g0_0.block, g0_0.off + 1, none⟩ = some (.int .i64 a0_1) := AtC.cell (AtC.below BK40.out HB.out) 1 _ (by decide) rfl
    have hcz43_2 : wr.cell? ⟨g0_0.block, g0_0.off + 2, none⟩ = some (.int .i64 a0_2) := AtC.cell (AtC.below BK40.out HB.out) 2 _ (by decide) rfl
    have hcz43_3 : wr.cell? ⟨g0_0.block, g0_0.off + 3, none⟩ = some (.int .i64 a0_3) := AtC.cell (AtC.below BK40.out HB.out) 3 _ (by decide) rfl
    have hcz43_4 : wr.cell? ⟨g0_0.block, g0_0.off + 4, none⟩ = some (.slice A0_4 l0_4.length c0_4) := AtC.cell (AtC.below BK40.out HB.out) 4 _ (by decide) rfl
    have hcz43_5 : wr.cell? ⟨g0_0.block, g0_0.off + 5, none⟩ = some (.slice A0_5 l0_5.length c0_5) := AtC.cell (AtC.below BK40.out HB.out) 5 _ (by decide) rfl
    go_wp2
    go_loopg [4] k2 (fun kq v4 w' => ∃ (x4_3 : Int), v4 = .int .i64 x4_3 ∧ Aq (spec_l07Ok.l1 kq x4_3 a0_0 a0_1 a0_2 a0_3 l0_4 l0_5 = some r) ∧ Aq (kq ≤ k2) ∧ Aq (Below w.heap.size w w'))
    case atStart => exact ⟨(0), tS, H', ⟨Nat.le_refl _⟩, ⟨tB⟩⟩
    clear H'
    try clear c21
    try clear c21b0
    try clear c22
    try clear c23
    try clear c23b0
    try clear c23b1
    try clear hcz41_0
    try clear hcz41_1
    try clear hcz41_2
    try clear hcz41_3
    try clear hcz41_4
    try clear hcz41_5
    try clear hcz43_0
    try clear hcz43_1
    try clear hcz43_2
    try clear hcz43_3
    try clear hcz43_4
    try clear hcz43_5
    try clear hx381_0
    try clear p381
    try clear q381
    obtain ⟨x4_3, rfl, HA, HK3, HB⟩ := hrel
    cases gk with
    | zero => exact absurd HA.out (by simp [spec_l07Ok.l1])
    | succ k3 =>
     have H := HA.out
     clear HA
     simp only [spec_l07Ok.l1] at H
     by_cases c44 : x4_3 < (l0_5.length : Int)
     rotate_left
     ·rw [if_neg c44] at H
      have c44b0 := decide_eq_false c44
      clear c44
      obtain rfl := Option.some.inj H
      have hcz63_0 : wr.cell? g0_0 = some (.int .i64 a0_0) := AtC.cell0 (AtC.below BK40.out HB.out) _ rfl
      have hcz63_1 : wr.cell? ⟨g0_0.block, g0_0.off + 1, none⟩ = some (.int .i64 a0_1) := AtC.cell (AtC.below BK40.out HB.out) 1 _ (by decide) rfl
      have hcz63_2 : wr.cell? ⟨g0_0.block, g0_0.off + 2, none⟩ = some (.int .i64 a0_2) := AtC.cell (AtC.below BK40.out HB.out) 2 _ (by decide) rfl
      have hcz63_3 : wr.cell? ⟨g0_0.block, g0_0.off + 3, none⟩ = some (.int .i64 a0_3) := AtC.cell (AtC.below BK40.out HB.out) 3 _ (by decide) rfl
      have hcz63_4 : wr.cell? ⟨g0_0.block, g0_0.off + 4, none⟩ = some (.slice A0_4 l0_4.length c0_4) := AtC.cell (AtC.below BK40.out HB.out) 4 _ (by decide) rfl
      have hcz63_5 : wr.cell? ⟨g0_0.block, g0_0.off + 5, none⟩ = some (.slice A0_5 l0_5.length c0_5) := AtC.cell (AtC.below BK40.out HB.out) 5 _ (by decide) rfl
      go_wp2
      go_ret
      exact ⟨tE, tB⟩
     rw [if_pos c44] at H
     have c44b0 := decide_eq_true c44
     clear c44
     by_cases c45 : 0 ≤ x4_3
     rotate_left
     ·rw [if_neg c45] at H
      exact absurd H (by simp)
     rw [if_pos c45] at H
     have c45b0 := decide_eq_true c45
     clear c45
     by_cases c46 : x4_3 < (l0_4.length : Int)
     rotate_left
     ·rw [if_neg c46] at H
      exact absurd H (by simp)
     rw [if_pos c46] at H
     have c46b0 := decide_eq_true c46
     clear c46
     by_cases c47 : 0 < ((rd_L1 l0_4 x4_3).length : Int)
     rotate_left
     ·rw [if_neg c47] at H
      exact absurd H (by simp)
     rw [if_pos c47] at H
     have c47b0 := decide_eq_true c47
     have c47b1 : decide (0 < (rd_L1 l0_4 x4_3).length) = true := decide_eq_true (by omega)
     clear c47
     obtain ⟨t391, A48, H⟩ := qBd H
     by_cases c49 : ((rd_L1 l0_5 x4_3).length : Int) = t391
     rotate_left
     ·rw [if_neg c49] at H
      have c49b0 := beq_eq_false_iff_ne.mpr c49
      have c49b1 := bne_iff_ne.mpr c49
      obtain rfl := Option.some.inj H
      have hcz60_0 : wr.cell? g0_0 = some (.int .i64 a0_0) := AtC.cell0 (AtC.below BK40.out HB.out) _ rfl
      have hcz60_1 : wr.cell? ⟨g0_0.block, g0_0.off + 1, none⟩ = some (.int .i64 a0_1) := AtC.cell (AtC.below BK40.out HB.out) 1 _ (by decide) rfl
      have hcz60_2 : wr.cell? ⟨g0_0.block, g0_0.off + 2, none⟩ = some (.int .i64 a0_2) := AtC.cell (AtC.below BK40.out HB.out) 2 _ (by decide) rfl
      have hcz60_3 : wr.cell? ⟨g0_0.block, g0_0.off + 3, none⟩ = some (.int .i64 a0_3) := AtC.cell (AtC.below BK40.out HB.out) 3 _ (by decide) rfl
      have hcz60_4 : wr.cell? ⟨g0_0.block, g0_0.off + 4, none⟩ = some (.slice A0_4 l0_4.length c0_4) := AtC.cell (AtC.below BK40.out HB.out) 4 _ (by decide) rfl
      have hcz60_5 : wr.cell? ⟨g0_0.block, g0_0.off + 5, none⟩ = some (.slice A0_5 l0_5.length c0_5) := AtC.cell (AtC.below BK40.out HB.out) 5 _ (by decide) rfl
      try go_wp2
      have n0_ := Aq.mk (bQ1 HB.out)
      clear HB
      have HB := n0_
      clear n0_
      have p388 : 0 ≤ (x4_3 : Int) := of_decide_eq_true tA
      have q388 : x4_3 < (l0_5.length : Int) := of_decide_eq_true tA
      obtain ⟨ad388, A388_0, c388_0, e388, hx388_0, hl388_0, hi388_0⟩ := at_L1 HR0_5.out x4_3 p388 q388
      have hw388_0 := hx388_0
      cases e388
      replace hx388_0 := (HB.out.cell (World.block_lt_of_cell? w _ hx388_0)).trans hx388_0
      have HR388_0 := Aq.mk hi388_0
      have HC388_0 := Aq.mk hl388_0
      clear hi388_0 hl388_0
      replace p388 := eq_true p388
      replace q388 := eq_true q388
      have p389 : 0 ≤ (x4_3 : Int) := of_decide_eq_true tA
      have q389 : x4_3 < (l0_4.length : Int) := of_decide_eq_true tA
      obtain ⟨ad389, A389_0, c389_0, e389, hx389_0, hl389_0, hi389_0⟩ := at_L1 HR0_4.out x4_3 p389 q389
      have hw389_0 := hx389_0
      cases e389
      replace hx389_0 := (HB.out.cell (World.block_lt_of_cell? w _ hx389_0)).trans hx389_0
      have HR389_0 := Aq.mk hi389_0
      have HC389_0 := Aq.mk hl389_0
      clear hi389_0 hl389_0
      replace p389 := eq_true p389
      replace q389 := eq_true q389
      have p390 : 0 ≤ (0 : Int) := (by omega)
      have q390 : 0 < ((rd_L1 l0_4 x4_3).length : Int) := of_decide_eq_true tA
      obtain ⟨ad390, e390, hx390_0⟩ := Kd.at_int HR389_0.out 0 p390 q390
      have hw390_0 := hx390_0
      (try rw [show ((0 : Int)).toNat = 0 from rfl] at hw390_0)
      (try rw [show 0 * 1 = 0 from rfl] at hw390_0)
      (try rw [Addr.add_zero'] at hw390_0)
      cases e390
      have qi390 : (0 < (rd_L1 l0_4 x4_3).length) = True := eq_true (by omega)
      (try rw [show ((0 : Int)).toNat = 0 from rfl] at hx390_0)
      (try rw [Addr.add_zero'] at hx390_0)
      replace hx390_0 := (HB.out.cell (World.block_lt_of_cell? w _ hx390_0)).trans hx390_0
      replace p390 := eq_true p390
      replace q390 := eq_true q390
      refine start_ (n := 35) (S := fun w' => w'.cell? g0_0 = some (.int .i64 a0_0) ∧ w'.cell? ⟨g0_0.block, g0_0.off + 1, none⟩ = some (.int .i64 a0_1) ∧ w'.cell? ⟨g0_0.block, g0_0.off + 2, none⟩ = some (.int .i64 a0_2) ∧ w'.cell? ⟨g0_0.block, g0_0.off + 3, none⟩ = some (.int .i64 a0_3) ∧ w'.cell? ⟨g0_0.block, g0_0.off + 4, none⟩ = some (.slice (some ad389) l0_4.length c0_4) ∧ w'.cell? ⟨g0_0.block, g0_0.off + 5, none⟩ = some (.slice (some ad388) l0_5.length c0_5) ∧ w'.cell? (ad388.add (x4_3).toNat) = some (.slice A388_0 (rd_L1 l0_5 x4_3).length c388_0) ∧ w'.cell? (ad389.add (x4_3).toNat) = some (.slice (some ad390) (rd_L1 l0_4 x4_3).length c389_0) ∧ w'.cell? ad390 = some (.int .i64 (rd (rd_L1 l0_4 x4_3) 0))) (ds := []) #[false, false, false, false, false, false, false, false, false, false, false, false, false, false, false, false, false, false, false, false, false, false, false, false, false, false, false, false, false, false, false, false, false, false, false] (by kernel_rfl) rfl rfl ⟨(tcw tB (AtC.cell0 BK40.out _ rfl)), (tcw tB (AtC.cell BK40.out 1 _ (by decide) rfl)), (tcw tB (AtC.cell BK40.out 2 _ (by decide) rfl)), (tcw tB (AtC.cell BK40.out 3 _ (by decide) rfl)), (tcw tB (AtC.cell BK40.out 4 _ (by decide) rfl)), (tcw tB (AtC.cell BK40.out 5 _ (by decide) rfl)), (tcw tB hw388_0), (tcw tB hw389_0), (tcw tB hw390_0)⟩ (fun hHeld => ?_); refine with_tabW spec_l07Ok.tab11 spec_l07Ok.bits11 (fun HT_ HW_ => ?_)
      generalize wr.drew = w61 at HB HR388_0 HR389_0 hx388_0 hx389_0 hx390_0 hHeld ⊢
      refine tP0 0 117 (bm 35 1) ?_
      refine tP0 1 118 (bm 35 3) ?_
      refine tP0 2 119 (bm 35 7) ?_
      refine tP0 4 121 (bm 35 23) ?_
      refine tP0 8 125 (bm 35 279) ?_
      refine tP0 9 126 (bm 35 791) ?_
      refine tP0 10 127 (bm 35 1815) ?_
      refine tP0 11 128 (bm 35 3863) ?_
      refine tP0 13 130 (bm 35 12055) ?_
      refine tT9 3 120 (bm 35 12063) ?_
      refine tP0 5 122 (bm 35 12095) ?_
      refine tT9 6 123 (bm 35 12159) ?_
      refine tP0 7 124 (bm 35 12287) ?_
      refine tT9 12 129 (bm 35 16383) ?_
      refine tP0 14 131 (bm 35 32767) ?_
      refine tT9 15 132 (bm 35 65535) ?_
      refine tP0 16 133 (bm 35 131071) ?_
      refine tT9 17 134 (bm 35 262143) ?_
      refine one_ (i := 18) (N := some 135) (bm 35 524287) rfl rfl (one_of HT_.out (by kernel_rfl)) (by decide) (fun K hK => ?_)
      refine goes_ Try.func108 (by kernel_rfl) rfl #[.pointer (some g0_0), .int .i64 (rd (rd_L1 l0_4 x4_3) 0)] (by rfl) rfl rfl tL ?_
      with_reducible refine (spec_l07Has.calls k3 (g0_0 : Addr) a0_0 a0_1 a0_2 a0_3 (some ad389) c0_4 l0_4 (some ad388) c0_5 l0_5 (rd (rd_L1 l0_4 x4_3) 0) t391 _ ?s1 ?s2 ?s3 ?s4 ?s5 A48.out).mono ?_
      (case s1 => exact tC ((Kd.C_below HR0_4.out HB.out)))
      (case s2 => exact HC0_4.out)
      (case s3 => exact tC ((Kd.C_below HR0_5.out HB.out)))
      (case s4 => exact HC0_5.out)
      (case s5 => repeat (first | exact (AtC.below BK40.out HB.out) | (with_reducible refine AtC.alloc ?_ _) | (with_reducible refine AtC.drewN ?_ _) | (with_reducible refine AtC.drew ?_)))
      rintro e w62 ⟨rfl, hb⟩
      refine ⟨_, rfl, ?_⟩
      have n0_ := Aq.mk (bQT tB hb)
      clear HB
      have HB := n0_
      clear n0_
      (try clear hb)
      (try clear hb2)
      (try clear hk)
      (try clear hi)
      refine hK.out _ _ ⟨(tcw tB (AtC.cell0 BK40.out _ rfl)), (tcw tB (AtC.cell BK40.out 1 _ (by decide) rfl)), (tcw tB (AtC.cell BK40.out 2 _ (by decide) rfl)), (tcw tB (AtC.cell BK40.out 3 _ (by decide) rfl)), (tcw tB (AtC.cell BK40.out 4 _ (by decide) rfl)), (tcw tB (AtC.cell BK40.out 5 _ (by decide) rfl)), (tcw tB hw388_0), (tcw tB hw389_0), (tcw tB hw390_0)⟩ (fun hHeld => ?_)
      clear hK K
      refine tN 135 ?_
      refine tP0 19 136 (bm 35 1048575) ?_
      refine tP0 20 137 (bm 35 2097151) ?_
      refine pure_ (i := 21) (N := some 138) (v := undef) (a' := ?_) #[true, true, true, true, true, true, true, true, true, true, true, true, true, true, true, true, true, true, true, true, true, true, false, false, false, false, false, false, false, false, false, false, false, false, false] rfl rfl (any_of HT_.out (by kernel_rfl)) (fun _ _ _ h => h) (Or.inr ⟨by rfl, rfl⟩) ?_ ?_
      rotate_left
      ·simp only [Act.put, qSa, qSb, qSc, i64_w, i32_w]
       rfl
      refine pure_ (i := 22) (N := some 139) (v := undef) (a' := ?_) #[true, true, true, true, true, true, true, true, true, true, true, true, true, true, true, true, true, true, true, true, true, true, true, false, false, false, false, false, false, false, false, false, false, false, false] rfl rfl (any_of HT_.out (by kernel_rfl)) (fun _ _ _ h => h) (Or.inr ⟨by rfl, rfl⟩) ?_ ?_
      rotate_left
      ·simp only [Act.put, qSa, qSb, qSc, i64_w, i32_w]
       rfl
      refine pure_ (i := 23) (N := some 140) (v := undef) (a' := ?_) #[true, true, true, true, true, true, true, true, true, true, true, true, true, true, true, true, true, true, true, true, true, true, true, true, false, false, false, false, false, false, false, false, false, false, false] rfl rfl (any_of HT_.out (by kernel_rfl)) (fun _ _ _ h => h) (Or.inr ⟨by rfl, rfl⟩) ?_ ?_
      rotate_left
      ·simp only [Act.put, qSa, qSb, qSc, i64_w, i32_w]
       rfl
      refine pure_ (i := 24) (N := some 141) (v := undef) (a' := ?_) #[true, true, true, true, true, true, true, true, true, true, true, true, true, true, true, true, true, true, true, true, true, true, true, true, true, false, false, false, false, false, false, false, false, false, false] rfl rfl (any_of HT_.out (by kernel_rfl)) (fun _ _ _ h => h) (Or.inr ⟨by rfl, rfl⟩) ?_ ?_
      rotate_left
      ·simp only [Act.put, qSa, qSb, qSc, i64_w, i32_w]
       rfl
      refine pure_ (i := 25) (N := some 142) (v := undef) (a' := ?_) #[true, true, true, true, true, true, true, true, true, true, true, true, true, true, true, true, true, true, true, true, true, true, true, true, true, true, false, false, false, false, false, false, false, false, false] rfl rfl (any_of HT_.out (by kernel_rfl)) (fun _ _ _ h => h) (Or.inr ⟨by rfl, rfl⟩) ?_ ?_
      rotate_left
      ·simp only [Act.put, qSa, qSb, qSc, i64_w, i32_w]
       rfl
      refine pure_ (i := 26) (N := some 143) (v := undef) (a' := ?_) #[true, true, true, true, true, true, true, true, true, true, true, true, true, true, true, true, true, true, true, true, true, true, true, true, true, true, true, false, false, false, false, false, false, false, false] rfl rfl (any_of HT_.out (by kernel_rfl)) (fun _ _ _ h => h) (Or.inr ⟨by rfl, rfl⟩) ?_ ?_
      rotate_left
      ·simp only [Act.put, qSa, qSb, qSc, i64_w, i32_w]
       rfl
      refine pure_ (i := 27) (N := some 144) (v := undef) (a' := ?_) #[true, true, true, true, true, true, true, true, true, true, true, true, true, true, true, true, true, true, true, true, true, true, true, true, true, true, true, true, false, false, false, false, false, false, false] rfl rfl (any_of HT_.out (by kernel_rfl)) (fun _ _ _ h => h) (Or.inr ⟨by rfl, rfl⟩) ?_ ?_
      rotate_left
      ·simp only [Act.put, qSa, qSb, qSc, i64_w, i32_w]
       rfl
      refine pure_ (i := 28) (N := some 145) (v := undef) (a' := ?_) #[true, true, true, true, true, true, true, true, true, true, true, true, true, true, true, true, true, true, true, true, true, true, true, true, true, true, true, true, true, false, false, false, false, false, false] rfl rfl (any_of HT_.out (by kernel_rfl)) (fun _ _ _ h => h) (Or.inr ⟨by rfl, rfl⟩) ?_ ?_
      rotate_left
      ·simp only [Act.put, qSa, qSb, qSc, i64_w, i32_w]
       rfl
      refine pure_ (i := 29) (N := some 146) (v := undef) (a' := ?_) #[true, true, true, true, true, true, true, true, true, true, true, true, true, true, true, true, true, true, true, true, true, true, true, true, true, true, true, true, true, true, false, false, false, false, false] rfl rfl (any_of HT_.out (by kernel_rfl)) (fun _ _ _ h => h) (Or.inr ⟨by rfl, rfl⟩) ?_ ?_
      rotate_left
      ·simp only [Act.put, qSa, qSb, qSc, i64_w, i32_w]
       rfl
      refine pure_ (i := 30) (N := some 147) (v := undef) (a' := ?_) #[true, true, true, true, true, true, true, true, true, true, true, true, true, true, true, true, true, true, true, true, true, true, true, true, true, true, true, true, true, true, true, false, false, false, false] rfl rfl (any_of HT_.out (by kernel_rfl)) (fun _ _ _ h => h) (Or.inr ⟨by rfl, rfl⟩) ?_ ?_
      rotate_left
      ·simp only [Act.put, qSa, qSb, qSc, i64_w, i32_w]
       rfl
      refine pure_ (i := 31) (N := some 148) (v := undef) (a' := ?_) #[true, true, true, true, true, true, true, true, true, true, true, true, true, true, true, true, true, true, true, true, true, true, true, true, true, true, true, true, true, true, true, true, false, false, false] rfl rfl (any_of HT_.out (by kernel_rfl)) (fun _ _ _ h => h) (Or.inr ⟨by rfl, rfl⟩) ?_ ?_
      rotate_left
      ·simp only [Act.put, qSa, qSb, qSc, i64_w, i32_w]
       rfl
      refine pure_ (i := 32) (N := some 149) (v := undef) (a' := ?_) #[true, true, true, true, true, true, true, true, true, true, true, true, true, true, true, true, true, true, true, true, true, true, true, true, true, true, true, true, true, true, true, true, true, false, false] rfl rfl (any_of HT_.out (by kernel_rfl)) (fun _ _ _ h => h) (Or.inr ⟨by rfl, rfl⟩) ?_ ?_
      rotate_left
      ·simp only [Act.put, qSa, qSb, qSc, i64_w, i32_w]
       rfl
      refine pure_ (i := 33) (N := some 150) (v := undef) (a' := ?_) #[true, true, true, true, true, true, true, true, true, true, true, true, true, true, true, true, true, true, true, true, true, true, true, true, true, true, true, true, true, true, true, true, true, true, false] rfl rfl (any_of HT_.out (by kernel_rfl)) (fun _ _ _ h => h) (Or.inr ⟨by rfl, rfl⟩) ?_ ?_
      rotate_left
      ·simp only [Act.put, qSa, qSb, qSc, i64_w, i32_w]
       rfl
      refine tP0 34 151 (bm 35 34359738367) ?_
      refine done_ (done_of HT_.out (by kernel_rfl)) ?_
      try go_wp2
      go_ret
      exact ⟨tE, tB⟩
     rw [if_pos c49] at H
     have c49b0 := beq_iff_eq.mpr c49
     have c49b1 := bne_eq_false_iff_eq.mpr c49
     clear c49
     obtain ⟨t393, A50, H⟩ := qBd H
     by_cases c51 : t393 = true
     ·subst c51
      rw [if_pos rfl] at H
      replace H' := Aq.mk H
      clear H
      have hcz52_0 : wr.cell? g0_0 = some (.int .i64 a0_0) := AtC.cell0 (AtC.below BK40.out HB.out) _ rfl
      have hcz52_1 : wr.cell? ⟨g0_0.block, g0_0.off + 1, none⟩ = some (.int .i64 a0_1) := AtC.cell (AtC.below BK40.out HB.out) 1 _ (by decide) rfl
      have hcz52_2 : wr.cell? ⟨g0_0.block, g0_0.off + 2, none⟩ = some (.int .i64 a0_2) := AtC.cell (AtC.below BK40.out HB.out) 2 _ (by decide) rfl
      have hcz52_3 : wr.cell? ⟨g0_0.block, g0_0.off + 3, none⟩ = some (.int .i64 a0_3) := AtC.cell (AtC.below BK40.out HB.out) 3 _ (by decide) rfl
      have hcz52_4 : wr.cell? ⟨g0_0.block, g0_0.off + 4, none⟩ = some (.slice A0_4 l0_4.length c0_4) := AtC.cell (AtC.below BK40.out HB.out) 4 _ (by decide) rfl
      have hcz52_5 : wr.cell? ⟨g0_0.block, g0_0.off + 5, none⟩ = some (.slice A0_5 l0_5.length c0_5) := AtC.cell (AtC.below BK40.out HB.out) 5 _ (by decide) rfl
      try go_wp2
      have n0_ := Aq.mk (bQ1 HB.out)
      clear HB
      have HB := n0_
      clear n0_
      have p388 : 0 ≤ (x4_3 : Int) := of_decide_eq_true tA
      have q388 : x4_3 < (l0_5.length : Int) := of_decide_eq_true tA
      obtain ⟨ad388, A388_0, c388_0, e388, hx388_0, hl388_0, hi388_0⟩ := at_L1 HR0_5.out x4_3 p388 q388
      have hw388_0 := hx388_0
      cases e388
      replace hx388_0 := (HB.out.cell (World.block_lt_of_cell? w _ hx388_0)).trans hx388_0
      have HR388_0 := Aq.mk hi388_0
      have HC388_0 := Aq.mk hl388_0
      clear hi388_0 hl388_0
      replace p388 := eq_true p388
      replace q388 := eq_true q388
      have p389 : 0 ≤ (x4_3 : Int) := of_decide_eq_true tA
      have q389 : x4_3 < (l0_4.length : Int) := of_decide_eq_true tA
      obtain ⟨ad389, A389_0, c389_0, e389, hx389_0, hl389_0, hi389_0⟩ := at_L1 HR0_4.out x4_3 p389 q389
      have hw389_0 := hx389_0
      cases e389
      replace hx389_0 := (HB.out.cell (World.block_lt_of_cell? w _ hx389_0)).trans hx389_0
      have HR389_0 := Aq.mk hi389_0
      have HC389_0 := Aq.mk hl389_0
      clear hi389_0 hl389_0
      replace p389 := eq_true p389
      replace q389 := eq_true q389
      have p390 : 0 ≤ (0 : Int) := (by omega)
      have q390 : 0 < ((rd_L1 l0_4 x4_3).length : Int) := of_decide_eq_true tA
      obtain ⟨ad390, e390, hx390_0⟩ := Kd.at_int HR389_0.out 0 p390 q390
      have hw390_0 := hx390_0
      (try rw [show ((0 : Int)).toNat = 0 from rfl] at hw390_0)
      (try rw [show 0 * 1 = 0 from rfl] at hw390_0)
      (try rw [Addr.add_zero'] at hw390_0)
      cases e390
      have qi390 : (0 < (rd_L1 l0_4 x4_3).length) = True := eq_true (by omega)
      (try rw [show ((0 : Int)).toNat = 0 from rfl] at hx390_0)
      (try rw [Addr.add_zero'] at hx390_0)
      replace hx390_0 := (HB.out.cell (World.block_lt_of_cell? w _ hx390_0)).trans hx390_0
      replace p390 := eq_true p390
      replace q390 := eq_true q390
      have p392 : 0 ≤ (x4_3 : Int) := of_decide_eq_true tA
      have q392 : x4_3 < (l0_5.length : Int) := of_decide_eq_true tA
      obtain ⟨ad392, A392_0, c392_0, e392, hx392_0, hl392_0, hi392_0⟩ := at_L1 HR0_5.out x4_3 p392 q392
      have hw392_0 := hx392_0
      obtain rfl : ad388 = ad392 := (by injection e392)
      obtain ⟨rfl, rfl⟩ : A388_0 = A392_0 ∧ c388_0 = c392_0 := by have h_ := hw388_0.symm.trans hw392_0; simpa using h_
      replace hx392_0 := (HB.out.cell (World.block_lt_of_cell? w _ hx392_0)).trans hx392_0
      have HR392_0 := Aq.mk hi392_0
      have HC392_0 := Aq.mk hl392_0
      clear hi392_0 hl392_0
      replace p392 := eq_true p392
      replace q392 := eq_true q392
      refine start_ (n := 35) (S := fun w' => w'.cell? g0_0 = some (.int .i64 a0_0) ∧ w'.cell? ⟨g0_0.block, g0_0.off + 1, none⟩ = some (.int .i64 a0_1) ∧ w'.cell? ⟨g0_0.block, g0_0.off + 2, none⟩ = some (.int .i64 a0_2) ∧ w'.cell? ⟨g0_0.block, g0_0.off + 3, none⟩ = some (.int .i64 a0_3) ∧ w'.cell? ⟨g0_0.block, g0_0.off + 4, none⟩ = some (.slice (some ad389) l0_4.length c0_4) ∧ w'.cell? ⟨g0_0.block, g0_0.off + 5, none⟩ = some (.slice (some ad388) l0_5.length c0_5) ∧ w'.cell? (ad388.add (x4_3).toNat) = some (.slice A388_0 (rd_L1 l0_5 x4_3).length c388_0) ∧ w'.cell? (ad389.add (x4_3).toNat) = some (.slice (some ad390) (rd_L1 l0_4 x4_3).length c389_0) ∧ w'.cell? ad390 = some (.int .i64 (rd (rd_L1 l0_4 x4_3) 0)) ∧ w'.cell? (ad388.add (x4_3).toNat) = some (.slice A388_0 (rd_L1 l0_5 x4_3).length c388_0)) (ds := []) #[false, false, false, false, false, false, false, false, false, false, false, false, false, false, false, false, false, false, false, false, false, false, false, false, false, false, false, false, false, false, false, false, false, false, false] (by kernel_rfl) rfl rfl ⟨(tcw tB (AtC.cell0 BK40.out _ rfl)), (tcw tB (AtC.cell BK40.out 1 _ (by decide) rfl)), (tcw tB (AtC.cell BK40.out 2 _ (by decide) rfl)), (tcw tB (AtC.cell BK40.out 3 _ (by decide) rfl)), (tcw tB (AtC.cell BK40.out 4 _ (by decide) rfl)), (tcw tB (AtC.cell BK40.out 5 _ (by decide) rfl)), (tcw tB hw388_0), (tcw tB hw389_0), (tcw tB hw390_0), (tcw tB hw392_0)⟩ (fun hHeld => ?_); refine with_tabW spec_l07Ok.tab11 spec_l07Ok.bits11 (fun HT_ HW_ => ?_)
      generalize wr.drew = w53 at HB HR388_0 HR389_0 HR392_0 hx388_0 hx389_0 hx390_0 hx392_0 hHeld ⊢
      refine tP0 0 117 (bm 35 1) ?_
      refine tP0 1 118 (bm 35 3) ?_
      refine tP0 2 119 (bm 35 7) ?_
      refine tP0 4 121 (bm 35 23) ?_
      refine tP0 8 125 (bm 35 279) ?_
      refine tP0 9 126 (bm 35 791) ?_
      refine tP0 10 127 (bm 35 1815) ?_
      refine tP0 11 128 (bm 35 3863) ?_
      refine tP0 13 130 (bm 35 12055) ?_
      refine tT10 3 120 (bm 35 12063) ?_
      refine tP0 5 122 (bm 35 12095) ?_
      refine tT10 6 123 (bm 35 12159) ?_
      refine tP0 7 124 (bm 35 12287) ?_
      refine tT10 12 129 (bm 35 16383) ?_
      refine tP0 14 131 (bm 35 32767) ?_
      refine tT10 15 132 (bm 35 65535) ?_
      refine tP0 16 133 (bm 35 131071) ?_
      refine tT10 17 134 (bm 35 262143) ?_
      refine one_ (i := 18) (N := some 135) (bm 35 524287) rfl rfl (one_of HT_.out (by kernel_rfl)) (by decide) (fun K hK => ?_)
      refine goes_ Try.func108 (by kernel_rfl) rfl #[.pointer (some g0_0), .int .i64 (rd (rd_L1 l0_4 x4_3) 0)] (by rfl) rfl rfl tL ?_
      with_reducible refine (spec_l07Has.calls k3 (g0_0 : Addr) a0_0 a0_1 a0_2 a0_3 (some ad389) c0_4 l0_4 (some ad388) c0_5 l0_5 (rd (rd_L1 l0_4 x4_3) 0) t391 _ ?s1 ?s2 ?s3 ?s4 ?s5 A48.out).mono ?_
      (case s1 => exact tC ((Kd.C_below HR0_4.out HB.out)))
      (case s2 => exact HC0_4.out)
      (case s3 => exact tC ((Kd.C_below HR0_5.out HB.out)))
      (case s4 => exact HC0_5.out)
      (case s5 => repeat (first | exact (AtC.below BK40.out HB.out) | (with_reducible refine AtC.alloc ?_ _) | (with_reducible refine AtC.drewN ?_ _) | (with_reducible refine AtC.drew ?_)))
      rintro e w54 ⟨rfl, hb⟩
      refine ⟨_, rfl, ?_⟩
      have n0_ := Aq.mk (bQT tB hb)
      clear HB
      have HB := n0_
      clear n0_
      (try clear hb)
      (try clear hb2)
      (try clear hk)
      (try clear hi)
      refine hK.out _ _ ⟨(tcw tB (AtC.cell0 BK40.out _ rfl)), (tcw tB (AtC.cell BK40.out 1 _ (by decide) rfl)), (tcw tB (AtC.cell BK40.out 2 _ (by decide) rfl)), (tcw tB (AtC.cell BK40.out 3 _ (by decide) rfl)), (tcw tB (AtC.cell BK40.out 4 _ (by decide) rfl)), (tcw tB (AtC.cell BK40.out 5 _ (by decide) rfl)), (tcw tB hw388_0), (tcw tB hw389_0), (tcw tB hw390_0), (tcw tB hw392_0)⟩ (fun hHeld => ?_)
      clear hK K
      refine tN 135 ?_
      refine tP0 19 136 (bm 35 1048575) ?_
      refine tP0 20 137 (bm 35 2097151) ?_
      refine tP0 21 138 (bm 35 4194303) ?_
      refine tP0 22 139 (bm 35 8388607) ?_
      refine tP0 23 140 (bm 35 16777215) ?_
      refine tP0 25 142 (bm 35 50331647) ?_
      refine tP0 26 143 (bm 35 117440511) ?_
      refine tP0 27 144 (bm 35 251658239) ?_
      refine tP0 29 146 (bm 35 788529151) ?_
      refine tT10 24 141 (bm 35 805306367) ?_
      refine tT10 28 145 (bm 35 1073741823) ?_
      refine tP0 30 147 (bm 35 2147483647) ?_
      refine tT10 31 148 (bm 35 4294967295) ?_
      refine one_ (i := 32) (N := some 149) (bm 35 8589934591) rfl rfl (one_of HT_.out (by kernel_rfl)) (by decide) (fun K hK => ?_)
      refine goes_ Try.func63 (by kernel_rfl) rfl #[.agg #[.int .i64 a0_0, .int .i64 a0_1], .slice A388_0 (rd_L1 l0_5 x4_3).length c388_0] (by rfl) rfl rfl tL ?_
      with_reducible refine (spec_l04Elements.calls k3 a0_0 a0_1 _ _ (rd_L1 l0_5 x4_3) true _ ?s1 ?s2 A50.out).mono ?_
      (case s1 => exact tC ((Kd.C_below HR392_0.out HB.out)))
      (case s2 => exact HC392_0.out)
      rintro e w55 ⟨rfl, hb⟩
      refine ⟨_, rfl, ?_⟩
      have n0_ := Aq.mk (bQT tB hb)
      clear HB
      have HB := n0_
      clear n0_
      (try clear hb)
      (try clear hb2)
      (try clear hk)
      (try clear hi)
      refine hK.out _ _ ⟨(tcw tB (AtC.cell0 BK40.out _ rfl)), (tcw tB (AtC.cell BK40.out 1 _ (by decide) rfl)), (tcw tB (AtC.cell BK40.out 2 _ (by decide) rfl)), (tcw tB (AtC.cell BK40.out 3 _ (by decide) rfl)), (tcw tB (AtC.cell BK40.out 4 _ (by decide) rfl)), (tcw tB (AtC.cell BK40.out 5 _ (by decide) rfl)), (tcw tB hw388_0), (tcw tB hw389_0), (tcw tB hw390_0), (tcw tB hw392_0)⟩ (fun hHeld => ?_)
      clear hK K
      refine tN 149 ?_
      refine tP0 33 150 (bm 35 17179869183) ?_
      refine tP0 34 151 (bm 35 34359738367) ?_
      refine done_ (done_of HT_.out (by kernel_rfl)) ?_
      try go_wp2
      go_roundg k3
      case measure => have := HJ1.out; have := HK2.out; have := HK3.out; omega
      case rel => exact ⟨(wrap64 (x4_3 + 1)), tS, H', ⟨by have := HJ1.out; have := HK2.out; have := HK3.out; omega⟩, ⟨tB⟩⟩
     replace c51 := Bool.eq_false_iff.mpr c51
     subst c51
     rw [if_neg (show ¬ (false = true) by decide)] at H
     obtain rfl := Option.some.inj H
     have hcz56_0 : wr.cell? g0_0 = some (.int .i64 a0_0) := AtC.cell0 (AtC.below BK40.out HB.out) _ rfl
     have hcz56_1 : wr.cell? ⟨g0_0.block, g0_0.off + 1, none⟩ = some (.int .i64 a0_1) := AtC.cell (AtC.below BK40.out HB.out) 1 _ (by decide) rfl
     have hcz56_2 : wr.cell? ⟨g0_0.block, g0_0.off + 2, none⟩ = some (.int .i64 a0_2) := AtC.cell (AtC.below BK40.out HB.out) 2 _ (by decide) rfl
     have hcz56_3 : wr.cell? ⟨g0_0.block, g0_0.off + 3, none⟩ = some (.int .i64 a0_3) := AtC.cell (AtC.below BK40.out HB.out) 3 _ (by decide) rfl
     have hcz56_4 : wr.cell? ⟨g0_0.block, g0_0.off + 4, none⟩ = some (.slice A0_4 l0_4.length c0_4) := AtC.cell (AtC.below BK40.out HB.out) 4 _ (by decide) rfl
     have hcz56_5 : wr.cell? ⟨g0_0.block, g0_0.off + 5, none⟩ = some (.slice A0_5 l0_5.length c0_5) := AtC.cell (AtC.below BK40.out HB.out) 5 _ (by decide) rfl
     try go_wp2
     have n0_ := Aq.mk (bQ1 HB.out)
     clear HB
     have HB := n0_
     clear n0_
     have p388 : 0 ≤ (x4_3 : Int) := of_decide_eq_true tA
     have q388 : x4_3 < (l0_5.length : Int) := of_decide_eq_true tA
     obtain ⟨ad388, A388_0, c388_0, e388, hx388_0, hl388_0, hi388_0⟩ := at_L1 HR0_5.out x4_3 p388 q388
     have hw388_0 := hx388_0
     cases e388
     replace hx388_0 := (HB.out.cell (World.block_lt_of_cell? w _ hx388_0)).trans hx388_0
     have HR388_0 := Aq.mk hi388_0
     have HC388_0 := Aq.mk hl388_0
     clear hi388_0 hl388_0
     replace p388 := eq_true p388
     replace q388 := eq_true q388
     have p389 : 0 ≤ (x4_3 : Int) := of_decide_eq_true tA
     have q389 : x4_3 < (l0_4.length : Int) := of_decide_eq_true tA
     obtain ⟨ad389, A389_0, c389_0, e389, hx389_0, hl389_0, hi389_0⟩ := at_L1 HR0_4.out x4_3 p389 q389
     have hw389_0 := hx389_0
     cases e389
     replace hx389_0 := (HB.out.cell (World.block_lt_of_cell? w _ hx389_0)).trans hx389_0
     have HR389_0 := Aq.mk hi389_0
     have HC389_0 := Aq.mk hl389_0
     clear hi389_0 hl389_0
     replace p389 := eq_true p389
     replace q389 := eq_true q389
     have p390 : 0 ≤ (0 : Int) := (by omega)
     have q390 : 0 < ((rd_L1 l0_4 x4_3).length : Int) := of_decide_eq_true tA
     obtain ⟨ad390, e390, hx390_0⟩ := Kd.at_int HR389_0.out 0 p390 q390
     have hw390_0 := hx390_0
     (try rw [show ((0 : Int)).toNat = 0 from rfl] at hw390_0)
     (try rw [show 0 * 1 = 0 from rfl] at hw390_0)
     (try rw [Addr.add_zero'] at hw390_0)
     cases e390
     have qi390 : (0 < (rd_L1 l0_4 x4_3).length) = True := eq_true (by omega)
     (try rw [show ((0 : Int)).toNat = 0 from rfl] at hx390_0)
     (try rw [Addr.add_zero'] at hx390_0)
     replace hx390_0 := (HB.out.cell (World.block_lt_of_cell? w _ hx390_0)).trans hx390_0
     replace p390 := eq_true p390
     replace q390 := eq_true q390
     have p392 : 0 ≤ (x4_3 : Int) := of_decide_eq_true tA
     have q392 : x4_3 < (l0_5.length : Int) := of_decide_eq_true tA
     obtain ⟨ad392, A392_0, c392_0, e392, hx392_0, hl392_0, hi392_0⟩ := at_L1 HR0_5.out x4_3 p392 q392
     have hw392_0 := hx392_0
     obtain rfl : ad388 = ad392 := (by injection e392)
     obtain ⟨rfl, rfl⟩ : A388_0 = A392_0 ∧ c388_0 = c392_0 := by have h_ := hw388_0.symm.trans hw392_0; simpa using h_
     replace hx392_0 := (HB.out.cell (World.block_lt_of_cell? w _ hx392_0)).trans hx392_0
     have HR392_0 := Aq.mk hi392_0
     have HC392_0 := Aq.mk hl392_0
     clear hi392_0 hl392_0
     replace p392 := eq_true p392
     replace q392 := eq_true q392
     refine start_ (n := 35) (S := fun w' => w'.cell? g0_0 = some (.int .i64 a0_0) ∧ w'.cell? ⟨g0_0.block, g0_0.off + 1, none⟩ = some (.int .i64 a0_1) ∧ w'.cell? ⟨g0_0.block, g0_0.off + 2, none⟩ = some (.int .i64 a0_2) ∧ w'.cell? ⟨g0_0.block, g0_0.off + 3, none⟩ = some (.int .i64 a0_3) ∧ w'.cell? ⟨g0_0.block, g0_0.off + 4, none⟩ = some (.slice (some ad389) l0_4.length c0_4) ∧ w'.cell? ⟨g0_0.block, g0_0.off + 5, none⟩ = some (.slice (some ad388) l0_5.length c0_5) ∧ w'.cell? (ad388.add (x4_3).toNat) = some (.slice A388_0 (rd_L1 l0_5 x4_3).length c388_0) ∧ w'.cell? (ad389.add (x4_3).toNat) = some (.slice (some ad390) (rd_L1 l0_4 x4_3).length c389_0) ∧ w'.cell? ad390 = some (.int .i64 (rd (rd_L1 l0_4 x4_3) 0)) ∧ w'.cell? (ad388.add (x4_3).toNat) = some (.slice A388_0 (rd_L1 l0_5 x4_3).length c388_0)) (ds := []) #[false, false, false, false, false, false, false, false, false, false, false, false, false, false, false, false, false, false, false, false, false, false, false, false, false, false, false, false, false, false, false, false, false, false, false] (by kernel_rfl) rfl rfl ⟨(tcw tB (AtC.cell0 BK40.out _ rfl)), (tcw tB (AtC.cell BK40.out 1 _ (by decide) rfl)), (tcw tB (AtC.cell BK40.out 2 _ (by decide) rfl)), (tcw tB (AtC.cell BK40.out 3 _ (by decide) rfl)), (tcw tB (AtC.cell BK40.out 4 _ (by decide) rfl)), (tcw tB (AtC.cell BK40.out 5 _ (by decide) rfl)), (tcw tB hw388_0), (tcw tB hw389_0), (tcw tB hw390_0), (tcw tB hw392_0)⟩ (fun hHeld => ?_); refine with_tabW spec_l07Ok.tab11 spec_l07Ok.bits11 (fun HT_ HW_ => ?_)
     generalize wr.drew = w57 at HB HR388_0 HR389_0 HR392_0 hx388_0 hx389_0 hx390_0 hx392_0 hHeld ⊢
     refine tP0 0 117 (bm 35 1) ?_
     refine tP0 1 118 (bm 35 3) ?_
     refine tP0 2 119 (bm 35 7) ?_
     refine tP0 4 121 (bm 35 23) ?_
     refine tP0 8 125 (bm 35 279) ?_
     refine tP0 9 126 (bm 35 791) ?_
     refine tP0 10 127 (bm 35 1815) ?_
     refine tP0 11 128 (bm 35 3863) ?_
     refine tP0 13 130 (bm 35 12055) ?_
     refine tT10 3 120 (bm 35 12063) ?_
     refine tP0 5 122 (bm 35 12095) ?_
     refine tT10 6 123 (bm 35 12159) ?_
     refine tP0 7 124 (bm 35 12287) ?_
     refine tT10 12 129 (bm 35 16383) ?_
     refine tP0 14 131 (bm 35 32767) ?_
     refine tT10 15 132 (bm 35 65535) ?_
     refine tP0 16 133 (bm 35 131071) ?_
     refine tT10 17 134 (bm 35 262143) ?_
     refine one_ (i := 18) (N := some 135) (bm 35 524287) rfl rfl (one_of HT_.out (by kernel_rfl)) (by decide) (fun K hK => ?_)
     refine goes_ Try.func108 (by kernel_rfl) rfl #[.pointer (some g0_0), .int .i64 (rd (rd_L1 l0_4 x4_3) 0)] (by rfl) rfl rfl tL ?_
     with_reducible refine (spec_l07Has.calls k3 (g0_0 : Addr) a0_0 a0_1 a0_2 a0_3 (some ad389) c0_4 l0_4 (some ad388) c0_5 l0_5 (rd (rd_L1 l0_4 x4_3) 0) t391 _ ?s1 ?s2 ?s3 ?s4 ?s5 A48.out).mono ?_
     (case s1 => exact tC ((Kd.C_below HR0_4.out HB.out)))
     (case s2 => exact HC0_4.out)
     (case s3 => exact tC ((Kd.C_below HR0_5.out HB.out)))
     (case s4 => exact HC0_5.out)
     (case s5 => repeat (first | exact (AtC.below BK40.out HB.out) | (with_reducible refine AtC.alloc ?_ _) | (with_reducible refine AtC.drewN ?_ _) | (with_reducible refine AtC.drew ?_)))
     rintro e w58 ⟨rfl, hb⟩
     refine ⟨_, rfl, ?_⟩
     have n0_ := Aq.mk (bQT tB hb)
     clear HB
     have HB := n0_
     clear n0_
     (try clear hb)
     (try clear hb2)
     (try clear hk)
     (try clear hi)
     refine hK.out _ _ ⟨(tcw tB (AtC.cell0 BK40.out _ rfl)), (tcw tB (AtC.cell BK40.out 1 _ (by decide) rfl)), (tcw tB (AtC.cell BK40.out 2 _ (by decide) rfl)), (tcw tB (AtC.cell BK40.out 3 _ (by decide) rfl)), (tcw tB (AtC.cell BK40.out 4 _ (by decide) rfl)), (tcw tB (AtC.cell BK40.out 5 _ (by decide) rfl)), (tcw tB hw388_0), (tcw tB hw389_0), (tcw tB hw390_0), (tcw tB hw392_0)⟩ (fun hHeld => ?_)
     clear hK K
     refine tN 135 ?_
     refine tP0 19 136 (bm 35 1048575) ?_
     refine tP0 20 137 (bm 35 2097151) ?_
     refine tP0 21 138 (bm 35 4194303) ?_
     refine tP0 22 139 (bm 35 8388607) ?_
     refine tP0 23 140 (bm 35 16777215) ?_
     refine tP0 25 142 (bm 35 50331647) ?_
     refine tP0 26 143 (bm 35 117440511) ?_
     refine tP0 27 144 (bm 35 251658239) ?_
     refine tP0 29 146 (bm 35 788529151) ?_
     refine tT10 24 141 (bm 35 805306367) ?_
     refine tT10 28 145 (bm 35 1073741823) ?_
     refine tP0 30 147 (bm 35 2147483647) ?_
     refine tT10 31 148 (bm 35 4294967295) ?_
     refine one_ (i := 32) (N := some 149) (bm 35 8589934591) rfl rfl (one_of HT_.out (by kernel_rfl)) (by decide) (fun K hK => ?_)
     refine goes_ Try.func63 (by kernel_rfl) rfl #[.agg #[.int .i64 a0_0, .int .i64 a0_1], .slice A388_0 (rd_L1 l0_5 x4_3).length c388_0] (by rfl) rfl rfl tL ?_
     with_reducible refine (spec_l04Elements.calls k3 a0_0 a0_1 _ _ (rd_L1 l0_5 x4_3) false _ ?s1 ?s2 A50.out).mono ?_
     (case s1 => exact tC ((Kd.C_below HR392_0.out HB.out)))
     (case s2 => exact HC392_0.out)
     rintro e w59 ⟨rfl, hb⟩
     refine ⟨_, rfl, ?_⟩
     have n0_ := Aq.mk (bQT tB hb)
     clear HB
     have HB := n0_
     clear n0_
     (try clear hb)
     (try clear hb2)
     (try clear hk)
     (try clear hi)
     refine hK.out _ _ ⟨(tcw tB (AtC.cell0 BK40.out _ rfl)), (tcw tB (AtC.cell BK40.out 1 _ (by decide) rfl)), (tcw tB (AtC.cell BK40.out 2 _ (by decide) rfl)), (tcw tB (AtC.cell BK40.out 3 _ (by decide) rfl)), (tcw tB (AtC.cell BK40.out 4 _ (by decide) rfl)), (tcw tB (AtC.cell BK40.out 5 _ (by decide) rfl)), (tcw tB hw388_0), (tcw tB hw389_0), (tcw tB hw390_0), (tcw tB hw392_0)⟩ (fun hHeld => ?_)
     clear hK K
     refine tN 149 ?_
     refine tP0 33 150 (bm 35 17179869183) ?_
     refine tP0 34 151 (bm 35 34359738367) ?_
     refine done_ (done_of HT_.out (by kernel_rfl)) ?_
     try go_wp2
     go_ret
     exact ⟨tE, tB⟩
   rw [if_pos c21] at H
   have c21b0 := decide_eq_true c21
   clear c21
   by_cases c22 : 0 ≤ x3_2
   rotate_left
   ·rw [if_neg c22] at H
    exact absurd H (by simp)
   rw [if_pos c22] at H
   have c22b0 := decide_eq_true c22
   clear c22
   by_cases c23 : ((rd_L1 l0_4 x3_2).length : Int) = 2
   rotate_left
   ·rw [if_neg c23] at H
    have c23b0 := beq_eq_false_iff_ne.mpr c23
    have c23b1 := bne_iff_ne.mpr c23
    obtain rfl := Option.some.inj H
    have hcz41_0 : wr.cell? g0_0 = some (.int .i64 a0_0) := AtC.cell0 (AtC.below BK40.out HB.out) _ rfl
    have hcz41_1 : wr.cell? ⟨g0_0.block, g0_0.off + 1, none⟩ = some (.int .i64 a0_1) := AtC.cell (AtC.below BK40.out HB.out) 1 _ (by decide) rfl
    have hcz41_2 : wr.cell? ⟨g0_0.block, g0_0.off + 2, none⟩ = some (.int .i64 a0_2) := AtC.cell (AtC.below BK40.out HB.out) 2 _ (by decide) rfl
    have hcz41_3 : wr.cell? ⟨g0_0.block, g0_0.off + 3, none⟩ = some (.int .i64 a0_3) := AtC.cell (AtC.below BK40.out HB.out) 3 _ (by decide) rfl
    have hcz41_4 : wr.cell? ⟨g0_0.block, g0_0.off + 4, none⟩ = some (.slice A0_4 l0_4.length c0_4) := AtC.cell (AtC.below BK40.out HB.out) 4 _ (by decide) rfl
    have hcz41_5 : wr.cell? ⟨g0_0.block, g0_0.off + 5, none⟩ = some (.slice A0_5 l0_5.length c0_5) := AtC.cell (AtC.below BK40.out HB.out) 5 _ (by decide) rfl
    try go_wp2
    have n0_ := Aq.mk (bQ1 HB.out)
    clear HB
    have HB := n0_
    clear n0_
    have p381 : 0 ≤ (x3_2 : Int) := of_decide_eq_true tA
    have q381 : x3_2 < (l0_4.length : Int) := of_decide_eq_true tA
    obtain ⟨ad381, A381_0, c381_0, e381, hx381_0, hl381_0, hi381_0⟩ := at_L1 HR0_4.out x3_2 p381 q381
    have hw381_0 := hx381_0
    cases e381
    replace hx381_0 := (HB.out.cell (World.block_lt_of_cell? w _ hx381_0)).trans hx381_0
    have HR381_0 := Aq.mk hi381_0
    have HC381_0 := Aq.mk hl381_0
    clear hi381_0 hl381_0
    replace p381 := eq_true p381
    replace q381 := eq_true q381
    refine start_ (n := 51) (S := fun w' => w'.cell? g0_0 = some (.int .i64 a0_0) ∧ w'.cell? ⟨g0_0.block, g0_0.off + 1, none⟩ = some (.int .i64 a0_1) ∧ w'.cell? ⟨g0_0.block, g0_0.off + 2, none⟩ = some (.int .i64 a0_2) ∧ w'.cell? ⟨g0_0.block, g0_0.off + 3, none⟩ = some (.int .i64 a0_3) ∧ w'.cell? ⟨g0_0.block, g0_0.off + 4, none⟩ = some (.slice (some ad381) l0_4.length c0_4) ∧ w'.cell? ⟨g0_0.block, g0_0.off + 5, none⟩ = some (.slice A0_5 l0_5.length c0_5) ∧ w'.cell? (ad381.add (x3_2).toNat) = some (.slice A381_0 (rd_L1 l0_4 x3_2).length c381_0)) (ds := []) #[false, false, false, false, false, false, false, false, false, false, false, false, false, false, false, false, false, false, false, false, false, false, false, false, false, false, false, false, false, false, false, false, false, false, false, false, false, false, false, false, false, false, false, false, false, false, false, false, false, false, false] (by kernel_rfl) rfl rfl ⟨(tcw tB (AtC.cell0 BK40.out _ rfl)), (tcw tB (AtC.cell BK40.out 1 _ (by decide) rfl)), (tcw tB (AtC.cell BK40.out 2 _ (by decide) rfl)), (tcw tB (AtC.cell BK40.out 3 _ (by decide) rfl)), (tcw tB (AtC.cell BK40.out 4 _ (by decide) rfl)), (tcw tB (AtC.cell BK40.out 5 _ (by decide) rfl)), (tcw tB hw381_0)⟩ (fun hHeld => ?_); refine with_tabW spec_l07Ok.tab6 spec_l07Ok.bits6 (fun HT_ HW_ => ?_)
    generalize wr.drew = w42 at HB HR381_0 hx381_0 hHeld ⊢
    refine tP0 0 57 (bm 51 1) ?_
    refine tP0 1 58 (bm 51 3) ?_
    refine tP0 2 59 (bm 51 7) ?_
    refine tP0 4 61 (bm 51 23) ?_
    refine tT7 3 60 (bm 51 31) ?_
    refine tP0 5 62 (bm 51 63) ?_
    refine tT7 6 63 (bm 51 127) ?_
    refine tP0 7 64 (bm 51 255) ?_
    refine tP0 8 65 (bm 51 511) ?_
    refine tP0 9 66 (bm 51 1023) ?_
    refine pure_ (i := 10) (N := some 67) (v := undef) (a' := ?_) #[true, true, true, true, true, true, true, true, true, true, true, false, false, false, false, false, false, false, false, false, false, false, false, false, false, false, false, false, false, false, false, false, false, false, false, false, false, false, false, false, false, false, false, false, false, false, false, false, false, false, false] rfl rfl (any_of HT_.out (by kernel_rfl)) (fun _ _ _ h => h) (Or.inr ⟨by rfl, rfl⟩) ?_ ?_
    rotate_left
    ·simp only [Act.put, qSa, qSb, qSc, i64_w, i32_w]
     rfl
    refine pure_ (i := 11) (N := some 68) (v := undef) (a' := ?_) #[true, true, true, true, true, true, true, true, true, true, true, true, false, false, false, false, false, false, false, false, false, false, false, false, false, false, false, false, false, false, false, false, false, false, false, false, false, false, false, false, false, false, false, false, false, false, false, false, false, false, false] rfl rfl (any_of HT_.out (by kernel_rfl)) (fun _ _ _ h => h) (Or.inr ⟨by rfl, rfl⟩) ?_ ?_
    rotate_left
    ·simp only [Act.put, qSa, qSb, qSc, i64_w, i32_w]
     rfl
    refine pure_ (i := 12) (N := some 69) (v := undef) (a' := ?_) #[true, true, true, true, true, true, true, true, true, true, true, true, true, false, false, false, false, false, false, false, false, false, false, false, false, false, false, false, false, false, false, false, false, false, false, false, false, false, false, false, false, false, false, false, false, false, false, false, false, false, false] rfl rfl (any_of HT_.out (by kernel_rfl)) (fun _ _ _ h => h) (Or.inr ⟨by rfl, rfl⟩) ?_ ?_
    rotate_left
    ·simp only [Act.put, qSa, qSb, qSc, i64_w, i32_w]
     rfl
    refine pure_ (i := 13) (N := some 70) (v := undef) (a' := ?_) #[true, true, true, true, true, true, true, true, true, true, true, true, true, true, false, false, false, false, false, false, false, false, false, false, false, false, false, false, false, false, false, false, false, false, false, false, false, false, false, false, false, false, false, false, false, false, false, false, false, false, false] rfl rfl (any_of HT_.out (by kernel_rfl)) (fun _ _ _ h => h) (Or.inr ⟨by rfl, rfl⟩) ?_ ?_
    rotate_left
    ·simp only [Act.put, qSa, qSb, qSc, i64_w, i32_w]
     rfl
    refine pure_ (i := 14) (N := some 71) (v := undef) (a' := ?_) #[true, true, true, true, true, true, true, true, true, true, true, true, true, true, true, false, false, false, false, false, false, false, false, false, false, false, false, false, false, false, false, false, false, false, false, false, false, false, false, false, false, false, false, false, false, false, false, false, false, false, false] rfl rfl (any_of HT_.out (by kernel_rfl)) (fun _ _ _ h => h) (Or.inr ⟨by rfl, rfl⟩) ?_ ?_
    rotate_left
    ·simp only [Act.put, qSa, qSb, qSc, i64_w, i32_w]
     rfl
    refine pure_ (i := 15) (N := some 72) (v := undef) (a' := ?_) #[true, true, true, true, true, true, true, true, true, true, true, true, true, true, true, true, false, false, false, false, false, false, false, false, false, false, false, false, false, false, false, false, false, false, false, false, false, false, false, false, false, false, false, false, false, false, false, false, false, false, false] rfl rfl (any_of HT_.out (by kernel_rfl)) (fun _ _ _ h => h) (Or.inr ⟨by rfl, rfl⟩) ?_ ?_
    rotate_left
    ·simp only [Act.put, qSa, qSb, qSc, i64_w, i32_w]
     rfl
    refine pure_ (i := 16) (N := some 73) (v := undef) (a' := ?_) #[true, true, true, true, true, true, true, true, true, true, true, true, true, true, true, true, true, false, false, false, false, false, false, false, false, false, false, false, false, false, false, false, false, false, false, false, false, false, false, false, false, false, false, false, false, false, false, false, false, false, false] rfl rfl (any_of HT_.out (by kernel_rfl)) (fun _ _ _ h => h) (Or.inr ⟨by rfl, rfl⟩) ?_ ?_
    rotate_left
    ·simp only [Act.put, qSa, qSb, qSc, i64_w, i32_w]
     rfl
    refine pure_ (i := 17) (N := some 74) (v := undef) (a' := ?_) #[true, true, true, true, true, true, true, true, true, true, true, true, true, true, true, true, true, true, false, false, false, false, false, false, false, false, false, false, false, false, false, false, false, false, false, false, false, false, false, false, false, false, false, false, false, false, false, false, false, false, false] rfl rfl (any_of HT_.out (by kernel_rfl)) (fun _ _ _ h => h) (Or.inr ⟨by rfl, rfl⟩) ?_ ?_
    rotate_left
    ·simp only [Act.put, qSa, qSb, qSc, i64_w, i32_w]
     rfl
    refine pure_ (i := 18) (N := some 75) (v := undef) (a' := ?_) #[true, true, true, true, true, true, true, true, true, true, true, true, true, true, true, true, true, true, true, false, false, false, false, false, false, false, false, false, false, false, false, false, false, false, false, false, false, false, false, false, false, false, false, false, false, false, false, false, false, false, false] rfl rfl (any_of HT_.out (by kernel_rfl)) (fun _ _ _ h => h) (Or.inr ⟨by rfl, rfl⟩) ?_ ?_
    rotate_left
    ·simp only [Act.put, qSa, qSb, qSc, i64_w, i32_w]
     rfl
    refine pure_ (i := 19) (N := some 76) (v := undef) (a' := ?_) #[true, true, true, true, true, true, true, true, true, true, true, true, true, true, true, true, true, true, true, true, false, false, false, false, false, false, false, false, false, false, false, false, false, false, false, false, false, false, false, false, false, false, false, false, false, false, false, false, false, false, false] rfl rfl (any_of HT_.out (by kernel_rfl)) (fun _ _ _ h => h) (Or.inr ⟨by rfl, rfl⟩) ?_ ?_
    rotate_left
    ·simp only [Act.put, qSa, qSb, qSc, i64_w, i32_w]
     rfl
    refine pure_ (i := 20) (N := some 77) (v := undef) (a' := ?_) #[true, true, true, true, true, true, true, true, true, true, true, true, true, true, true, true, true, true, true, true, true, false, false, false, false, false, false, false, false, false, false, false, false, false, false, false, false, false, false, false, false, false, false, false, false, false, false, false, false, false, false] rfl rfl (any_of HT_.out (by kernel_rfl)) (fun _ _ _ h => h) (Or.inr ⟨by rfl, rfl⟩) ?_ ?_
    rotate_left
    ·simp only [Act.put, qSa, qSb, qSc, i64_w, i32_w]
     rfl
    refine pure_ (i := 21) (N := some 78) (v := undef) (a' := ?_) #[true, true, true, true, true, true, true, true, true, true, true, true, true, true, true, true, true, true, true, true, true, true, false, false, false, false, false, false, false, false, false, false, false, false, false, false, false, false, false, false, false, false, false, false, false, false, false, false, false, false, false] rfl rfl (any_of HT_.out (by kernel_rfl)) (fun _ _ _ h => h) (Or.inr ⟨by rfl, rfl⟩) ?_ ?_
    rotate_left
    ·simp only [Act.put, qSa, qSb, qSc, i64_w, i32_w]
     rfl
    refine pure_ (i := 22) (N := some 79) (v := undef) (a' := ?_) #[true, true, true, true, true, true, true, true, true, true, true, true, true, true, true, true, true, true, true, true, true, true, true, false, false, false, false, false, false, false, false, false, false, false, false, false, false, false, false, false, false, false, false, false, false, false, false, false, false, false, false] rfl rfl (any_of HT_.out (by kernel_rfl)) (fun _ _ _ h => h) (Or.inr ⟨by rfl, rfl⟩) ?_ ?_
    rotate_left
    ·simp only [Act.put, qSa, qSb, qSc, i64_w, i32_w]
     rfl
    refine pure_ (i := 23) (N := some 80) (v := undef) (a' := ?_) #[true, true, true, true, true, true, true, true, true, true, true, true, true, true, true, true, true, true, true, true, true, true, true, true, false, false, false, false, false, false, false, false, false, false, false, false, false, false, false, false, false, false, false, false, false, false, false, false, false, false, false] rfl rfl (any_of HT_.out (by kernel_rfl)) (fun _ _ _ h => h) (Or.inr ⟨by rfl, rfl⟩) ?_ ?_
    rotate_left
    ·simp only [Act.put, qSa, qSb, qSc, i64_w, i32_w]
     rfl
    refine tP0 24 81 (bm 51 33554431) ?_
    refine tP0 25 82 (bm 51 67108863) ?_
    refine pure_ (i := 26) (N := some 83) (v := undef) (a' := ?_) #[true, true, true, true, true, true, true, true, true, true, true, true, true, true, true, true, true, true, true, true, true, true, true, true, true, true, true, false, false, false, false, false, false, false, false, false, false, false, false, false, false, false, false, false, false, false, false, false, false, false, false] rfl rfl (any_of HT_.out (by kernel_rfl)) (fun _ _ _ h => h) (Or.inr ⟨by rfl, rfl⟩) ?_ ?_
    rotate_left
    ·simp only [Act.put, qSa, qSb, qSc, i64_w, i32_w]
     rfl
    refine pure_ (i := 27) (N := some 84) (v := undef) (a' := ?_) #[true, true, true, true, true, true, true, true, true, true, true, true, true, true, true, true, true, true, true, true, true, true, true, true, true, true, true, true, false, false, false, false, false, false, false, false, false, false, false, false, false, false, false, false, false, false, false, false, false, false, false] rfl rfl (any_of HT_.out (by kernel_rfl)) (fun _ _ _ h => h) (Or.inr ⟨by rfl, rfl⟩) ?_ ?_
    rotate_left
    ·simp only [Act.put, qSa, qSb, qSc, i64_w, i32_w]
     rfl
    refine pure_ (i := 28) (N := some 85) (v := undef) (a' := ?_) #[true, true, true, true, true, true, true, true, true, true, true, true, true, true, true, true, true, true, true, true, true, true, true, true, true, true, true, true, true, false, false, false, false, false, false, false, false, false, false, false, false, false, false, false, false, false, false, false, false, false, false] rfl rfl (any_of HT_.out (by kernel_rfl)) (fun _ _ _ h => h) (Or.inr ⟨by rfl, rfl⟩) ?_ ?_
    rotate_left
    ·simp only [Act.put, qSa, qSb, qSc, i64_w, i32_w]
     rfl
    refine pure_ (i := 29) (N := some 86) (v := undef) (a' := ?_) #[true, true, true, true, true, true, true, true, true, true, true, true, true, true, true, true, true, true, true, true, true, true, true, true, true, true, true, true, true, true, false, false, false, false, false, false, false, false, false, false, false, false, false, false, false, false, false, false, false, false, false] rfl rfl (any_of HT_.out (by kernel_rfl)) (fun _ _ _ h => h) (Or.inr ⟨by rfl, rfl⟩) ?_ ?_
    rotate_left
    ·simp only [Act.put, qSa, qSb, qSc, i64_w, i32_w]
     rfl
    refine pure_ (i := 30) (N := some 87) (v := undef) (a' := ?_) #[true, true, true, true, true, true, true, true, true, true, true, true, true, true, true, true, true, true, true, true, true, true, true, true, true, true, true, true, true, true, true, false, false, false, false, false, false, false, false, false, false, false, false, false, false, false, false, false, false, false, false] rfl rfl (any_of HT_.out (by kernel_rfl)) (fun _ _ _ h => h) (Or.inr ⟨by rfl, rfl⟩) ?_ ?_
    rotate_left
    ·simp only [Act.put, qSa, qSb, qSc, i64_w, i32_w]
     rfl
    refine pure_ (i := 31) (N := some 88) (v := undef) (a' := ?_) #[true, true, true, true, true, true, true, true, true, true, true, true, true, true, true, true, true, true, true, true, true, true, true, true, true, true, true, true, true, true, true, true, false, false, false, false, false, false, false, false, false, false, false, false, false, false, false, false, false, false, false] rfl rfl (any_of HT_.out (by kernel_rfl)) (fun _ _ _ h => h) (Or.inr ⟨by rfl, rfl⟩) ?_ ?_
    rotate_left
    ·simp only [Act.put, qSa, qSb, qSc, i64_w, i32_w]
     rfl
    refine pure_ (i := 32) (N := some 89) (v := undef) (a' := ?_) #[true, true, true, true, true, true, true, true, true, true, true, true, true, true, true, true, true, true, true, true, true, true, true, true, true, true, true, true, true, true, true, true, true, false, false, false, false, false, false, false, false, false, false, false, false, false, false, false, false, false, false] rfl rfl (any_of HT_.out (by kernel_rfl)) (fun _ _ _ h => h) (Or.inr ⟨by rfl, rfl⟩) ?_ ?_
    rotate_left
    ·simp only [Act.put, qSa, qSb, qSc, i64_w, i32_w]
     rfl
    refine pure_ (i := 33) (N := some 90) (v := undef) (a' := ?_) #[true, true, true, true, true, true, true, true, true, true, true, true, true, true, true, true, true, true, true, true, true, true, true, true, true, true, true, true, true, true, true, true, true, true, false, false, false, false, false, false, false, false, false, false, false, false, false, false, false, false, false] rfl rfl (any_of HT_.out (by kernel_rfl)) (fun _ _ _ h => h) (Or.inr ⟨by rfl, rfl⟩) ?_ ?_
    rotate_left
    ·simp only [Act.put, qSa, qSb, qSc, i64_w, i32_w]
     rfl
    refine pure_ (i := 34) (N := some 91) (v := undef) (a' := ?_) #[true, true, true, true, true, true, true, true, true, true, true, true, true, true, true, true, true, true, true, true, true, true, true, true, true, true, true, true, true, true, true, true, true, true, true, false, false, false, false, false, false, false, false, false, false, false, false, false, false, false, false] rfl rfl (any_of HT_.out (by kernel_rfl)) (fun _ _ _ h => h) (Or.inr ⟨by rfl, rfl⟩) ?_ ?_
    rotate_left
    ·simp only [Act.put, qSa, qSb, qSc, i64_w, i32_w]
     rfl
    refine pure_ (i := 35) (N := some 92) (v := undef) (a' := ?_) #[true, true, true, true, true, true, true, true, true, true, true, true, true, true, true, true, true, true, true, true, true, true, true, true, true, true, true, true, true, true, true, true, true, true, true, true, false, false, false, false, false, false, false, false, false, false, false, false, false, false, false] rfl rfl (any_of HT_.out (by kernel_rfl)) (fun _ _ _ h => h) (Or.inr ⟨by rfl, rfl⟩) ?_ ?_
    rotate_left
    ·simp only [Act.put, qSa, qSb, qSc, i64_w, i32_w]
     rfl
    refine pure_ (i := 36) (N := some 93) (v := undef) (a' := ?_) #[true, true, true, true, true, true, true, true, true, true, true, true, true, true, true, true, true, true, true, true, true, true, true, true, true, true, true, true, true, true, true, true, true, true, true, true, true, false, false, false, false, false, false, false, false, false, false, false, false, false, false] rfl rfl (any_of HT_.out (by kernel_rfl)) (fun _ _ _ h => h) (Or.inr ⟨by rfl, rfl⟩) ?_ ?_
    rotate_left
    ·simp only [Act.put, qSa, qSb, qSc, i64_w, i32_w]
     rfl
    refine pure_ (i := 37) (N := some 94) (v := undef) (a' := ?_) #[true, true, true, true, true, true, true, true, true, true, true, true, true, true, true, true, true, true, true, true, true, true, true, true, true, true, true, true, true, true, true, true, true, true, true, true, true, true, false, false, false, false, false, false, false, false, false, false, false, false, false] rfl rfl (any_of HT_.out (by kernel_rfl)) (fun _ _ _ h => h) (Or.inr ⟨by rfl, rfl⟩) ?_ ?_
    rotate_left
    ·simp only [Act.put, qSa, qSb, qSc, i64_w, i32_w]
     rfl
    refine pure_ (i := 38) (N := some 95) (v := undef) (a' := ?_) #[true, true, true, true, true, true, true, true, true, true, true, true, true, true, true, true, true, true, true, true, true, true, true, true, true, true, true, true, true, true, true, true, true, true, true, true, true, true, true, false, false, false, false, false, false, false, false, false, false, false, false] rfl rfl (any_of HT_.out (by kernel_rfl)) (fun _ _ _ h => h) (Or.inr ⟨by rfl, rfl⟩) ?_ ?_
    rotate_left
    ·simp only [Act.put, qSa, qSb, qSc, i64_w, i32_w]
     rfl
    refine pure_ (i := 39) (N := some 96) (v := undef) (a' := ?_) #[true, true, true, true, true, true, true, true, true, true, true, true, true, true, true, true, true, true, true, true, true, true, true, true, true, true, true, true, true, true, true, true, true, true, true, true, true, true, true, true, false, false, false, false, false, false, false, false, false, false, false] rfl rfl (any_of HT_.out (by kernel_rfl)) (fun _ _ _ h => h) (Or.inr ⟨by rfl, rfl⟩) ?_ ?_
    rotate_left
    ·simp only [Act.put, qSa, qSb, qSc, i64_w, i32_w]
     rfl
    refine pure_ (i := 40) (N := some 97) (v := undef) (a' := ?_) #[true, true, true, true, true, true, true, true, true, true, true, true, true, true, true, true, true, true, true, true, true, true, true, true, true, true, true, true, true, true, true, true, true, true, true, true, true, true, true, true, true, false, false, false, false, false, false, false, false, false, false] rfl rfl (any_of HT_.out (by kernel_rfl)) (fun _ _ _ h => h) (Or.inr ⟨by rfl, rfl⟩) ?_ ?_
    rotate_left
    ·simp only [Act.put, qSa, qSb, qSc, i64_w, i32_w]
     rfl
    refine pure_ (i := 41) (N := some 98) (v := undef) (a' := ?_) #[true, true, true, true, true, true, true, true, true, true, true, true, true, true, true, true, true, true, true, true, true, true, true, true, true, true, true, true, true, true, true, true, true, true, true, true, true, true, true, true, true, true, false, false, false, false, false, false, false, false, false] rfl rfl (any_of HT_.out (by kernel_rfl)) (fun _ _ _ h => h) (Or.inr ⟨by rfl, rfl⟩) ?_ ?_
    rotate_left
    ·simp only [Act.put, qSa, qSb, qSc, i64_w, i32_w]
     rfl
    refine pure_ (i := 42) (N := some 99) (v := undef) (a' := ?_) #[true, true, true, true, true, true, true, true, true, true, true, true, true, true, true, true, true, true, true, true, true, true, true, true, true, true, true, true, true, true, true, true, true, true, true, true, true, true, true, true, true, true, true, false, false, false, false, false, false, false, false] rfl rfl (any_of HT_.out (by kernel_rfl)) (fun _ _ _ h => h) (Or.inr ⟨by rfl, rfl⟩) ?_ ?_
    rotate_left
    ·simp only [Act.put, qSa, qSb, qSc, i64_w, i32_w]
     rfl
    refine pure_ (i := 43) (N := some 100) (v := undef) (a' := ?_) #[true, true, true, true, true, true, true, true, true, true, true, true, true, true, true, true, true, true, true, true, true, true, true, true, true, true, true, true, true, true, true, true, true, true, true, true, true, true, true, true, true, true, true, true, false, false, false, false, false, false, false] rfl rfl (any_of HT_.out (by kernel_rfl)) (fun _ _ _ h => h) (Or.inr ⟨by rfl, rfl⟩) ?_ ?_
    rotate_left
    ·simp only [Act.put, qSa, qSb, qSc, i64_w, i32_w]
     rfl
    refine pure_ (i := 44) (N := some 101) (v := undef) (a' := ?_) #[true, true, true, true, true, true, true, true, true, true, true, true, true, true, true, true, true, true, true, true, true, true, true, true, true, true, true, true, true, true, true, true, true, true, true, true, true, true, true, true, true, true, true, true, true, false, false, false, false, false, false] rfl rfl (any_of HT_.out (by kernel_rfl)) (fun _ _ _ h => h) (Or.inr ⟨by rfl, rfl⟩) ?_ ?_
    rotate_left
    ·simp only [Act.put, qSa, qSb, qSc, i64_w, i32_w]
     rfl
    refine pure_ (i := 45) (N := some 102) (v := undef) (a' := ?_) #[true, true, true, true, true, true, true, true, true, true, true, true, true, true, true, true, true, true, true, true, true, true, true, true, true, true, true, true, true, true, true, true, true, true, true, true, true, true, true, true, true, true, true, true, true, true, false, false, false, false, false] rfl rfl (any_of HT_.out (by kernel_rfl)) (fun _ _ _ h => h) (Or.inr ⟨by rfl, rfl⟩) ?_ ?_
    rotate_left
    ·simp only [Act.put, qSa, qSb, qSc, i64_w, i32_w]
     rfl
    refine pure_ (i := 46) (N := some 103) (v := undef) (a' := ?_) #[true, true, true, true, true, true, true, true, true, true, true, true, true, true, true, true, true, true, true, true, true, true, true, true, true, true, true, true, true, true, true, true, true, true, true, true, true, true, true, true, true, true, true, true, true, true, true, false, false, false, false] rfl rfl (any_of HT_.out (by kernel_rfl)) (fun _ _ _ h => h) (Or.inr ⟨by rfl, rfl⟩) ?_ ?_
    rotate_left
    ·simp only [Act.put, qSa, qSb, qSc, i64_w, i32_w]
     rfl
    refine pure_ (i := 47) (N := some 104) (v := undef) (a' := ?_) #[true, true, true, true, true, true, true, true, true, true, true, true, true, true, true, true, true, true, true, true, true, true, true, true, true, true, true, true, true, true, true, true, true, true, true, true, true, true, true, true, true, true, true, true, true, true, true, true, false, false, false] rfl rfl (any_of HT_.out (by kernel_rfl)) (fun _ _ _ h => h) (Or.inr ⟨by rfl, rfl⟩) ?_ ?_
    rotate_left
    ·simp only [Act.put, qSa, qSb, qSc, i64_w, i32_w]
     rfl
    refine pure_ (i := 48) (N := some 105) (v := undef) (a' := ?_) #[true, true, true, true, true, true, true, true, true, true, true, true, true, true, true, true, true, true, true, true, true, true, true, true, true, true, true, true, true, true, true, true, true, true, true, true, true, true, true, true, true, true, true, true, true, true, true, true, true, false, false] rfl rfl (any_of HT_.out (by kernel_rfl)) (fun _ _ _ h => h) (Or.inr ⟨by rfl, rfl⟩) ?_ ?_
    rotate_left
    ·simp only [Act.put, qSa, qSb, qSc, i64_w, i32_w]
     rfl
    refine pure_ (i := 49) (N := some 106) (v := undef) (a' := ?_) #[true, true, true, true, true, true, true, true, true, true, true, true, true, true, true, true, true, true, true, true, true, true, true, true, true, true, true, true, true, true, true, true, true, true, true, true, true, true, true, true, true, true, true, true, true, true, true, true, true, true, false] rfl rfl (any_of HT_.out (by kernel_rfl)) (fun _ _ _ h => h) (Or.inr ⟨by rfl, rfl⟩) ?_ ?_
    rotate_left
    ·simp only [Act.put, qSa, qSb, qSc, i64_w, i32_w]
     rfl
    refine tP0 50 107 (bm 51 2251799813685247) ?_
    refine done_ (done_of HT_.out (by kernel_rfl)) ?_
    try go_wp2
    go_ret
    exact ⟨tE, tB⟩
   rw [if_pos c23] at H
   have c23b0 := beq_iff_eq.mpr c23
   have c23b1 := bne_eq_false_iff_eq.mpr c23
   clear c23
   obtain ⟨t383, A24, H⟩ := qBd H
   by_cases c25 : t383 = true
   rotate_left
   ·replace c25 := Bool.eq_false_iff.mpr c25
    subst c25
    rw [if_neg (show ¬ (false = true) by decide)] at H
    obtain rfl := Option.some.inj H
    have hcz39_0 : wr.cell? g0_0 = some (.int .i64 a0_0) := AtC.cell0 (AtC.below BK40.out HB.out) _ rfl
    have hcz39_1 : wr.cell? ⟨g0_0.block, g0_0.off + 1, none⟩ = some (.int .i64 a0_1) := AtC.cell (AtC.below BK40.out HB.out) 1 _ (by decide) rfl
    have hcz39_2 : wr.cell? ⟨g0_0.block, g0_0.off + 2, none⟩ = some (.int .i64 a0_2) := AtC.cell (AtC.below BK40.out HB.out) 2 _ (by decide) rfl
    have hcz39_3 : wr.cell? ⟨g0_0.block, g0_0.off + 3, none⟩ = some (.int .i64 a0_3) := AtC.cell (AtC.below BK40.out HB.out) 3 _ (by decide) rfl
    have hcz39_4 : wr.cell? ⟨g0_0.block, g0_0.off + 4, none⟩ = some (.slice A0_4 l0_4.length c0_4) := AtC.cell (AtC.below BK40.out HB.out) 4 _ (by decide) rfl
    have hcz39_5 : wr.cell? ⟨g0_0.block, g0_0.off + 5, none⟩ = some (.slice A0_5 l0_5.length c0_5) := AtC.cell (AtC.below BK40.out HB.out) 5 _ (by decide) rfl
    try go_wp2
    have n0_ := Aq.mk (bQ1 HB.out)
    clear HB
    have HB := n0_
    clear n0_
    have p381 : 0 ≤ (x3_2 : Int) := of_decide_eq_true tA
    have q381 : x3_2 < (l0_4.length : Int) := of_decide_eq_true tA
    obtain ⟨ad381, A381_0, c381_0, e381, hx381_0, hl381_0, hi381_0⟩ := at_L1 HR0_4.out x3_2 p381 q381
    have hw381_0 := hx381_0
    cases e381
    replace hx381_0 := (HB.out.cell (World.block_lt_of_cell? w _ hx381_0)).trans hx381_0
    have HR381_0 := Aq.mk hi381_0
    have HC381_0 := Aq.mk hl381_0
    clear hi381_0 hl381_0
    replace p381 := eq_true p381
    replace q381 := eq_true q381
    have p382 : 0 ≤ (x3_2 : Int) := of_decide_eq_true tA
    have q382 : x3_2 < (l0_4.length : Int) := of_decide_eq_true tA
    obtain ⟨ad382, A382_0, c382_0, e382, hx382_0, hl382_0, hi382_0⟩ := at_L1 HR0_4.out x3_2 p382 q382
    have hw382_0 := hx382_0
    obtain rfl : ad381 = ad382 := (by injection e382)
    replace hx382_0 := (HB.out.cell (World.block_lt_of_cell? w _ hx382_0)).trans hx382_0
    have HR382_0 := Aq.mk hi382_0
    have HC382_0 := Aq.mk hl382_0
    clear hi382_0 hl382_0
    replace p382 := eq_true p382
    replace q382 := eq_true q382
    have ea_ := Option.some.inj (hx381_0.symm.trans hx382_0)
    injection ea_ with ea_ en_ ec_
    subst ea_
    subst ec_
    clear en_
    refine start_ (n := 51) (S := fun w' => w'.cell? g0_0 = some (.int .i64 a0_0) ∧ w'.cell? ⟨g0_0.block, g0_0.off + 1, none⟩ = some (.int .i64 a0_1) ∧ w'.cell? ⟨g0_0.block, g0_0.off + 2, none⟩ = some (.int .i64 a0_2) ∧ w'.cell? ⟨g0_0.block, g0_0.off + 3, none⟩ = some (.int .i64 a0_3) ∧ w'.cell? ⟨g0_0.block, g0_0.off + 4, none⟩ = some (.slice (some ad381) l0_4.length c0_4) ∧ w'.cell? ⟨g0_0.block, g0_0.off + 5, none⟩ = some (.slice A0_5 l0_5.length c0_5) ∧ w'.cell? (ad381.add (x3_2).toNat) = some (.slice A381_0 (rd_L1 l0_4 x3_2).length c381_0) ∧ w'.cell? (ad381.add (x3_2).toNat) = some (.slice A381_0 (rd_L1 l0_4 x3_2).length c381_0)) (ds := []) #[false, false, false, false, false, false, false, false, false, false, false, false, false, false, false, false, false, false, false, false, false, false, false, false, false, false, false, false, false, false, false, false, false, false, false, false, false, false, false, false, false, false, false, false, false, false, false, false, false, false, false] (by kernel_rfl) rfl rfl ⟨(tcw tB (AtC.cell0 BK40.out _ rfl)), (tcw tB (AtC.cell BK40.out 1 _ (by decide) rfl)), (tcw tB (AtC.cell BK40.out 2 _ (by decide) rfl)), (tcw tB (AtC.cell BK40.out 3 _ (by decide) rfl)), (tcw tB (AtC.cell BK40.out 4 _ (by decide) rfl)), (tcw tB (AtC.cell BK40.out 5 _ (by decide) rfl)), (tcw tB hw381_0), (tcw tB hw382_0)⟩ (fun hHeld => ?_); refine with_tabW spec_l07Ok.tab6 spec_l07Ok.bits6 (fun HT_ HW_ => ?_)
    generalize wr.drew = w40 at HB HR381_0 HR382_0 hx381_0 hx382_0 hHeld ⊢
    refine tP0 0 57 (bm 51 1) ?_
    refine tP0 1 58 (bm 51 3) ?_
    refine tP0 2 59 (bm 51 7) ?_
    refine tP0 4 61 (bm 51 23) ?_
    refine tT8 3 60 (bm 51 31) ?_
    refine tP0 5 62 (bm 51 63) ?_
    refine tT8 6 63 (bm 51 127) ?_
    refine tP0 7 64 (bm 51 255) ?_
    refine tP0 8 65 (bm 51 511) ?_
    refine tP0 9 66 (bm 51 1023) ?_
    refine tP0 10 67 (bm 51 2047) ?_
    refine tP0 11 68 (bm 51 4095) ?_
    refine tP0 12 69 (bm 51 8191) ?_
    refine tP0 14 71 (bm 51 24575) ?_
    refine tP0 17 74 (bm 51 155647) ?_
    refine tP0 18 75 (bm 51 417791) ?_
    refine tP0 19 76 (bm 51 942079) ?_
    refine tT8 13 70 (bm 51 950271) ?_
    refine tP0 15 72 (bm 51 983039) ?_
    refine tT8 16 73 (bm 51 1048575) ?_
    refine tT8 20 77 (bm 51 2097151) ?_
    refine tP0 21 78 (bm 51 4194303) ?_
    refine one_ (i := 22) (N := some 79) (bm 51 8388607) rfl rfl (one_of HT_.out (by kernel_rfl)) (by decide) (fun K hK => ?_)
    refine goes_ Try.func107 (by kernel_rfl) rfl #[.slice A381_0 (rd_L1 l0_4 x3_2).length c381_0, .int .i64 0, .int .i64 (wrap64 (a0_2 - 1))] (by rfl) rfl rfl tL ?_
    with_reducible refine (spec_l00Rises.calls k2 _ _ (rd_L1 l0_4 x3_2) 0 (wrap64 (a0_2 - 1)) false _ ?s1 ?s2 A24.out).mono ?_
    (case s1 => exact tC ((Kd.C_below HR382_0.out HB.out)))
    (case s2 => exact HC382_0.out)
    rintro e w' ⟨rfl, ⟨nd, rfl⟩⟩
    refine ⟨_, rfl, ?_⟩
    refine hK.out _ _ ⟨(tcw tB (AtC.cell0 BK40.out _ rfl)), (tcw tB (AtC.cell BK40.out 1 _ (by decide) rfl)), (tcw tB (AtC.cell BK40.out 2 _ (by decide) rfl)), (tcw tB (AtC.cell BK40.out 3 _ (by decide) rfl)), (tcw tB (AtC.cell BK40.out 4 _ (by decide) rfl)), (tcw tB (AtC.cell BK40.out 5 _ (by decide) rfl)), (tcw tB hw381_0), (tcw tB hw382_0)⟩ (fun hHeld => ?_)
    clear hK K
    refine tN 79 ?_
    refine tP0 23 80 (bm 51 16777215) ?_
    refine tP0 24 81 (bm 51 33554431) ?_
    refine tP0 25 82 (bm 51 67108863) ?_
    refine pure_ (i := 26) (N := some 83) (v := undef) (a' := ?_) #[true, true, true, true, true, true, true, true, true, true, true, true, true, true, true, true, true, true, true, true, true, true, true, true, true, true, true, false, false, false, false, false, false, false, false, false, false, false, false, false, false, false, false, false, false, false, false, false, false, false, false] rfl rfl (any_of HT_.out (by kernel_rfl)) (fun _ _ _ h => h) (Or.inr ⟨by rfl, rfl⟩) ?_ ?_
    rotate_left
    ·simp only [Act.put, qSa, qSb, qSc, i64_w, i32_w]
     rfl
    refine pure_ (i := 27) (N := some 84) (v := undef) (a' := ?_) #[true, true, true, true, true, true, true, true, true, true, true, true, true, true, true, true, true, true, true, true, true, true, true, true, true, true, true, true, false, false, false, false, false, false, false, false, false, false, false, false, false, false, false, false, false, false, false, false, false, false, false] rfl rfl (any_of HT_.out (by kernel_rfl)) (fun _ _ _ h => h) (Or.inr ⟨by rfl, rfl⟩) ?_ ?_
    rotate_left
    ·simp only [Act.put, qSa, qSb, qSc, i64_w, i32_w]
     rfl
    refine pure_ (i := 28) (N := some 85) (v := undef) (a' := ?_) #[true, true, true, true, true, true, true, true, true, true, true, true, true, true, true, true, true, true, true, true, true, true, true, true, true, true, true, true, true, false, false, false, false, false, false, false, false, false, false, false, false, false, false, false, false, false, false, false, false, false, false] rfl rfl (any_of HT_.out (by kernel_rfl)) (fun _ _ _ h => h) (Or.inr ⟨by rfl, rfl⟩) ?_ ?_
    rotate_left
    ·simp only [Act.put, qSa, qSb, qSc, i64_w, i32_w]
     rfl
    refine pure_ (i := 29) (N := some 86) (v := undef) (a' := ?_) #[true, true, true, true, true, true, true, true, true, true, true, true, true, true, true, true, true, true, true, true, true, true, true, true, true, true, true, true, true, true, false, false, false, false, false, false, false, false, false, false, false, false, false, false, false, false, false, false, false, false, false] rfl rfl (any_of HT_.out (by kernel_rfl)) (fun _ _ _ h => h) (Or.inr ⟨by rfl, rfl⟩) ?_ ?_
    rotate_left
    ·simp only [Act.put, qSa, qSb, qSc, i64_w, i32_w]
     rfl
    refine pure_ (i := 30) (N := some 87) (v := undef) (a' := ?_) #[true, true, true, true, true, true, true, true, true, true, true, true, true, true, true, true, true, true, true, true, true, true, true, true, true, true, true, true, true, true, true, false, false, false, false, false, false, false, false, false, false, false, false, false, false, false, false, false, false, false, false] rfl rfl (any_of HT_.out (by kernel_rfl)) (fun _ _ _ h => h) (Or.inr ⟨by rfl, rfl⟩) ?_ ?_
    rotate_left
    ·simp only [Act.put, qSa, qSb, qSc, i64_w, i32_w]
     rfl
    refine pure_ (i := 31) (N := some 88) (v := undef) (a' := ?_) #[true, true, true, true, true, true, true, true, true, true, true, true, true, true, true, true, true, true, true, true, true, true, true, true, true, true, true, true, true, true, true, true, false, false, false, false, false, false, false, false, false, false, false, false, false, false, false, false, false, false, false] rfl rfl (any_of HT_.out (by kernel_rfl)) (fun _ _ _ h => h) (Or.inr ⟨by rfl, rfl⟩) ?_ ?_
    rotate_left
    ·simp only [Act.put, qSa, qSb, qSc, i64_w, i32_w]
     rfl
    refine pure_ (i := 32) (N := some 89) (v := undef) (a' := ?_) #[true, true, true, true, true, true, true, true, true, true, true, true, true, true, true, true, true, true, true, true, true, true, true, true, true, true, true, true, true, true, true, true, true, false, false, false, false, false, false, false, false, false, false, false, false, false, false, false, false, false, false] rfl rfl (any_of HT_.out (by kernel_rfl)) (fun _ _ _ h => h) (Or.inr ⟨by rfl, rfl⟩) ?_ ?_
    rotate_left
    ·simp only [Act.put, qSa, qSb, qSc, i64_w, i32_w]
     rfl
    refine pure_ (i := 33) (N := some 90) (v := undef) (a' := ?_) #[true, true, true, true, true, true, true, true, true, true, true, true, true, true, true, true, true, true, true, true, true, true, true, true, true, true, true, true, true, true, true, true, true, true, false, false, false, false, false, false, false, false, false, false, false, false, false, false, false, false, false] rfl rfl (any_of HT_.out (by kernel_rfl)) (fun _ _ _ h => h) (Or.inr ⟨by rfl, rfl⟩) ?_ ?_
    rotate_left
    ·simp only [Act.put, qSa, qSb, qSc, i64_w, i32_w]
     rfl
    refine pure_ (i := 34) (N := some 91) (v := undef) (a' := ?_) #[true, true, true, true, true, true, true, true, true, true, true, true, true, true, true, true, true, true, true, true, true, true, true, true, true, true, true, true, true, true, true, true, true, true, true, false, false, false, false, false, false, false, false, false, false, false, false, false, false, false, false] rfl rfl (any_of HT_.out (by kernel_rfl)) (fun _ _ _ h => h) (Or.inr ⟨by rfl, rfl⟩) ?_ ?_
    rotate_left
    ·simp only [Act.put, qSa, qSb, qSc, i64_w, i32_w]
     rfl
    refine pure_ (i := 35) (N := some 92) (v := undef) (a' := ?_) #[true, true, true, true, true, true, true, true, true, true, true, true, true, true, true, true, true, true, true, true, true, true, true, true, true, true, true, true, true, true, true, true, true, true, true, true, false, false, false, false, false, false, false, false, false, false, false, false, false, false, false] rfl rfl (any_of HT_.out (by kernel_rfl)) (fun _ _ _ h => h) (Or.inr ⟨by rfl, rfl⟩) ?_ ?_
    rotate_left
    ·simp only [Act.put, qSa, qSb, qSc, i64_w, i32_w]
     rfl
    refine pure_ (i := 36) (N := some 93) (v := undef) (a' := ?_) #[true, true, true, true, true, true, true, true, true, true, true, true, true, true, true, true, true, true, true, true, true, true, true, true, true, true, true, true, true, true, true, true, true, true, true, true, true, false, false, false, false, false, false, false, false, false, false, false, false, false, false] rfl rfl (any_of HT_.out (by kernel_rfl)) (fun _ _ _ h => h) (Or.inr ⟨by rfl, rfl⟩) ?_ ?_
    rotate_left
    ·simp only [Act.put, qSa, qSb, qSc, i64_w, i32_w]
     rfl
    refine pure_ (i := 37) (N := some 94) (v := undef) (a' := ?_) #[true, true, true, true, true, true, true, true, true, true, true, true, true, true, true, true, true, true, true, true, true, true, true, true, true, true, true, true, true, true, true, true, true, true, true, true, true, true, false, false, false, false, false, false, false, false, false, false, false, false, false] rfl rfl (any_of HT_.out (by kernel_rfl)) (fun _ _ _ h => h) (Or.inr ⟨by rfl, rfl⟩) ?_ ?_
    rotate_left
    ·simp only [Act.put, qSa, qSb, qSc, i64_w, i32_w]
     rfl
    refine pure_ (i := 38) (N := some 95) (v := undef) (a' := ?_) #[true, true, true, true, true, true, true, true, true, true, true, true, true, true, true, true, true, true, true, true, true, true, true, true, true, true, true, true, true, true, true, true, true, true, true, true, true, true, true, false, false, false, false, false, false, false, false, false, false, false, false] rfl rfl (any_of HT_.out (by kernel_rfl)) (fun _ _ _ h => h) (Or.inr ⟨by rfl, rfl⟩) ?_ ?_
    rotate_left
    ·simp only [Act.put, qSa, qSb, qSc, i64_w, i32_w]
     rfl
    refine pure_ (i := 39) (N := some 96) (v := undef) (a' := ?_) #[true, true, true, true, true, true, true, true, true, true, true, true, true, true, true, true, true, true, true, true, true, true, true, true, true, true, true, true, true, true, true, true, true, true, true, true, true, true, true, true, false, false, false, false, false, false, false, false, false, false, false] rfl rfl (any_of HT_.out (by kernel_rfl)) (fun _ _ _ h => h) (Or.inr ⟨by rfl, rfl⟩) ?_ ?_
    rotate_left
    ·simp only [Act.put, qSa, qSb, qSc, i64_w, i32_w]
     rfl
    refine pure_ (i := 40) (N := some 97) (v := undef) (a' := ?_) #[true, true, true, true, true, true, true, true, true, true, true, true, true, true, true, true, true, true, true, true, true, true, true, true, true, true, true, true, true, true, true, true, true, true, true, true, true, true, true, true, true, false, false, false, false, false, false, false, false, false, false] rfl rfl (any_of HT_.out (by kernel_rfl)) (fun _ _ _ h => h) (Or.inr ⟨by rfl, rfl⟩) ?_ ?_
    rotate_left
    ·simp only [Act.put, qSa, qSb, qSc, i64_w, i32_w]
     rfl
    refine pure_ (i := 41) (N := some 98) (v := undef) (a' := ?_) #[true, true, true, true, true, true, true, true, true, true, true, true, true, true, true, true, true, true, true, true, true, true, true, true, true, true, true, true, true, true, true, true, true, true, true, true, true, true, true, true, true, true, false, false, false, false, false, false, false, false, false] rfl rfl (any_of HT_.out (by kernel_rfl)) (fun _ _ _ h => h) (Or.inr ⟨by rfl, rfl⟩) ?_ ?_
    rotate_left
    ·simp only [Act.put, qSa, qSb, qSc, i64_w, i32_w]
     rfl
    refine pure_ (i := 42) (N := some 99) (v := undef) (a' := ?_) #[true, true, true, true, true, true, true, true, true, true, true, true, true, true, true, true, true, true, true, true, true, true, true, true, true, true, true, true, true, true, true, true, true, true, true, true, true, true, true, true, true, true, true, false, false, false, false, false, false, false, false] rfl rfl (any_of HT_.out (by kernel_rfl)) (fun _ _ _ h => h) (Or.inr ⟨by rfl, rfl⟩) ?_ ?_
    rotate_left
    ·simp only [Act.put, qSa, qSb, qSc, i64_w, i32_w]
     rfl
    refine pure_ (i := 43) (N := some 100) (v := undef) (a' := ?_) #[true, true, true, true, true, true, true, true, true, true, true, true, true, true, true, true, true, true, true, true, true, true, true, true, true, true, true, true, true, true, true, true, true, true, true, true, true, true, true, true, true, true, true, true, false, false, false, false, false, false, false] rfl rfl (any_of HT_.out (by kernel_rfl)) (fun _ _ _ h => h) (Or.inr ⟨by rfl, rfl⟩) ?_ ?_
    rotate_left
    ·simp only [Act.put, qSa, qSb, qSc, i64_w, i32_w]
     rfl
    refine pure_ (i := 44) (N := some 101) (v := undef) (a' := ?_) #[true, true, true, true, true, true, true, true, true, true, true, true, true, true, true, true, true, true, true, true, true, true, true, true, true, true, true, true, true, true, true, true, true, true, true, true, true, true, true, true, true, true, true, true, true, false, false, false, false, false, false] rfl rfl (any_of HT_.out (by kernel_rfl)) (fun _ _ _ h => h) (Or.inr ⟨by rfl, rfl⟩) ?_ ?_
    rotate_left
    ·simp only [Act.put, qSa, qSb, qSc, i64_w, i32_w]
     rfl
    refine pure_ (i := 45) (N := some 102) (v := undef) (a' := ?_) #[true, true, true, true, true, true, true, true, true, true, true, true, true, true, true, true, true, true, true, true, true, true, true, true, true, true, true, true, true, true, true, true, true, true, true, true, true, true, true, true, true, true, true, true, true, true, false, false, false, false, false] rfl rfl (any_of HT_.out (by kernel_rfl)) (fun _ _ _ h => h) (Or.inr ⟨by rfl, rfl⟩) ?_ ?_
    rotate_left
    ·simp only [Act.put, qSa, qSb, qSc, i64_w, i32_w]
     rfl
    refine pure_ (i := 46) (N := some 103) (v := undef) (a' := ?_) #[true, true, true, true, true, true, true, true, true, true, true, true, true, true, true, true, true, true, true, true, true, true, true, true, true, true, true, true, true, true, true, true, true, true, true, true, true, true, true, true, true, true, true, true, true, true, true, false, false, false, false] rfl rfl (any_of HT_.out (by kernel_rfl)) (fun _ _ _ h => h) (Or.inr ⟨by rfl, rfl⟩) ?_ ?_
    rotate_left
    ·simp only [Act.put, qSa, qSb, qSc, i64_w, i32_w]
     rfl
    refine pure_ (i := 47) (N := some 104) (v := undef) (a' := ?_) #[true, true, true, true, true, true, true, true, true, true, true, true, true, true, true, true, true, true, true, true, true, true, true, true, true, true, true, true, true, true, true, true, true, true, true, true, true, true, true, true, true, true, true, true, true, true, true, true, false, false, false] rfl rfl (any_of HT_.out (by kernel_rfl)) (fun _ _ _ h => h) (Or.inr ⟨by rfl, rfl⟩) ?_ ?_
    rotate_left
    ·simp only [Act.put, qSa, qSb, qSc, i64_w, i32_w]
     rfl
    refine pure_ (i := 48) (N := some 105) (v := undef) (a' := ?_) #[true, true, true, true, true, true, true, true, true, true, true, true, true, true, true, true, true, true, true, true, true, true, true, true, true, true, true, true, true, true, true, true, true, true, true, true, true, true, true, true, true, true, true, true, true, true, true, true, true, false, false] rfl rfl (any_of HT_.out (by kernel_rfl)) (fun _ _ _ h => h) (Or.inr ⟨by rfl, rfl⟩) ?_ ?_
    rotate_left
    ·simp only [Act.put, qSa, qSb, qSc, i64_w, i32_w]
     rfl
    refine pure_ (i := 49) (N := some 106) (v := undef) (a' := ?_) #[true, true, true, true, true, true, true, true, true, true, true, true, true, true, true, true, true, true, true, true, true, true, true, true, true, true, true, true, true, true, true, true, true, true, true, true, true, true, true, true, true, true, true, true, true, true, true, true, true, true, false] rfl rfl (any_of HT_.out (by kernel_rfl)) (fun _ _ _ h => h) (Or.inr ⟨by rfl, rfl⟩) ?_ ?_
    rotate_left
    ·simp only [Act.put, qSa, qSb, qSc, i64_w, i32_w]
     rfl
    refine tP0 50 107 (bm 51 2251799813685247) ?_
    refine done_ (done_of HT_.out (by kernel_rfl)) ?_
    try go_wp2
    go_ret
    exact ⟨tE, tB⟩
   subst c25
   rw [if_pos rfl] at H
   by_cases c26 : x3_2 > 0
   rotate_left
   ·rw [if_neg c26] at H
    have c26b0 := decide_eq_false c26
    clear c26
    replace H' := Aq.mk H
    clear H
    have hcz37_0 : wr.cell? g0_0 = some (.int .i64 a0_0) := AtC.cell0 (AtC.below BK40.out HB.out) _ rfl
    have hcz37_1 : wr.cell? ⟨g0_0.block, g0_0.off + 1, none⟩ = some (.int .i64 a0_1) := AtC.cell (AtC.below BK40.out HB.out) 1 _ (by decide) rfl
    have hcz37_2 : wr.cell? ⟨g0_0.block, g0_0.off + 2, none⟩ = some (.int .i64 a0_2) := AtC.cell (AtC.below BK40.out HB.out) 2 _ (by decide) rfl
    have hcz37_3 : wr.cell? ⟨g0_0.block, g0_0.off + 3, none⟩ = some (.int .i64 a0_3) := AtC.cell (AtC.below BK40.out HB.out) 3 _ (by decide) rfl
    have hcz37_4 : wr.cell? ⟨g0_0.block, g0_0.off + 4, none⟩ = some (.slice A0_4 l0_4.length c0_4) := AtC.cell (AtC.below BK40.out HB.out) 4 _ (by decide) rfl
    have hcz37_5 : wr.cell? ⟨g0_0.block, g0_0.off + 5, none⟩ = some (.slice A0_5 l0_5.length c0_5) := AtC.cell (AtC.below BK40.out HB.out) 5 _ (by decide) rfl
    try go_wp2
    have n0_ := Aq.mk (bQ1 HB.out)
    clear HB
    have HB := n0_
    clear n0_
    have p381 : 0 ≤ (x3_2 : Int) := of_decide_eq_true tA
    have q381 : x3_2 < (l0_4.length : Int) := of_decide_eq_true tA
    obtain ⟨ad381, A381_0, c381_0, e381, hx381_0, hl381_0, hi381_0⟩ := at_L1 HR0_4.out x3_2 p381 q381
    have hw381_0 := hx381_0
    cases e381
    replace hx381_0 := (HB.out.cell (World.block_lt_of_cell? w _ hx381_0)).trans hx381_0
    have HR381_0 := Aq.mk hi381_0
    have HC381_0 := Aq.mk hl381_0
    clear hi381_0 hl381_0
    replace p381 := eq_true p381
    replace q381 := eq_true q381
    have p382 : 0 ≤ (x3_2 : Int) := of_decide_eq_true tA
    have q382 : x3_2 < (l0_4.length : Int) := of_decide_eq_true tA
    obtain ⟨ad382, A382_0, c382_0, e382, hx382_0, hl382_0, hi382_0⟩ := at_L1 HR0_4.out x3_2 p382 q382
    have hw382_0 := hx382_0
    obtain rfl : ad381 = ad382 := (by injection e382)
    replace hx382_0 := (HB.out.cell (World.block_lt_of_cell? w _ hx382_0)).trans hx382_0
    have HR382_0 := Aq.mk hi382_0
    have HC382_0 := Aq.mk hl382_0
    clear hi382_0 hl382_0
    replace p382 := eq_true p382
    replace q382 := eq_true q382
    have ea_ := Option.some.inj (hx381_0.symm.trans hx382_0)
    injection ea_ with ea_ en_ ec_
    subst ea_
    subst ec_
    clear en_
    refine start_ (n := 51) (S := fun w' => w'.cell? g0_0 = some (.int .i64 a0_0) ∧ w'.cell? ⟨g0_0.block, g0_0.off + 1, none⟩ = some (.int .i64 a0_1) ∧ w'.cell? ⟨g0_0.block, g0_0.off + 2, none⟩ = some (.int .i64 a0_2) ∧ w'.cell? ⟨g0_0.block, g0_0.off + 3, none⟩ = some (.int .i64 a0_3) ∧ w'.cell? ⟨g0_0.block, g0_0.off + 4, none⟩ = some (.slice (some ad381) l0_4.length c0_4) ∧ w'.cell? ⟨g0_0.block, g0_0.off + 5, none⟩ = some (.slice A0_5 l0_5.length c0_5) ∧ w'.cell? (ad381.add (x3_2).toNat) = some (.slice A381_0 (rd_L1 l0_4 x3_2).length c381_0) ∧ w'.cell? (ad381.add (x3_2).toNat) = some (.slice A381_0 (rd_L1 l0_4 x3_2).length c381_0)) (ds := []) #[false, false, false, false, false, false, false, false, false, false, false, false, false, false, false, false, false, false, false, false, false, false, false, false, false, false, false, false, false, false, false, false, false, false, false, false, false, false, false, false, false, false, false, false, false, false, false, false, false, false, false] (by kernel_rfl) rfl rfl ⟨(tcw tB (AtC.cell0 BK40.out _ rfl)), (tcw tB (AtC.cell BK40.out 1 _ (by decide) rfl)), (tcw tB (AtC.cell BK40.out 2 _ (by decide) rfl)), (tcw tB (AtC.cell BK40.out 3 _ (by decide) rfl)), (tcw tB (AtC.cell BK40.out 4 _ (by decide) rfl)), (tcw tB (AtC.cell BK40.out 5 _ (by decide) rfl)), (tcw tB hw381_0), (tcw tB hw382_0)⟩ (fun hHeld => ?_); refine with_tabW spec_l07Ok.tab6 spec_l07Ok.bits6 (fun HT_ HW_ => ?_)
    generalize wr.drew = w38 at HB HR381_0 HR382_0 hx381_0 hx382_0 hHeld ⊢
    refine tP0 0 57 (bm 51 1) ?_
    refine tP0 1 58 (bm 51 3) ?_
    refine tP0 2 59 (bm 51 7) ?_
    refine tP0 4 61 (bm 51 23) ?_
    refine tT8 3 60 (bm 51 31) ?_
    refine tP0 5 62 (bm 51 63) ?_
    refine tT8 6 63 (bm 51 127) ?_
    refine tP0 7 64 (bm 51 255) ?_
    refine tP0 8 65 (bm 51 511) ?_
    refine tP0 9 66 (bm 51 1023) ?_
    refine tP0 10 67 (bm 51 2047) ?_
    refine tP0 11 68 (bm 51 4095) ?_
    refine tP0 12 69 (bm 51 8191) ?_
    refine tP0 14 71 (bm 51 24575) ?_
    refine tP0 17 74 (bm 51 155647) ?_
    refine tP0 18 75 (bm 51 417791) ?_
    refine tP0 19 76 (bm 51 942079) ?_
    refine tT8 13 70 (bm 51 950271) ?_
    refine tP0 15 72 (bm 51 983039) ?_
    refine tT8 16 73 (bm 51 1048575) ?_
    refine tT8 20 77 (bm 51 2097151) ?_
    refine tP0 21 78 (bm 51 4194303) ?_
    refine one_ (i := 22) (N := some 79) (bm 51 8388607) rfl rfl (one_of HT_.out (by kernel_rfl)) (by decide) (fun K hK => ?_)
    refine goes_ Try.func107 (by kernel_rfl) rfl #[.slice A381_0 (rd_L1 l0_4 x3_2).length c381_0, .int .i64 0, .int .i64 (wrap64 (a0_2 - 1))] (by rfl) rfl rfl tL ?_
    with_reducible refine (spec_l00Rises.calls k2 _ _ (rd_L1 l0_4 x3_2) 0 (wrap64 (a0_2 - 1)) true _ ?s1 ?s2 A24.out).mono ?_
    (case s1 => exact tC ((Kd.C_below HR382_0.out HB.out)))
    (case s2 => exact HC382_0.out)
    rintro e w' ⟨rfl, ⟨nd, rfl⟩⟩
    refine ⟨_, rfl, ?_⟩
    refine hK.out _ _ ⟨(tcw tB (AtC.cell0 BK40.out _ rfl)), (tcw tB (AtC.cell BK40.out 1 _ (by decide) rfl)), (tcw tB (AtC.cell BK40.out 2 _ (by decide) rfl)), (tcw tB (AtC.cell BK40.out 3 _ (by decide) rfl)), (tcw tB (AtC.cell BK40.out 4 _ (by decide) rfl)), (tcw tB (AtC.cell BK40.out 5 _ (by decide) rfl)), (tcw tB hw381_0), (tcw tB hw382_0)⟩ (fun hHeld => ?_)
    clear hK K
    refine tN 79 ?_
    refine tP0 23 80 (bm 51 16777215) ?_
    refine tP0 24 81 (bm 51 33554431) ?_
    refine tP0 25 82 (bm 51 67108863) ?_
    refine tP0 26 83 (bm 51 134217727) ?_
    refine tP0 27 84 (bm 51 268435455) ?_
    refine tP0 28 85 (bm 51 536870911) ?_
    refine pure_ (i := 29) (N := some 86) (v := undef) (a' := ?_) #[true, true, true, true, true, true, true, true, true, true, true, true, true, true, true, true, true, true, true, true, true, true, true, true, true, true, true, true, true, true, false, false, false, false, false, false, false, false, false, false, false, false, false, false, false, false, false, false, false, false, false] rfl rfl (any_of HT_.out (by kernel_rfl)) (fun _ _ _ h => h) (Or.inr ⟨by rfl, rfl⟩) ?_ ?_
    rotate_left
    ·simp only [Act.put, qSa, qSb, qSc, i64_w, i32_w]
     rfl
    refine pure_ (i := 30) (N := some 87) (v := undef) (a' := ?_) #[true, true, true, true, true, true, true, true, true, true, true, true, true, true, true, true, true, true, true, true, true, true, true, true, true, true, true, true, true, true, true, false, false, false, false, false, false, false, false, false, false, false, false, false, false, false, false, false, false, false, false] rfl rfl (any_of HT_.out (by kernel_rfl)) (fun _ _ _ h => h) (Or.inr ⟨by rfl, rfl⟩) ?_ ?_
    rotate_left
    ·simp only [Act.put, qSa, qSb, qSc, i64_w, i32_w]
     rfl
    refine pure_ (i := 31) (N := some 88) (v := undef) (a' := ?_) #[true, true, true, true, true, true, true, true, true, true, true, true, true, true, true, true, true, true, true, true, true, true, true, true, true, true, true, true, true, true, true, true, false, false, false, false, false, false, false, false, false, false, false, false, false, false, false, false, false, false, false] rfl rfl (any_of HT_.out (by kernel_rfl)) (fun _ _ _ h => h) (Or.inr ⟨by rfl, rfl⟩) ?_ ?_
    rotate_left
    ·simp only [Act.put, qSa, qSb, qSc, i64_w, i32_w]
     rfl
    refine pure_ (i := 32) (N := some 89) (v := undef) (a' := ?_) #[true, true, true, true, true, true, true, true, true, true, true, true, true, true, true, true, true, true, true, true, true, true, true, true, true, true, true, true, true, true, true, true, true, false, false, false, false, false, false, false, false, false, false, false, false, false, false, false, false, false, false] rfl rfl (any_of HT_.out (by kernel_rfl)) (fun _ _ _ h => h) (Or.inr ⟨by rfl, rfl⟩) ?_ ?_
    rotate_left
    ·simp only [Act.put, qSa, qSb, qSc, i64_w, i32_w]
     rfl
    refine pure_ (i := 33) (N := some 90) (v := undef) (a' := ?_) #[true, true, true, true, true, true, true, true, true, true, true, true, true, true, true, true, true, true, true, true, true, true, true, true, true, true, true, true, true, true, true, true, true, true, false, false, false, false, false, false, false, false, false, false, false, false, false, false, false, false, false] rfl rfl (any_of HT_.out (by kernel_rfl)) (fun _ _ _ h => h) (Or.inr ⟨by rfl, rfl⟩) ?_ ?_
    rotate_left
    ·simp only [Act.put, qSa, qSb, qSc, i64_w, i32_w]
     rfl
    refine pure_ (i := 34) (N := some 91) (v := undef) (a' := ?_) #[true, true, true, true, true, true, true, true, true, true, true, true, true, true, true, true, true, true, true, true, true, true, true, true, true, true, true, true, true, true, true, true, true, true, true, false, false, false, false, false, false, false, false, false, false, false, false, false, false, false, false] rfl rfl (any_of HT_.out (by kernel_rfl)) (fun _ _ _ h => h) (Or.inr ⟨by rfl, rfl⟩) ?_ ?_
    rotate_left
    ·simp only [Act.put, qSa, qSb, qSc, i64_w, i32_w]
     rfl
    refine pure_ (i := 35) (N := some 92) (v := undef) (a' := ?_) #[true, true, true, true, true, true, true, true, true, true, true, true, true, true, true, true, true, true, true, true, true, true, true, true, true, true, true, true, true, true, true, true, true, true, true, true, false, false, false, false, false, false, false, false, false, false, false, false, false, false, false] rfl rfl (any_of HT_.out (by kernel_rfl)) (fun _ _ _ h => h) (Or.inr ⟨by rfl, rfl⟩) ?_ ?_
    rotate_left
    ·simp only [Act.put, qSa, qSb, qSc, i64_w, i32_w]
     rfl
    refine pure_ (i := 36) (N := some 93) (v := undef) (a' := ?_) #[true, true, true, true, true, true, true, true, true, true, true, true, true, true, true, true, true, true, true, true, true, true, true, true, true, true, true, true, true, true, true, true, true, true, true, true, true, false, false, false, false, false, false, false, false, false, false, false, false, false, false] rfl rfl (any_of HT_.out (by kernel_rfl)) (fun _ _ _ h => h) (Or.inr ⟨by rfl, rfl⟩) ?_ ?_
    rotate_left
    ·simp only [Act.put, qSa, qSb, qSc, i64_w, i32_w]
     rfl
    refine pure_ (i := 37) (N := some 94) (v := undef) (a' := ?_) #[true, true, true, true, true, true, true, true, true, true, true, true, true, true, true, true, true, true, true, true, true, true, true, true, true, true, true, true, true, true, true, true, true, true, true, true, true, true, false, false, false, false, false, false, false, false, false, false, false, false, false] rfl rfl (any_of HT_.out (by kernel_rfl)) (fun _ _ _ h => h) (Or.inr ⟨by rfl, rfl⟩) ?_ ?_
    rotate_left
    ·simp only [Act.put, qSa, qSb, qSc, i64_w, i32_w]
     rfl
    refine pure_ (i := 38) (N := some 95) (v := undef) (a' := ?_) #[true, true, true, true, true, true, true, true, true, true, true, true, true, true, true, true, true, true, true, true, true, true, true, true, true, true, true, true, true, true, true, true, true, true, true, true, true, true, true, false, false, false, false, false, false, false, false, false, false, false, false] rfl rfl (any_of HT_.out (by kernel_rfl)) (fun _ _ _ h => h) (Or.inr ⟨by rfl, rfl⟩) ?_ ?_
    rotate_left
    ·simp only [Act.put, qSa, qSb, qSc, i64_w, i32_w]
     rfl
    refine pure_ (i := 39) (N := some 96) (v := undef) (a' := ?_) #[true, true, true, true, true, true, true, true, true, true, true, true, true, true, true, true, true, true, true, true, true, true, true, true, true, true, true, true, true, true, true, true, true, true, true, true, true, true, true, true, false, false, false, false, false, false, false, false, false, false, false] rfl rfl (any_of HT_.out (by kernel_rfl)) (fun _ _ _ h => h) (Or.inr ⟨by rfl, rfl⟩) ?_ ?_
    rotate_left
    ·simp only [Act.put, qSa, qSb, qSc, i64_w, i32_w]
     rfl
    refine pure_ (i := 40) (N := some 97) (v := undef) (a' := ?_) #[true, true, true, true, true, true, true, true, true, true, true, true, true, true, true, true, true, true, true, true, true, true, true, true, true, true, true, true, true, true, true, true, true, true, true, true, true, true, true, true, true, false, false, false, false, false, false, false, false, false, false] rfl rfl (any_of HT_.out (by kernel_rfl)) (fun _ _ _ h => h) (Or.inr ⟨by rfl, rfl⟩) ?_ ?_
    rotate_left
    ·simp only [Act.put, qSa, qSb, qSc, i64_w, i32_w]
     rfl
    refine pure_ (i := 41) (N := some 98) (v := undef) (a' := ?_) #[true, true, true, true, true, true, true, true, true, true, true, true, true, true, true, true, true, true, true, true, true, true, true, true, true, true, true, true, true, true, true, true, true, true, true, true, true, true, true, true, true, true, false, false, false, false, false, false, false, false, false] rfl rfl (any_of HT_.out (by kernel_rfl)) (fun _ _ _ h => h) (Or.inr ⟨by rfl, rfl⟩) ?_ ?_
    rotate_left
    ·simp only [Act.put, qSa, qSb, qSc, i64_w, i32_w]
     rfl
    refine pure_ (i := 42) (N := some 99) (v := undef) (a' := ?_) #[true, true, true, true, true, true, true, true, true, true, true, true, true, true, true, true, true, true, true, true, true, true, true, true, true, true, true, true, true, true, true, true, true, true, true, true, true, true, true, true, true, true, true, false, false, false, false, false, false, false, false] rfl rfl (any_of HT_.out (by kernel_rfl)) (fun _ _ _ h => h) (Or.inr ⟨by rfl, rfl⟩) ?_ ?_
    rotate_left
    ·simp only [Act.put, qSa, qSb, qSc, i64_w, i32_w]
     rfl
    refine pure_ (i := 43) (N := some 100) (v := undef) (a' := ?_) #[true, true, true, true, true, true, true, true, true, true, true, true, true, true, true, true, true, true, true, true, true, true, true, true, true, true, true, true, true, true, true, true, true, true, true, true, true, true, true, true, true, true, true, true, false, false, false, false, false, false, false] rfl rfl (any_of HT_.out (by kernel_rfl)) (fun _ _ _ h => h) (Or.inr ⟨by rfl, rfl⟩) ?_ ?_
    rotate_left
    ·simp only [Act.put, qSa, qSb, qSc, i64_w, i32_w]
     rfl
    refine pure_ (i := 44) (N := some 101) (v := undef) (a' := ?_) #[true, true, true, true, true, true, true, true, true, true, true, true, true, true, true, true, true, true, true, true, true, true, true, true, true, true, true, true, true, true, true, true, true, true, true, true, true, true, true, true, true, true, true, true, true, false, false, false, false, false, false] rfl rfl (any_of HT_.out (by kernel_rfl)) (fun _ _ _ h => h) (Or.inr ⟨by rfl, rfl⟩) ?_ ?_
    rotate_left
    ·simp only [Act.put, qSa, qSb, qSc, i64_w, i32_w]
     rfl
    refine pure_ (i := 45) (N := some 102) (v := undef) (a' := ?_) #[true, true, true, true, true, true, true, true, true, true, true, true, true, true, true, true, true, true, true, true, true, true, true, true, true, true, true, true, true, true, true, true, true, true, true, true, true, true, true, true, true, true, true, true, true, true, false, false, false, false, false] rfl rfl (any_of HT_.out (by kernel_rfl)) (fun _ _ _ h => h) (Or.inr ⟨by rfl, rfl⟩) ?_ ?_
    rotate_left
    ·simp only [Act.put, qSa, qSb, qSc, i64_w, i32_w]
     rfl
    refine pure_ (i := 46) (N := some 103) (v := undef) (a' := ?_) #[true, true, true, true, true, true, true, true, true, true, true, true, true, true, true, true, true, true, true, true, true, true, true, true, true, true, true, true, true, true, true, true, true, true, true, true, true, true, true, true, true, true, true, true, true, true, true, false, false, false, false] rfl rfl (any_of HT_.out (by kernel_rfl)) (fun _ _ _ h => h) (Or.inr ⟨by rfl, rfl⟩) ?_ ?_
    rotate_left
    ·simp only [Act.put, qSa, qSb, qSc, i64_w, i32_w]
     rfl
    refine pure_ (i := 47) (N := some 104) (v := undef) (a' := ?_) #[true, true, true, true, true, true, true, true, true, true, true, true, true, true, true, true, true, true, true, true, true, true, true, true, true, true, true, true, true, true, true, true, true, true, true, true, true, true, true, true, true, true, true, true, true, true, true, true, false, false, false] rfl rfl (any_of HT_.out (by kernel_rfl)) (fun _ _ _ h => h) (Or.inr ⟨by rfl, rfl⟩) ?_ ?_
    rotate_left
    ·simp only [Act.put, qSa, qSb, qSc, i64_w, i32_w]
     rfl
    refine pure_ (i := 48) (N := some 105) (v := undef) (a' := ?_) #[true, true, true, true, true, true, true, true, true, true, true, true, true, true, true, true, true, true, true, true, true, true, true, true, true, true, true, true, true, true, true, true, true, true, true, true, true, true, true, true, true, true, true, true, true, true, true, true, true, false, false] rfl rfl (any_of HT_.out (by kernel_rfl)) (fun _ _ _ h => h) (Or.inr ⟨by rfl, rfl⟩) ?_ ?_
    rotate_left
    ·simp only [Act.put, qSa, qSb, qSc, i64_w, i32_w]
     rfl
    refine tP0 49 106 (bm 51 1125899906842623) ?_
    refine tP0 50 107 (bm 51 2251799813685247) ?_
    refine done_ (done_of HT_.out (by kernel_rfl)) ?_
    try go_wp2
    go_roundg k2
    case measure => have := HJ1.out; have := HK2.out; omega
    case rel => exact ⟨(wrap64 (x3_2 + 1)), tS, H', ⟨by have := HJ1.out; have := HK2.out; omega⟩, ⟨tB⟩⟩
   rw [if_pos c26] at H
   have c26b0 := decide_eq_true c26
   clear c26
   obtain ⟨ji27, hji27⟩ : ∃ j_ : Int, (wrap64 (x3_2 - 1)) = j_ := ⟨_, rfl⟩
   first | rw [hji27] at H | simp only [hji27] at H | skip
   (try rw [hji27] at A24)
   have hji27w : (IntKind.i64.wrap (x3_2 - 1)) = ji27 := (i64_w _).trans hji27
   by_cases c28 : 0 ≤ (ji27)
   rotate_left
   ·rw [if_neg c28] at H
    exact absurd H (by simp)
   rw [if_pos c28] at H
   have c28b0 := decide_eq_true c28
   clear c28
   by_cases c29 : (ji27) < (l0_4.length : Int)
   rotate_left
   ·rw [if_neg c29] at H
    exact absurd H (by simp)
   rw [if_pos c29] at H
   have c29b0 := decide_eq_true c29
   clear c29
   by_cases c30 : 0 < ((rd_L1 l0_4 (ji27)).length : Int)
   rotate_left
   ·rw [if_neg c30] at H
    exact absurd H (by simp)
   rw [if_pos c30] at H
   have c30b0 := decide_eq_true c30
   have c30b1 : decide (0 < (rd_L1 l0_4 (ji27)).length) = true := decide_eq_true (by omega)
   clear c30
   by_cases c31 : 0 < ((rd_L1 l0_4 x3_2).length : Int)
   rotate_left
   ·rw [if_neg c31] at H
    exact absurd H (by simp)
   rw [if_pos c31] at H
   have c31b0 := decide_eq_true c31
   have c31b1 : decide (0 < (rd_L1 l0_4 x3_2).length) = true := decide_eq_true (by omega)
   clear c31
   by_cases c32 : (rd (rd_L1 l0_4 (ji27)) 0) > (rd (rd_L1 l0_4 x3_2) 0)
   ·rw [if_pos c32] at H
    have c32b0 := decide_eq_true c32
    clear c32
    obtain rfl := Option.some.inj H
    have hcz33_0 : wr.cell? g0_0 = some (.int .i64 a0_0) := AtC.cell0 (AtC.below BK40.out HB.out) _ rfl
    have hcz33_1 : wr.cell? ⟨g0_0.block, g0_0.off + 1, none⟩ = some (.int .i64 a0_1) := AtC.cell (AtC.below BK40.out HB.out) 1 _ (by decide) rfl
    have hcz33_2 : wr.cell? ⟨g0_0.block, g0_0.off + 2, none⟩ = some (.int .i64 a0_2) := AtC.cell (AtC.below BK40.out HB.out) 2 _ (by decide) rfl
    have hcz33_3 : wr.cell? ⟨g0_0.block, g0_0.off + 3, none⟩ = some (.int .i64 a0_3) := AtC.cell (AtC.below BK40.out HB.out) 3 _ (by decide) rfl
    have hcz33_4 : wr.cell? ⟨g0_0.block, g0_0.off + 4, none⟩ = some (.slice A0_4 l0_4.length c0_4) := AtC.cell (AtC.below BK40.out HB.out) 4 _ (by decide) rfl
    have hcz33_5 : wr.cell? ⟨g0_0.block, g0_0.off + 5, none⟩ = some (.slice A0_5 l0_5.length c0_5) := AtC.cell (AtC.below BK40.out HB.out) 5 _ (by decide) rfl
    try go_wp2
    have n0_ := Aq.mk (bQ1 HB.out)
    clear HB
    have HB := n0_
    clear n0_
    have p381 : 0 ≤ (x3_2 : Int) := of_decide_eq_true tA
    have q381 : x3_2 < (l0_4.length : Int) := of_decide_eq_true tA
    obtain ⟨ad381, A381_0, c381_0, e381, hx381_0, hl381_0, hi381_0⟩ := at_L1 HR0_4.out x3_2 p381 q381
    have hw381_0 := hx381_0
    cases e381
    replace hx381_0 := (HB.out.cell (World.block_lt_of_cell? w _ hx381_0)).trans hx381_0
    have HR381_0 := Aq.mk hi381_0
    have HC381_0 := Aq.mk hl381_0
    clear hi381_0 hl381_0
    replace p381 := eq_true p381
    replace q381 := eq_true q381
    have p382 : 0 ≤ (x3_2 : Int) := of_decide_eq_true tA
    have q382 : x3_2 < (l0_4.length : Int) := of_decide_eq_true tA
    obtain ⟨ad382, A382_0, c382_0, e382, hx382_0, hl382_0, hi382_0⟩ := at_L1 HR0_4.out x3_2 p382 q382
    have hw382_0 := hx382_0
    obtain rfl : ad381 = ad382 := (by injection e382)
    replace hx382_0 := (HB.out.cell (World.block_lt_of_cell? w _ hx382_0)).trans hx382_0
    have HR382_0 := Aq.mk hi382_0
    have HC382_0 := Aq.mk hl382_0
    clear hi382_0 hl382_0
    replace p382 := eq_true p382
    replace q382 := eq_true q382
    have ea_ := Option.some.inj (hx381_0.symm.trans hx382_0)
    injection ea_ with ea_ en_ ec_
    subst ea_
    subst ec_
    clear en_
    have p384 : 0 ≤ ((ji27) : Int) := of_decide_eq_true tA
    have q384 : (ji27) < (l0_4.length : Int) := of_decide_eq_true tA
    obtain ⟨ad384, A384_0, c384_0, e384, hx384_0, hl384_0, hi384_0⟩ := at_L1 HR0_4.out (ji27) p384 q384
    have hw384_0 := hx384_0
    obtain rfl : ad381 = ad384 := (by injection e384)
    replace hx384_0 := (HB.out.cell (World.block_lt_of_cell? w _ hx384_0)).trans hx384_0
    have HR384_0 := Aq.mk hi384_0
    have HC384_0 := Aq.mk hl384_0
    clear hi384_0 hl384_0
    replace p384 := eq_true p384
    replace q384 := eq_true q384
    have p385 : 0 ≤ (0 : Int) := (by omega)
    have q385 : 0 < ((rd_L1 l0_4 (ji27)).length : Int) := of_decide_eq_true tA
    obtain ⟨ad385, e385, hx385_0⟩ := Kd.at_int HR384_0.out 0 p385 q385
    have hw385_0 := hx385_0
    (try rw [show ((0 : Int)).toNat = 0 from rfl] at hw385_0)
    (try rw [show 0 * 1 = 0 from rfl] at hw385_0)
    (try rw [Addr.add_zero'] at hw385_0)
    cases e385
    have qi385 : (0 < (rd_L1 l0_4 (ji27)).length) = True := eq_true (by omega)
    (try rw [show ((0 : Int)).toNat = 0 from rfl] at hx385_0)
    (try rw [Addr.add_zero'] at hx385_0)
    replace hx385_0 := (HB.out.cell (World.block_lt_of_cell? w _ hx385_0)).trans hx385_0
    replace p385 := eq_true p385
    replace q385 := eq_true q385
    have p386 : 0 ≤ (x3_2 : Int) := of_decide_eq_true tA
    have q386 : x3_2 < (l0_4.length : Int) := of_decide_eq_true tA
    obtain ⟨ad386, A386_0, c386_0, e386, hx386_0, hl386_0, hi386_0⟩ := at_L1 HR0_4.out x3_2 p386 q386
    have hw386_0 := hx386_0
    obtain rfl : ad381 = ad386 := (by injection e386)
    replace hx386_0 := (HB.out.cell (World.block_lt_of_cell? w _ hx386_0)).trans hx386_0
    have HR386_0 := Aq.mk hi386_0
    have HC386_0 := Aq.mk hl386_0
    clear hi386_0 hl386_0
    replace p386 := eq_true p386
    replace q386 := eq_true q386
    have ea_ := Option.some.inj (hx381_0.symm.trans hx386_0)
    injection ea_ with ea_ en_ ec_
    subst ea_
    subst ec_
    clear en_
    have p387 : 0 ≤ (0 : Int) := (by omega)
    have q387 : 0 < ((rd_L1 l0_4 x3_2).length : Int) := of_decide_eq_true tA
    obtain ⟨ad387, e387, hx387_0⟩ := Kd.at_int HR386_0.out 0 p387 q387
    have hw387_0 := hx387_0
    (try rw [show ((0 : Int)).toNat = 0 from rfl] at hw387_0)
    (try rw [show 0 * 1 = 0 from rfl] at hw387_0)
    (try rw [Addr.add_zero'] at hw387_0)
    cases e387
    have qi387 : (0 < (rd_L1 l0_4 x3_2).length) = True := eq_true (by omega)
    (try rw [show ((0 : Int)).toNat = 0 from rfl] at hx387_0)
    (try rw [Addr.add_zero'] at hx387_0)
    replace hx387_0 := (HB.out.cell (World.block_lt_of_cell? w _ hx387_0)).trans hx387_0
    replace p387 := eq_true p387
    replace q387 := eq_true q387
    refine start_ (n := 51) (S := fun w' => w'.cell? g0_0 = some (.int .i64 a0_0) ∧ w'.cell? ⟨g0_0.block, g0_0.off + 1, none⟩ = some (.int .i64 a0_1) ∧ w'.cell? ⟨g0_0.block, g0_0.off + 2, none⟩ = some (.int .i64 a0_2) ∧ w'.cell? ⟨g0_0.block, g0_0.off + 3, none⟩ = some (.int .i64 a0_3) ∧ w'.cell? ⟨g0_0.block, g0_0.off + 4, none⟩ = some (.slice (some ad381) l0_4.length c0_4) ∧ w'.cell? ⟨g0_0.block, g0_0.off + 5, none⟩ = some (.slice A0_5 l0_5.length c0_5) ∧ w'.cell? (ad381.add (x3_2).toNat) = some (.slice (some ad387) (rd_L1 l0_4 x3_2).length c381_0) ∧ w'.cell? (ad381.add (x3_2).toNat) = some (.slice (some ad387) (rd_L1 l0_4 x3_2).length c381_0) ∧ w'.cell? (ad381.add ((ji27)).toNat) = some (.slice (some ad385) (rd_L1 l0_4 (ji27)).length c384_0) ∧ w'.cell? ad385 = some (.int .i64 (rd (rd_L1 l0_4 (ji27)) 0)) ∧ w'.cell? (ad381.add (x3_2).toNat) = some (.slice (some ad387) (rd_L1 l0_4 x3_2).length c381_0) ∧ w'.cell? ad387 = some (.int .i64 (rd (rd_L1 l0_4 x3_2) 0))) (ds := []) #[false, false, false, false, false, false, false, false, false, false, false, false, false, false, false, false, false, false, false, false, false, false, false, false, false, false, false, false, false, false, false, false, false, false, false, false, false, false, false, false, false, false, false, false, false, false, false, false, false, false, false] (by kernel_rfl) rfl rfl ⟨(tcw tB (AtC.cell0 BK40.out _ rfl)), (tcw tB (AtC.cell BK40.out 1 _ (by decide) rfl)), (tcw tB (AtC.cell BK40.out 2 _ (by decide) rfl)), (tcw tB (AtC.cell BK40.out 3 _ (by decide) rfl)), (tcw tB (AtC.cell BK40.out 4 _ (by decide) rfl)), (tcw tB (AtC.cell BK40.out 5 _ (by decide) rfl)), (tcw tB hw381_0), (tcw tB hw382_0), (tcw tB hw384_0), (tcw tB hw385_0), (tcw tB hw386_0), (tcw tB hw387_0)⟩ (fun hHeld => ?_); refine with_tabW spec_l07Ok.tab6 spec_l07Ok.bits6 (fun HT_ HW_ => ?_)
    generalize wr.drew = w34 at HB HR381_0 HR382_0 HR384_0 HR386_0 hx381_0 hx382_0 hx384_0 hx385_0 hx386_0 hx387_0 hHeld ⊢
    refine tP0 0 57 (bm 51 1) ?_
    refine tP0 1 58 (bm 51 3) ?_
    refine tP0 2 59 (bm 51 7) ?_
    refine tP0 4 61 (bm 51 23) ?_
    refine tT12 3 60 (bm 51 31) ?_
    refine tP0 5 62 (bm 51 63) ?_
    refine tT12 6 63 (bm 51 127) ?_
    refine tP0 7 64 (bm 51 255) ?_
    refine tP0 8 65 (bm 51 511) ?_
    refine tP0 9 66 (bm 51 1023) ?_
    refine tP0 10 67 (bm 51 2047) ?_
    refine tP0 11 68 (bm 51 4095) ?_
    refine tP0 12 69 (bm 51 8191) ?_
    refine tP0 14 71 (bm 51 24575) ?_
    refine tP0 17 74 (bm 51 155647) ?_
    refine tP0 18 75 (bm 51 417791) ?_
    refine tP0 19 76 (bm 51 942079) ?_
    refine tT12 13 70 (bm 51 950271) ?_
    refine tP0 15 72 (bm 51 983039) ?_
    refine tT12 16 73 (bm 51 1048575) ?_
    refine tT12 20 77 (bm 51 2097151) ?_
    refine tP0 21 78 (bm 51 4194303) ?_
    refine one_ (i := 22) (N := some 79) (bm 51 8388607) rfl rfl (one_of HT_.out (by kernel_rfl)) (by decide) (fun K hK => ?_)
    refine goes_ Try.func107 (by kernel_rfl) rfl #[.slice (some ad387) (rd_L1 l0_4 x3_2).length c381_0, .int .i64 0, .int .i64 (wrap64 (a0_2 - 1))] (by rfl) rfl rfl tL ?_
    with_reducible refine (spec_l00Rises.calls k2 _ _ (rd_L1 l0_4 x3_2) 0 (wrap64 (a0_2 - 1)) true _ ?s1 ?s2 A24.out).mono ?_
    (case s1 => exact tC ((Kd.C_below HR382_0.out HB.out)))
    (case s2 => exact HC382_0.out)
    rintro e w' ⟨rfl, ⟨nd, rfl⟩⟩
    refine ⟨_, rfl, ?_⟩
    refine hK.out _ _ ⟨(tcw tB (AtC.cell0 BK40.out _ rfl)), (tcw tB (AtC.cell BK40.out 1 _ (by decide) rfl)), (tcw tB (AtC.cell BK40.out 2 _ (by decide) rfl)), (tcw tB (AtC.cell BK40.out 3 _ (by decide) rfl)), (tcw tB (AtC.cell BK40.out 4 _ (by decide) rfl)), (tcw tB (AtC.cell BK40.out 5 _ (by decide) rfl)), (tcw tB hw381_0), (tcw tB hw382_0), (tcw tB hw384_0), (tcw tB hw385_0), (tcw tB hw386_0), (tcw tB hw387_0)⟩ (fun hHeld => ?_)
    clear hK K
    refine tN 79 ?_
    refine tP0 23 80 (bm 51 16777215) ?_
    refine tP0 24 81 (bm 51 33554431) ?_
    refine tP0 25 82 (bm 51 67108863) ?_
    refine tP0 26 83 (bm 51 134217727) ?_
    refine tP0 27 84 (bm 51 268435455) ?_
    refine tP0 28 85 (bm 51 536870911) ?_
    refine tP0 29 86 (bm 51 1073741823) ?_
    refine tP0 30 87 (bm 51 2147483647) ?_
    refine tP0 31 88 (bm 51 4294967295) ?_
    refine tP0 33 90 (bm 51 12884901887) ?_
    refine tP0 34 91 (bm 51 30064771071) ?_
    refine tP0 39 96 (bm 51 579820584959) ?_
    refine tP0 40 97 (bm 51 1679332212735) ?_
    refine tP0 41 98 (bm 51 3878355468287) ?_
    refine tP0 43 100 (bm 51 12674448490495) ?_
    refine tT12 32 89 (bm 51 12678743457791) ?_
    refine tP0 35 92 (bm 51 12713103196159) ?_
    refine tT12 36 93 (bm 51 12781822672895) ?_
    refine tP0 37 94 (bm 51 12919261626367) ?_
    refine tT12 38 95 (bm 51 13194139533311) ?_
    refine tT12 42 99 (bm 51 17592186044415) ?_
    refine tP0 44 101 (bm 51 35184372088831) ?_
    refine tT12 45 102 (bm 51 70368744177663) ?_
    refine tP0 46 103 (bm 51 140737488355327) ?_
    refine tT12 47 104 (bm 51 281474976710655) ?_
    refine tP0 48 105 (bm 51 562949953421311) ?_
    refine tP0 49 106 (bm 51 1125899906842623) ?_
    refine tP0 50 107 (bm 51 2251799813685247) ?_
    refine done_ (done_of HT_.out (by kernel_rfl)) ?_
    try go_wp2
    go_ret
    exact ⟨by first | rfl | (simp [errW_none, errW_some] <;> rfl) | (simp only [← hji27]; first | rfl | (simp [errW_none, errW_some] <;> rfl)) | (simp [*, errW_none, errW_some] <;> rfl), tB⟩
   rw [if_neg c32] at H
   have c32b0 := decide_eq_false c32
   clear c32
   replace H' := Aq.mk H
   clear H
   have hcz35_0 : wr.cell? g0_0 = some (.int .i64 a0_0) := AtC.cell0 (AtC.below BK40.out HB.out) _ rfl
   have hcz35_1 : wr.cell? ⟨g0_0.block, g0_0.off + 1, none⟩ = some (.int .i64 a0_1) := AtC.cell (AtC.below BK40.out HB.out) 1 _ (by decide) rfl
   have hcz35_2 : wr.cell? ⟨g0_0.block, g0_0.off + 2, none⟩ = some (.int .i64 a0_2) := AtC.cell (AtC.below BK40.out HB.out) 2 _ (by decide) rfl
   have hcz35_3 : wr.cell? ⟨g0_0.block, g0_0.off + 3, none⟩ = some (.int .i64 a0_3) := AtC.cell (AtC.below BK40.out HB.out) 3 _ (by decide) rfl
   have hcz35_4 : wr.cell? ⟨g0_0.block, g0_0.off + 4, none⟩ = some (.slice A0_4 l0_4.length c0_4) := AtC.cell (AtC.below BK40.out HB.out) 4 _ (by decide) rfl
   have hcz35_5 : wr.cell? ⟨g0_0.block, g0_0.off + 5, none⟩ = some (.slice A0_5 l0_5.length c0_5) := AtC.cell (AtC.below BK40.out HB.out) 5 _ (by decide) rfl
   try go_wp2
   have n0_ := Aq.mk (bQ1 HB.out)
   clear HB
   have HB := n0_
   clear n0_
   have p381 : 0 ≤ (x3_2 : Int) := of_decide_eq_true tA
   have q381 : x3_2 < (l0_4.length : Int) := of_decide_eq_true tA
   obtain ⟨ad381, A381_0, c381_0, e381, hx381_0, hl381_0, hi381_0⟩ := at_L1 HR0_4.out x3_2 p381 q381
   have hw381_0 := hx381_0
   cases e381
   replace hx381_0 := (HB.out.cell (World.block_lt_of_cell? w _ hx381_0)).trans hx381_0
   have HR381_0 := Aq.mk hi381_0
   have HC381_0 := Aq.mk hl381_0
   clear hi381_0 hl381_0
   replace p381 := eq_true p381
   replace q381 := eq_true q381
   have p382 : 0 ≤ (x3_2 : Int) := of_decide_eq_true tA
   have q382 : x3_2 < (l0_4.length : Int) := of_decide_eq_true tA
   obtain ⟨ad382, A382_0, c382_0, e382, hx382_0, hl382_0, hi382_0⟩ := at_L1 HR0_4.out x3_2 p382 q382
   have hw382_0 := hx382_0
   obtain rfl : ad381 = ad382 := (by injection e382)
   replace hx382_0 := (HB.out.cell (World.block_lt_of_cell? w _ hx382_0)).trans hx382_0
   have HR382_0 := Aq.mk hi382_0
   have HC382_0 := Aq.mk hl382_0
   clear hi382_0 hl382_0
   replace p382 := eq_true p382
   replace q382 := eq_true q382
   have ea_ := Option.some.inj (hx381_0.symm.trans hx382_0)
   injection ea_ with ea_ en_ ec_
   subst ea_
   subst ec_
   clear en_
   have p384 : 0 ≤ ((ji27) : Int) := of_decide_eq_true tA
   have q384 : (ji27) < (l0_4.length : Int) := of_decide_eq_true tA
   obtain ⟨ad384, A384_0, c384_0, e384, hx384_0, hl384_0, hi384_0⟩ := at_L1 HR0_4.out (ji27) p384 q384
   have hw384_0 := hx384_0
   obtain rfl : ad381 = ad384 := (by injection e384)
   replace hx384_0 := (HB.out.cell (World.block_lt_of_cell? w _ hx384_0)).trans hx384_0
   have HR384_0 := Aq.mk hi384_0
   have HC384_0 := Aq.mk hl384_0
   clear hi384_0 hl384_0
   replace p384 := eq_true p384
   replace q384 := eq_true q384
   have p385 : 0 ≤ (0 : Int) := (by omega)
   have q385 : 0 < ((rd_L1 l0_4 (ji27)).length : Int) := of_decide_eq_true tA
   obtain ⟨ad385, e385, hx385_0⟩ := Kd.at_int HR384_0.out 0 p385 q385
   have hw385_0 := hx385_0
   (try rw [show ((0 : Int)).toNat = 0 from rfl] at hw385_0)
   (try rw [show 0 * 1 = 0 from rfl] at hw385_0)
   (try rw [Addr.add_zero'] at hw385_0)
   cases e385
   have qi385 : (0 < (rd_L1 l0_4 (ji27)).length) = True := eq_true (by omega)
   (try rw [show ((0 : Int)).toNat = 0 from rfl] at hx385_0)
   (try rw [Addr.add_zero'] at hx385_0)
   replace hx385_0 := (HB.out.cell (World.block_lt_of_cell? w _ hx385_0)).trans hx385_0
   replace p385 := eq_true p385
   replace q385 := eq_true q385
   have p386 : 0 ≤ (x3_2 : Int) := of_decide_eq_true tA
   have q386 : x3_2 < (l0_4.length : Int) := of_decide_eq_true tA
   obtain ⟨ad386, A386_0, c386_0, e386, hx386_0, hl386_0, hi386_0⟩ := at_L1 HR0_4.out x3_2 p386 q386
   have hw386_0 := hx386_0
   obtain rfl : ad381 = ad386 := (by injection e386)
   replace hx386_0 := (HB.out.cell (World.block_lt_of_cell? w _ hx386_0)).trans hx386_0
   have HR386_0 := Aq.mk hi386_0
   have HC386_0 := Aq.mk hl386_0
   clear hi386_0 hl386_0
   replace p386 := eq_true p386
   replace q386 := eq_true q386
   have ea_ := Option.some.inj (hx381_0.symm.trans hx386_0)
   injection ea_ with ea_ en_ ec_
   subst ea_
   subst ec_
   clear en_
   have p387 : 0 ≤ (0 : Int) := (by omega)
   have q387 : 0 < ((rd_L1 l0_4 x3_2).length : Int) := of_decide_eq_true tA
   obtain ⟨ad387, e387, hx387_0⟩ := Kd.at_int HR386_0.out 0 p387 q387
   have hw387_0 := hx387_0
   (try rw [show ((0 : Int)).toNat = 0 from rfl] at hw387_0)
   (try rw [show 0 * 1 = 0 from rfl] at hw387_0)
   (try rw [Addr.add_zero'] at hw387_0)
   cases e387
   have qi387 : (0 < (rd_L1 l0_4 x3_2).length) = True := eq_true (by omega)
   (try rw [show ((0 : Int)).toNat = 0 from rfl] at hx387_0)
   (try rw [Addr.add_zero'] at hx387_0)
   replace hx387_0 := (HB.out.cell (World.block_lt_of_cell? w _ hx387_0)).trans hx387_0
   replace p387 := eq_true p387
   replace q387 := eq_true q387
   refine start_ (n := 51) (S := fun w' => w'.cell? g0_0 = some (.int .i64 a0_0) ∧ w'.cell? ⟨g0_0.block, g0_0.off + 1, none⟩ = some (.int .i64 a0_1) ∧ w'.cell? ⟨g0_0.block, g0_0.off + 2, none⟩ = some (.int .i64 a0_2) ∧ w'.cell? ⟨g0_0.block, g0_0.off + 3, none⟩ = some (.int .i64 a0_3) ∧ w'.cell? ⟨g0_0.block, g0_0.off + 4, none⟩ = some (.slice (some ad381) l0_4.length c0_4) ∧ w'.cell? ⟨g0_0.block, g0_0.off + 5, none⟩ = some (.slice A0_5 l0_5.length c0_5) ∧ w'.cell? (ad381.add (x3_2).toNat) = some (.slice (some ad387) (rd_L1 l0_4 x3_2).length c381_0) ∧ w'.cell? (ad381.add (x3_2).toNat) = some (.slice (some ad387) (rd_L1 l0_4 x3_2).length c381_0) ∧ w'.cell? (ad381.add ((ji27)).toNat) = some (.slice (some ad385) (rd_L1 l0_4 (ji27)).length c384_0) ∧ w'.cell? ad385 = some (.int .i64 (rd (rd_L1 l0_4 (ji27)) 0)) ∧ w'.cell? (ad381.add (x3_2).toNat) = some (.slice (some ad387) (rd_L1 l0_4 x3_2).length c381_0) ∧ w'.cell? ad387 = some (.int .i64 (rd (rd_L1 l0_4 x3_2) 0))) (ds := []) #[false, false, false, false, false, false, false, false, false, false, false, false, false, false, false, false, false, false, false, false, false, false, false, false, false, false, false, false, false, false, false, false, false, false, false, false, false, false, false, false, false, false, false, false, false, false, false, false, false, false, false] (by kernel_rfl) rfl rfl ⟨(tcw tB (AtC.cell0 BK40.out _ rfl)), (tcw tB (AtC.cell BK40.out 1 _ (by decide) rfl)), (tcw tB (AtC.cell BK40.out 2 _ (by decide) rfl)), (tcw tB (AtC.cell BK40.out 3 _ (by decide) rfl)), (tcw tB (AtC.cell BK40.out 4 _ (by decide) rfl)), (tcw tB (AtC.cell BK40.out 5 _ (by decide) rfl)), (tcw tB hw381_0), (tcw tB hw382_0), (tcw tB hw384_0), (tcw tB hw385_0), (tcw tB hw386_0), (tcw tB hw387_0)⟩ (fun hHeld => ?_); refine with_tabW spec_l07Ok.tab6 spec_l07Ok.bits6 (fun HT_ HW_ => ?_)
   generalize wr.drew = w36 at HB HR381_0 HR382_0 HR384_0 HR386_0 hx381_0 hx382_0 hx384_0 hx385_0 hx386_0 hx387_0 hHeld ⊢
   refine tP0 0 57 (bm 51 1) ?_
   refine tP0 1 58 (bm 51 3) ?_
   refine tP0 2 59 (bm 51 7) ?_
   refine tP0 4 61 (bm 51 23) ?_
   refine tT12 3 60 (bm 51 31) ?_
   refine tP0 5 62 (bm 51 63) ?_
   refine tT12 6 63 (bm 51 127) ?_
   refine tP0 7 64 (bm 51 255) ?_
   refine tP0 8 65 (bm 51 511) ?_
   refine tP0 9 66 (bm 51 1023) ?_
   refine tP0 10 67 (bm 51 2047) ?_
   refine tP0 11 68 (bm 51 4095) ?_
   refine tP0 12 69 (bm 51 8191) ?_
   refine tP0 14 71 (bm 51 24575) ?_
   refine tP0 17 74 (bm 51 155647) ?_
   refine tP0 18 75 (bm 51 417791) ?_
   refine tP0 19 76 (bm 51 942079) ?_
   refine tT12 13 70 (bm 51 950271) ?_
   refine tP0 15 72 (bm 51 983039) ?_
   refine tT12 16 73 (bm 51 1048575) ?_
   refine tT12 20 77 (bm 51 2097151) ?_
   refine tP0 21 78 (bm 51 4194303) ?_
   refine one_ (i := 22) (N := some 79) (bm 51 8388607) rfl rfl (one_of HT_.out (by kernel_rfl)) (by decide) (fun K hK => ?_)
   refine goes_ Try.func107 (by kernel_rfl) rfl #[.slice (some ad387) (rd_L1 l0_4 x3_2).length c381_0, .int .i64 0, .int .i64 (wrap64 (a0_2 - 1))] (by rfl) rfl rfl tL ?_
   with_reducible refine (spec_l00Rises.calls k2 _ _ (rd_L1 l0_4 x3_2) 0 (wrap64 (a0_2 - 1)) true _ ?s1 ?s2 A24.out).mono ?_
   (case s1 => exact tC ((Kd.C_below HR382_0.out HB.out)))
   (case s2 => exact HC382_0.out)
   rintro e w' ⟨rfl, ⟨nd, rfl⟩⟩
   refine ⟨_, rfl, ?_⟩
   refine hK.out _ _ ⟨(tcw tB (AtC.cell0 BK40.out _ rfl)), (tcw tB (AtC.cell BK40.out 1 _ (by decide) rfl)), (tcw tB (AtC.cell BK40.out 2 _ (by decide) rfl)), (tcw tB (AtC.cell BK40.out 3 _ (by decide) rfl)), (tcw tB (AtC.cell BK40.out 4 _ (by decide) rfl)), (tcw tB (AtC.cell BK40.out 5 _ (by decide) rfl)), (tcw tB hw381_0), (tcw tB hw382_0), (tcw tB hw384_0), (tcw tB hw385_0), (tcw tB hw386_0), (tcw tB hw387_0)⟩ (fun hHeld => ?_)
   clear hK K
   refine tN 79 ?_
   refine tP0 23 80 (bm 51 16777215) ?_
   refine tP0 24 81 (bm 51 33554431) ?_
   refine tP0 25 82 (bm 51 67108863) ?_
   refine tP0 26 83 (bm 51 134217727) ?_
   refine tP0 27 84 (bm 51 268435455) ?_
   refine tP0 28 85 (bm 51 536870911) ?_
   refine tP0 29 86 (bm 51 1073741823) ?_
   refine tP0 30 87 (bm 51 2147483647) ?_
   refine tP0 31 88 (bm 51 4294967295) ?_
   refine tP0 33 90 (bm 51 12884901887) ?_
   refine tP0 34 91 (bm 51 30064771071) ?_
   refine tP0 39 96 (bm 51 579820584959) ?_
   refine tP0 40 97 (bm 51 1679332212735) ?_
   refine tP0 41 98 (bm 51 3878355468287) ?_
   refine tP0 43 100 (bm 51 12674448490495) ?_
   refine tT12 32 89 (bm 51 12678743457791) ?_
   refine tP0 35 92 (bm 51 12713103196159) ?_
   refine tT12 36 93 (bm 51 12781822672895) ?_
   refine tP0 37 94 (bm 51 12919261626367) ?_
   refine tT12 38 95 (bm 51 13194139533311) ?_
   refine tT12 42 99 (bm 51 17592186044415) ?_
   refine tP0 44 101 (bm 51 35184372088831) ?_
   refine tT12 45 102 (bm 51 70368744177663) ?_
   refine tP0 46 103 (bm 51 140737488355327) ?_
   refine tT12 47 104 (bm 51 281474976710655) ?_
   refine tP0 48 105 (bm 51 562949953421311) ?_
   refine tP0 49 106 (bm 51 1125899906842623) ?_
   refine tP0 50 107 (bm 51 2251799813685247) ?_
   refine done_ (done_of HT_.out (by kernel_rfl)) ?_
   try go_wp2
   go_roundg k2
   case measure => have := HJ1.out; have := HK2.out; omega
   case rel => exact ⟨(wrap64 (x3_2 + 1)), tS, H', ⟨by have := HJ1.out; have := HK2.out; omega⟩, ⟨tB⟩⟩
end Go.Proofs.Ytbalkaphibnpcaa.P
