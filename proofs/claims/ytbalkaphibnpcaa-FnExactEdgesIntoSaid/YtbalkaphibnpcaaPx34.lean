/- Functions of the program and what they tell, as the printing program wrote it. -/
import Derived.Test.YtbalkaphibnpcaaPx0
import Derived.Test.YtbalkaphibnpcaaPx1
import Derived.Test.YtbalkaphibnpcaaPx3
import Derived.Test.YtbalkaphibnpcaaPx7
import Derived.Test.YtbalkaphibnpcaaPx33
namespace Go.Proofs.Ytbalkaphibnpcaa.P
open Go.Shelf Go.RowKit Go.Proofs.YtbalkaphibnpcaaW.PrintWords Go.Proofs.YtbalkaphibnpcaaW.PrintLast Go.Proofs.YtbalkaphibnpcaaW.PrintMore
attribute [local go_sem] max2_int min2_int max_two min_two max_three min_three max_four min_four
set_option linter.unusedVariables false
set_option linter.unusedSimpArgs false
set_option maxHeartbeats 8000000
set_option maxRecDepth 100000
mutual
def impl_ValidNet.j0 : Nat → Bool → Int → Int → Int → Int → List (List Int) → List (List Int) → Option (Bool)
  | 0, _, _, _, _, _, _, _ => none
  | k + 1, x37, x432000, x432001, x432002, x432003, x432004, x432005 => if x37 = true then (some false) else (impl_ValidNet.l0 k x432004 (x432004.length : Int) 0 x432000 x432001 x432002 x432003 x432004 x432005)
def impl_ValidNet.l0 : Nat → List (List Int) → Int → Int → Int → Int → Int → Int → List (List Int) → List (List Int) → Option (Bool)
  | 0, _, _, _, _, _, _, _, _, _ => none
  | k + 1, x39, x40, x41, x432000, x432001, x432002, x432003, x432004, x432005 => if x41 < x40 then (if 0 ≤ x41 then (if x41 < (x39.length : Int) then (if ((rd_L1 x39 x41).length : Int) = 2 then (if 0 < ((rd_L1 x39 x41).length : Int) then ((impl_Net_isNode.f x432000 x432001 x432002 x432003 x432004 x432005 (rd (rd_L1 x39 x41) 0)).bind fun t437 => (if t437 = true then (if 1 < ((rd_L1 x39 x41).length : Int) then ((impl_Net_isNode.f x432000 x432001 x432002 x432003 x432004 x432005 (rd (rd_L1 x39 x41) 1)).bind fun t439 => (if t439 = true then (if (rd (rd_L1 x39 x41) 0) ≥ (rd (rd_L1 x39 x41) 1) then (some false) else (if x41 > 0 then (if 0 ≤ (wrap64 (x41 - 1)) then (if (wrap64 (x41 - 1)) < (x432004.length : Int) then (if 0 < ((rd_L1 x432004 (wrap64 (x41 - 1))).length : Int) then (if (rd (rd_L1 x39 x41) 0) < (rd (rd_L1 x432004 (wrap64 (x41 - 1))) 0) then (some false) else (impl_ValidNet.l0 k x39 x40 (wrap64 (x41 + 1)) x432000 x432001 x432002 x432003 x432004 x432005)) else (none)) else (none)) else (none)) else (impl_ValidNet.l0 k x39 x40 (wrap64 (x41 + 1)) x432000 x432001 x432002 x432003 x432004 x432005))) else (some false))) else (none)) else (some false))) else (none)) else (some false)) else (none)) else (none)) else (impl_ValidNet.l1 k x432005 (x432005.length : Int) 0 x432000 x432001 x432002 x432003 x432004 x432005)
def impl_ValidNet.l1 : Nat → List (List Int) → Int → Int → Int → Int → Int → Int → List (List Int) → List (List Int) → Option (Bool)
  | 0, _, _, _, _, _, _, _, _, _ => none
  | k + 1, x94, x95, x96, x432000, x432001, x432002, x432003, x432004, x432005 => if x96 < x95 then (if 0 ≤ x96 then (if x96 < (x94.length : Int) then ((impl_size_int64_71.f (rd_L1 x94 x96)).bind fun t446 => (if x96 < (x432004.length : Int) then (if 0 < ((rd_L1 x432004 x96).length : Int) then ((impl_Net_has.f k x432000 x432001 x432002 x432003 x432004 x432005 (rd (rd_L1 x432004 x96) 0)).bind fun t449 => (if t446 = t449 then ((impl_Field_has.f k x432000 x432001 (rd_L1 x94 x96)).bind fun t450 => (if t450 = true then (impl_ValidNet.l1 k x94 x95 (wrap64 (x96 + 1)) x432000 x432001 x432002 x432003 x432004 x432005) else (some false))) else (some false))) else (none)) else (none))) else (none)) else (none)) else (some true)
end
def impl_ValidNet.f (k : Nat) (a0_0 : Int) (a0_1 : Int) (a0_2 : Int) (a0_3 : Int) (l0_4 : List (List Int)) (l0_5 : List (List Int)) : Option (Bool) := (impl_ValidField.f k a0_0 a0_1).bind fun t432 => (if t432 = true then ((impl_within.f a0_2 2 8).bind fun t433 => (if t433 = true then ((impl_within.f a0_3 1 3).bind fun t434 => (if t434 = true then (if (l0_4.length : Int) > 14 then (impl_ValidNet.j0 k true a0_0 a0_1 a0_2 a0_3 l0_4 l0_5) else (impl_ValidNet.j0 k ((l0_5.length : Int) != (l0_4.length : Int)) a0_0 a0_1 a0_2 a0_3 l0_4 l0_5)) else (impl_ValidNet.j0 k true a0_0 a0_1 a0_2 a0_3 l0_4 l0_5))) else (impl_ValidNet.j0 k true a0_0 a0_1 a0_2 a0_3 l0_4 l0_5))) else (impl_ValidNet.j0 k true a0_0 a0_1 a0_2 a0_3 l0_4 l0_5))
theorem impl_ValidNet.mono_l : ∀ k, (∀ y0 y1 y2 y3 y4 y5 y6, LeO (impl_ValidNet.j0 k y0 y1 y2 y3 y4 y5 y6) (impl_ValidNet.j0 (k + 1) y0 y1 y2 y3 y4 y5 y6)) ∧ (∀ y0 y1 y2 y3 y4 y5 y6 y7 y8, LeO (impl_ValidNet.l0 k y0 y1 y2 y3 y4 y5 y6 y7 y8) (impl_ValidNet.l0 (k + 1) y0 y1 y2 y3 y4 y5 y6 y7 y8)) ∧ (∀ y0 y1 y2 y3 y4 y5 y6 y7 y8, LeO (impl_ValidNet.l1 k y0 y1 y2 y3 y4 y5 y6 y7 y8) (impl_ValidNet.l1 (k + 1) y0 y1 y2 y3 y4 y5 y6 y7 y8))
 | 0 => ⟨fun _ _ _ _ _ _ _ r h => by simp [impl_ValidNet.j0] at h, fun _ _ _ _ _ _ _ _ _ r h => by simp [impl_ValidNet.l0] at h, fun _ _ _ _ _ _ _ _ _ r h => by simp [impl_ValidNet.l1] at h⟩
 | k + 1 => by
  obtain ⟨ih0, ih1, ih2⟩ := impl_ValidNet.mono_l k
  refine ⟨?_, ?_, ?_⟩ <;> intros <;> first | unfold impl_ValidNet.j0 | unfold impl_ValidNet.l0 | unfold impl_ValidNet.l1
  all_goals repeat' first
   | (with_reducible first | apply ih0 | apply ih1 | apply ih2 | apply impl_Field_has.mono | apply impl_Net_has.mono | apply impl_ValidField.mono | exact LeO.refl _ | exact LeO.none _ | refine LeO.ite ?_ ?_ | refine LeO.bind ?_ (fun _ => ?_))
   | exact LeO.none _
   | refine LeO.ite ?_ ?_
   | refine LeO.bind ?_ (fun _ => ?_)
theorem impl_ValidNet.mono : ∀ a0 a1 a2 a3 a4 a5 k, LeO (impl_ValidNet.f k a0 a1 a2 a3 a4 a5) (impl_ValidNet.f (k + 1) a0 a1 a2 a3 a4 a5) := by
 intro a0 a1 a2 a3 a4 a5 k
 obtain ⟨ih0, ih1, ih2⟩ := impl_ValidNet.mono_l k
 unfold impl_ValidNet.f
 repeat' first
  | (with_reducible first | apply ih0 | apply ih1 | apply ih2 | apply impl_Field_has.mono | apply impl_Net_has.mono | apply impl_ValidField.mono | exact LeO.refl _ | exact LeO.none _ | refine LeO.ite ?_ ?_ | refine LeO.bind ?_ (fun _ => ?_))
  | exact LeO.none _
  | refine LeO.ite ?_ ?_
  | refine LeO.bind ?_ (fun _ => ?_)
def impl_ValidNet.T6 : Bool × List (List Nat × List Nat) := (true, [([], []), ([0], [0]), ([1], [1]), ([2], [2]), ([3], [3]), ([3], [3]), ([5, 3], [3, 5]), ([6, 3], [3, 6]), ([4, 7, 3, 3], [3, 4, 7]), ([8, 3], [3, 8]), ([3, 9], [3, 9]), ([10, 8], [10]), ([11], [11]), ([11], [11]), ([13, 11], [11, 13]), ([14, 11], [11, 14]), ([12, 15, 11, 11], [11, 12, 15]), ([16, 11], [11, 16]), ([11, 17], [11, 17]), ([18, 16], [18]), ([19], [19]), ([20, 19], [19, 20]), ([21, 19], [19, 21]), ([19], [19]), ([23, 19], [19, 23]), ([24, 19], [19, 24]), ([22, 25, 19], [19, 22, 25]), ([19, 26], [19, 26]), ([27, 19], [27]), ([28], [28]), ([29, 28], [28, 29]), ([30, 28, 28], [28, 30]), ([31], [31]), ([32, 31], [31, 32]), ([33, 31], [31, 33]), ([31], [31]), ([35, 31], [31, 35]), ([31], [31]), ([37, 31], [31, 37]), ([36, 38, 31], [31, 36, 38]), ([39, 31], [31, 39]), ([40, 31], [31, 40]), ([41, 31], [31, 41]), ([34, 42, 31], [31, 34, 42]), ([31, 43, 28], [28, 31, 43]), ([28, 44], [28, 44])])
def impl_ValidNet.B6 : List Nat := [0, 1, 3, 7, 15, 15, 47, 111, 255, 511, 1023, 2047, 4095, 4095, 12287, 28671, 65535, 131071, 262143, 524287, 1048575, 2097151, 4194303, 1048575, 9437183, 26214399, 67108863, 134217727, 268435455, 536870911, 1073741823, 2147483647, 4294967295, 8589934591, 17179869183, 4294967295, 38654705663, 4294967295, 141733920767, 519691042815, 1069446856703, 2168958484479, 4367981740031, 8796093022207, 17592186044415, 35184372088831]
theorem impl_ValidNet.tab6 : rtab .any (opsOf Try.f79 6) = impl_ValidNet.T6 := by kernel_rfl
theorem impl_ValidNet.bits6 : waitsOk impl_ValidNet.T6.2 impl_ValidNet.B6 = true := by kernel_rfl
def impl_ValidNet.T12 : Bool × List (List Nat × List Nat) := (true, [([], []), ([0], [0]), ([], []), ([], []), ([3], [3]), ([], []), ([4, 5], [4, 5]), ([6], [6]), ([7], [7]), ([8], [8]), ([2, 9, 1], [2, 9]), ([1, 10], [1, 10]), ([11, 10], [11]), ([12], [12]), ([13, 12], [12, 13]), ([12], [12]), ([14, 15, 12, 12], [12, 14, 15]), ([16, 12], [12, 16]), ([12, 17], [12, 17])])
def impl_ValidNet.B12 : List Nat := [0, 1, 0, 0, 8, 0, 56, 120, 248, 504, 1023, 2047, 4095, 8191, 16383, 8191, 65535, 131071, 262143]
theorem impl_ValidNet.tab12 : rtab .any (opsOf Try.f79 12) = impl_ValidNet.T12 := by kernel_rfl
theorem impl_ValidNet.bits12 : waitsOk impl_ValidNet.T12.2 impl_ValidNet.B12 = true := by kernel_rfl
theorem impl_ValidNet.calls (k : Nat) (a0_0 : Int) (a0_1 : Int) (a0_2 : Int) (a0_3 : Int) (A0_4 : Option Addr) (c0_4 : Nat) (l0_4 : List (List Int)) (A0_5 : Option Addr) (c0_5 : Nat) (l0_5 : List (List Int)) (r : Bool) (w : World) (hr0_4 : Kd.C (Kd.slice 2 (Kd.int .i64)) w A0_4 l0_4.length l0_4) (hc0_4 : l0_4.length ≤ c0_4) (hr0_5 : Kd.C (Kd.slice 2 (Kd.int .i64)) w A0_5 l0_5.length l0_5) (hc0_5 : l0_5.length ≤ c0_5) (h : impl_ValidNet.f k a0_0 a0_1 a0_2 a0_3 l0_4 l0_5 = some r) :
 Calls Try.prog 79 #[.agg #[.int .i64 a0_0, .int .i64 a0_1, .int .i64 a0_2, .int .i64 a0_3, .slice A0_4 l0_4.length c0_4, .slice A0_5 l0_5.length c0_5]] w fun e w' => e = .returned (.bool r) ∧ Below w.heap.size w w' := by
 have hu42 := Try.underlying42
 have hu28 := Try.underlying28
 have HR0_4 := Aq.mk hr0_4
 have HC0_4 := Aq.mk hc0_4
 clear hr0_4 hc0_4
 have HR0_5 := Aq.mk hr0_5
 have HC0_5 := Aq.mk hc0_5
 clear hr0_5 hc0_5
 have HB := Aq.mk (Below.refl w.heap.size w)
 have H : ((impl_ValidField.f k a0_0 a0_1).bind fun t432 => (if t432 = true then ((impl_within.f a0_2 2 8).bind fun t433 => (if t433 = true then ((impl_within.f a0_3 1 3).bind fun t434 => (if t434 = true then (if (l0_4.length : Int) > 14 then (impl_ValidNet.j0 k true a0_0 a0_1 a0_2 a0_3 l0_4 l0_5) else (impl_ValidNet.j0 k ((l0_5.length : Int) != (l0_4.length : Int)) a0_0 a0_1 a0_2 a0_3 l0_4 l0_5)) else (impl_ValidNet.j0 k true a0_0 a0_1 a0_2 a0_3 l0_4 l0_5))) else (impl_ValidNet.j0 k true a0_0 a0_1 a0_2 a0_3 l0_4 l0_5))) else (impl_ValidNet.j0 k true a0_0 a0_1 a0_2 a0_3 l0_4 l0_5))) = some r := h
 clear h
 have HC2 := Aq.mk H
 clear H
 go_enter Try.func79, Try.ntmps79
 go_upto_region 1 with (first | ((with_reducible refine gQd (N := 1) rfl ?_); (try (refine gate_guard (by rfl) ?_; dsimp only)); refine xQe ?hg (N := 1) ?hd (cs := #[.int .i64 a0_0, .int .i64 a0_1, .int .i64 a0_2, .int .i64 a0_3, .slice A0_4 l0_4.length c0_4, .slice A0_5 l0_5.length c0_5]) (t := 42) ?hr ?_; (case hd => rfl); (case hg => rfl); (case hr => exact tH); intro gb431 hg w3 hbox hb; refine qM4 (bQT tB hb) hbox (tZ w hg) (tZ w hg) ?_; clear HB; intro HB BK431 GW431 GE431; clear hb hbox hg))
 (try simp only [Act.put, qSa, qSb, qSc])
 go_cut [37] (fun v37 wc => ∃ (kq : Nat) (x37_1 : Bool), v37 = .bool x37_1 ∧ Aq (impl_ValidNet.j0 kq x37_1 a0_0 a0_1 a0_2 a0_3 l0_4 l0_5 = some r) ∧ Aq (kq ≤ k) ∧ Aq (wc.heap[gb431]? = some (.cells #[.int .i64 a0_0, .int .i64 a0_1, .int .i64 a0_2, .int .i64 a0_3, (.slice A0_4 l0_4.length c0_4), (.slice A0_5 l0_5.length c0_5)] 42 (0, 0))) ∧ Aq (Below w.heap.size w wc))
 case first =>
  have H := HC2.out
  clear HC2
  obtain ⟨t432, A4, H⟩ := qBd H
  by_cases c5 : t432 = true
  rotate_left
  ·replace c5 := Bool.eq_false_iff.mpr c5
   subst c5
   rw [if_neg (show ¬ (false = true) by decide)] at H
   replace H' := Aq.mk H
   clear H
   have hcz23_0 : w3.cell? ⟨gb431, 0, none⟩ = some (.int .i64 a0_0) := (kQC BK431.out 0).trans rfl
   have hcz23_1 : w3.cell? ⟨gb431, 1, none⟩ = some (.int .i64 a0_1) := (kQC BK431.out 1).trans rfl
   have hcz23_2 : w3.cell? ⟨gb431, 2, none⟩ = some (.int .i64 a0_2) := (kQC BK431.out 2).trans rfl
   have hcz23_3 : w3.cell? ⟨gb431, 3, none⟩ = some (.int .i64 a0_3) := (kQC BK431.out 3).trans rfl
   have hcz23_4 : w3.cell? ⟨gb431, 4, none⟩ = some (.slice A0_4 l0_4.length c0_4) := (kQC BK431.out 4).trans rfl
   have hcz23_5 : w3.cell? ⟨gb431, 5, none⟩ = some (.slice A0_5 l0_5.length c0_5) := (kQC BK431.out 5).trans rfl
   have hfz23_0 := kQF BK431.out 0
   have hfz23_1 := kQF BK431.out 1
   have hfz23_2 := kQF BK431.out 2
   have hfz23_3 := kQF BK431.out 3
   have hfz23_4 := kQF BK431.out 4
   have hfz23_5 := kQF BK431.out 5
   go_wp2_with (first | ((with_reducible refine gQc (f := 67) rfl ?_); refine goesL_ (some 9) rfl rfl Try.func67 (by kernel_rfl) rfl #[.agg #[.int .i64 a0_0, .int .i64 a0_1]] rfl tL ?_; (with_reducible refine (impl_ValidField.calls k a0_0 a0_1 false _ A4.out).mono ?_); rintro e w24 ⟨rfl, hb⟩; refine ⟨_, rfl, ?_⟩; refine qM2 (tQ BK431.out hb) (bQT tB hb) ?_; clear BK431 HB; intro BK431 HB; (try clear hb); (try clear hb2); (try clear hk); (try clear hi)))
   go_meet
   case rel => exact ⟨_, (true), tS, H', ⟨tO⟩, ⟨tG BK431.out⟩, ⟨tB⟩⟩
  subst c5
  rw [if_pos rfl] at H
  obtain ⟨t433, A6, H⟩ := qBd H
  by_cases c7 : t433 = true
  rotate_left
  ·replace c7 := Bool.eq_false_iff.mpr c7
   subst c7
   rw [if_neg (show ¬ (false = true) by decide)] at H
   replace H' := Aq.mk H
   clear H
   have hcz20_0 : w3.cell? ⟨gb431, 0, none⟩ = some (.int .i64 a0_0) := (kQC BK431.out 0).trans rfl
   have hcz20_1 : w3.cell? ⟨gb431, 1, none⟩ = some (.int .i64 a0_1) := (kQC BK431.out 1).trans rfl
   have hcz20_2 : w3.cell? ⟨gb431, 2, none⟩ = some (.int .i64 a0_2) := (kQC BK431.out 2).trans rfl
   have hcz20_3 : w3.cell? ⟨gb431, 3, none⟩ = some (.int .i64 a0_3) := (kQC BK431.out 3).trans rfl
   have hcz20_4 : w3.cell? ⟨gb431, 4, none⟩ = some (.slice A0_4 l0_4.length c0_4) := (kQC BK431.out 4).trans rfl
   have hcz20_5 : w3.cell? ⟨gb431, 5, none⟩ = some (.slice A0_5 l0_5.length c0_5) := (kQC BK431.out 5).trans rfl
   have hfz20_0 := kQF BK431.out 0
   have hfz20_1 := kQF BK431.out 1
   have hfz20_2 := kQF BK431.out 2
   have hfz20_3 := kQF BK431.out 3
   have hfz20_4 := kQF BK431.out 4
   have hfz20_5 := kQF BK431.out 5
   go_wp2_with (first | ((with_reducible refine gQc (f := 67) rfl ?_); refine goesL_ (some 9) rfl rfl Try.func67 (by kernel_rfl) rfl #[.agg #[.int .i64 a0_0, .int .i64 a0_1]] rfl tL ?_; (with_reducible refine (impl_ValidField.calls k a0_0 a0_1 true _ A4.out).mono ?_); rintro e w21 ⟨rfl, hb⟩; refine ⟨_, rfl, ?_⟩; refine qM2 (tQ BK431.out hb) (bQT tB hb) ?_; clear BK431 HB; intro BK431 HB; (try clear hb); (try clear hb2); (try clear hk); (try clear hi); have hcz22_0 : w21.cell? ⟨gb431, 0, none⟩ = some (.int .i64 a0_0) := (kQC BK431.out 0).trans rfl; have hcz22_1 : w21.cell? ⟨gb431, 1, none⟩ = some (.int .i64 a0_1) := (kQC BK431.out 1).trans rfl; have hcz22_2 : w21.cell? ⟨gb431, 2, none⟩ = some (.int .i64 a0_2) := (kQC BK431.out 2).trans rfl; have hcz22_3 : w21.cell? ⟨gb431, 3, none⟩ = some (.int .i64 a0_3) := (kQC BK431.out 3).trans rfl; have hcz22_4 : w21.cell? ⟨gb431, 4, none⟩ = some (.slice A0_4 l0_4.length c0_4) := (kQC BK431.out 4).trans rfl; have hcz22_5 : w21.cell? ⟨gb431, 5, none⟩ = some (.slice A0_5 l0_5.length c0_5) := (kQC BK431.out 5).trans rfl; have hfz22_0 := kQF BK431.out 0; have hfz22_1 := kQF BK431.out 1; have hfz22_2 := kQF BK431.out 2; have hfz22_3 := kQF BK431.out 3; have hfz22_4 := kQF BK431.out 4; have hfz22_5 := kQF BK431.out 5) | (go_at_call 68; (with_reducible refine (impl_within.calls a0_2 2 8 false _ A6.out).mono ?_); rintro e w' ⟨rfl, ⟨nd, rfl⟩⟩))
   go_meet
   case rel => exact ⟨_, (true), tS, H', ⟨tO⟩, ⟨tG BK431.out⟩, ⟨tB⟩⟩
  subst c7
  rw [if_pos rfl] at H
  obtain ⟨t434, A8, H⟩ := qBd H
  by_cases c9 : t434 = true
  rotate_left
  ·replace c9 := Bool.eq_false_iff.mpr c9
   subst c9
   rw [if_neg (show ¬ (false = true) by decide)] at H
   replace H' := Aq.mk H
   clear H
   have hcz17_0 : w3.cell? ⟨gb431, 0, none⟩ = some (.int .i64 a0_0) := (kQC BK431.out 0).trans rfl
   have hcz17_1 : w3.cell? ⟨gb431, 1, none⟩ = some (.int .i64 a0_1) := (kQC BK431.out 1).trans rfl
   have hcz17_2 : w3.cell? ⟨gb431, 2, none⟩ = some (.int .i64 a0_2) := (kQC BK431.out 2).trans rfl
   have hcz17_3 : w3.cell? ⟨gb431, 3, none⟩ = some (.int .i64 a0_3) := (kQC BK431.out 3).trans rfl
   have hcz17_4 : w3.cell? ⟨gb431, 4, none⟩ = some (.slice A0_4 l0_4.length c0_4) := (kQC BK431.out 4).trans rfl
   have hcz17_5 : w3.cell? ⟨gb431, 5, none⟩ = some (.slice A0_5 l0_5.length c0_5) := (kQC BK431.out 5).trans rfl
   have hfz17_0 := kQF BK431.out 0
   have hfz17_1 := kQF BK431.out 1
   have hfz17_2 := kQF BK431.out 2
   have hfz17_3 := kQF BK431.out 3
   have hfz17_4 := kQF BK431.out 4
   have hfz17_5 := kQF BK431.out 5
   go_wp2_with (first | ((with_reducible refine gQc (f := 67) rfl ?_); refine goesL_ (some 9) rfl rfl Try.func67 (by kernel_rfl) rfl #[.agg #[.int .i64 a0_0, .int .i64 a0_1]] rfl tL ?_; (with_reducible refine (impl_ValidField.calls k a0_0 a0_1 true _ A4.out).mono ?_); rintro e w18 ⟨rfl, hb⟩; refine ⟨_, rfl, ?_⟩; refine qM2 (tQ BK431.out hb) (bQT tB hb) ?_; clear BK431 HB; intro BK431 HB; (try clear hb); (try clear hb2); (try clear hk); (try clear hi); have hcz19_0 : w18.cell? ⟨gb431, 0, none⟩ = some (.int .i64 a0_0) := (kQC BK431.out 0).trans rfl; have hcz19_1 : w18.cell? ⟨gb431, 1, none⟩ = some (.int .i64 a0_1) := (kQC BK431.out 1).trans rfl; have hcz19_2 : w18.cell? ⟨gb431, 2, none⟩ = some (.int .i64 a0_2) := (kQC BK431.out 2).trans rfl; have hcz19_3 : w18.cell? ⟨gb431, 3, none⟩ = some (.int .i64 a0_3) := (kQC BK431.out 3).trans rfl; have hcz19_4 : w18.cell? ⟨gb431, 4, none⟩ = some (.slice A0_4 l0_4.length c0_4) := (kQC BK431.out 4).trans rfl; have hcz19_5 : w18.cell? ⟨gb431, 5, none⟩ = some (.slice A0_5 l0_5.length c0_5) := (kQC BK431.out 5).trans rfl; have hfz19_0 := kQF BK431.out 0; have hfz19_1 := kQF BK431.out 1; have hfz19_2 := kQF BK431.out 2; have hfz19_3 := kQF BK431.out 3; have hfz19_4 := kQF BK431.out 4; have hfz19_5 := kQF BK431.out 5) | (go_at_call 68; (with_reducible refine (impl_within.calls a0_2 2 8 true _ A6.out).mono ?_); rintro e w' ⟨rfl, ⟨nd, rfl⟩⟩) | (go_at_call 68; (with_reducible refine (impl_within.calls a0_3 1 3 false _ A8.out).mono ?_); rintro e w' ⟨rfl, ⟨nd, rfl⟩⟩))
   go_meet
   case rel => exact ⟨_, (true), tS, H', ⟨tO⟩, ⟨tG BK431.out⟩, ⟨tB⟩⟩
  subst c9
  rw [if_pos rfl] at H
  by_cases c10 : (l0_4.length : Int) > 14
  ·rw [if_pos c10] at H
   have c10b0 := decide_eq_true c10
   have c10b1 : decide (14 < l0_4.length) = true := decide_eq_true (by omega)
   clear c10
   (first | rw [c10b0] | (simp only [i64_w, i32_w]; rw [c10b0]) | skip)
   replace H' := Aq.mk H
   clear H
   have hcz11_0 : w3.cell? ⟨gb431, 0, none⟩ = some (.int .i64 a0_0) := (kQC BK431.out 0).trans rfl
   have hcz11_1 : w3.cell? ⟨gb431, 1, none⟩ = some (.int .i64 a0_1) := (kQC BK431.out 1).trans rfl
   have hcz11_2 : w3.cell? ⟨gb431, 2, none⟩ = some (.int .i64 a0_2) := (kQC BK431.out 2).trans rfl
   have hcz11_3 : w3.cell? ⟨gb431, 3, none⟩ = some (.int .i64 a0_3) := (kQC BK431.out 3).trans rfl
   have hcz11_4 : w3.cell? ⟨gb431, 4, none⟩ = some (.slice A0_4 l0_4.length c0_4) := (kQC BK431.out 4).trans rfl
   have hcz11_5 : w3.cell? ⟨gb431, 5, none⟩ = some (.slice A0_5 l0_5.length c0_5) := (kQC BK431.out 5).trans rfl
   have hfz11_0 := kQF BK431.out 0
   have hfz11_1 := kQF BK431.out 1
   have hfz11_2 := kQF BK431.out 2
   have hfz11_3 := kQF BK431.out 3
   have hfz11_4 := kQF BK431.out 4
   have hfz11_5 := kQF BK431.out 5
   go_wp2_with (first | ((with_reducible refine gQc (f := 67) rfl ?_); refine goesL_ (some 9) rfl rfl Try.func67 (by kernel_rfl) rfl #[.agg #[.int .i64 a0_0, .int .i64 a0_1]] rfl tL ?_; (with_reducible refine (impl_ValidField.calls k a0_0 a0_1 true _ A4.out).mono ?_); rintro e w12 ⟨rfl, hb⟩; refine ⟨_, rfl, ?_⟩; refine qM2 (tQ BK431.out hb) (bQT tB hb) ?_; clear BK431 HB; intro BK431 HB; (try clear hb); (try clear hb2); (try clear hk); (try clear hi); have hcz13_0 : w12.cell? ⟨gb431, 0, none⟩ = some (.int .i64 a0_0) := (kQC BK431.out 0).trans rfl; have hcz13_1 : w12.cell? ⟨gb431, 1, none⟩ = some (.int .i64 a0_1) := (kQC BK431.out 1).trans rfl; have hcz13_2 : w12.cell? ⟨gb431, 2, none⟩ = some (.int .i64 a0_2) := (kQC BK431.out 2).trans rfl; have hcz13_3 : w12.cell? ⟨gb431, 3, none⟩ = some (.int .i64 a0_3) := (kQC BK431.out 3).trans rfl; have hcz13_4 : w12.cell? ⟨gb431, 4, none⟩ = some (.slice A0_4 l0_4.length c0_4) := (kQC BK431.out 4).trans rfl; have hcz13_5 : w12.cell? ⟨gb431, 5, none⟩ = some (.slice A0_5 l0_5.length c0_5) := (kQC BK431.out 5).trans rfl; have hfz13_0 := kQF BK431.out 0; have hfz13_1 := kQF BK431.out 1; have hfz13_2 := kQF BK431.out 2; have hfz13_3 := kQF BK431.out 3; have hfz13_4 := kQF BK431.out 4; have hfz13_5 := kQF BK431.out 5) | (go_at_call 68; (with_reducible refine (impl_within.calls a0_2 2 8 true _ A6.out).mono ?_); rintro e w' ⟨rfl, ⟨nd, rfl⟩⟩) | (go_at_call 68; (with_reducible refine (impl_within.calls a0_3 1 3 true _ A8.out).mono ?_); rintro e w' ⟨rfl, ⟨nd, rfl⟩⟩))
   go_meet
   case rel => exact ⟨_, (true), tS, H', ⟨tO⟩, ⟨tG BK431.out⟩, ⟨tB⟩⟩
  rw [if_neg c10] at H
  have c10b0 := decide_eq_false c10
  have c10b1 : decide (14 < l0_4.length) = false := decide_eq_false (by omega)
  clear c10
  (first | rw [c10b0] | (simp only [i64_w, i32_w]; rw [c10b0]) | skip)
  replace H' := Aq.mk H
  clear H
  have hcz14_0 : w3.cell? ⟨gb431, 0, none⟩ = some (.int .i64 a0_0) := (kQC BK431.out 0).trans rfl
  have hcz14_1 : w3.cell? ⟨gb431, 1, none⟩ = some (.int .i64 a0_1) := (kQC BK431.out 1).trans rfl
  have hcz14_2 : w3.cell? ⟨gb431, 2, none⟩ = some (.int .i64 a0_2) := (kQC BK431.out 2).trans rfl
  have hcz14_3 : w3.cell? ⟨gb431, 3, none⟩ = some (.int .i64 a0_3) := (kQC BK431.out 3).trans rfl
  have hcz14_4 : w3.cell? ⟨gb431, 4, none⟩ = some (.slice A0_4 l0_4.length c0_4) := (kQC BK431.out 4).trans rfl
  have hcz14_5 : w3.cell? ⟨gb431, 5, none⟩ = some (.slice A0_5 l0_5.length c0_5) := (kQC BK431.out 5).trans rfl
  have hfz14_0 := kQF BK431.out 0
  have hfz14_1 := kQF BK431.out 1
  have hfz14_2 := kQF BK431.out 2
  have hfz14_3 := kQF BK431.out 3
  have hfz14_4 := kQF BK431.out 4
  have hfz14_5 := kQF BK431.out 5
  go_wp2_with (first | ((with_reducible refine gQc (f := 67) rfl ?_); refine goesL_ (some 9) rfl rfl Try.func67 (by kernel_rfl) rfl #[.agg #[.int .i64 a0_0, .int .i64 a0_1]] rfl tL ?_; (with_reducible refine (impl_ValidField.calls k a0_0 a0_1 true _ A4.out).mono ?_); rintro e w15 ⟨rfl, hb⟩; refine ⟨_, rfl, ?_⟩; refine qM2 (tQ BK431.out hb) (bQT tB hb) ?_; clear BK431 HB; intro BK431 HB; (try clear hb); (try clear hb2); (try clear hk); (try clear hi); have hcz16_0 : w15.cell? ⟨gb431, 0, none⟩ = some (.int .i64 a0_0) := (kQC BK431.out 0).trans rfl; have hcz16_1 : w15.cell? ⟨gb431, 1, none⟩ = some (.int .i64 a0_1) := (kQC BK431.out 1).trans rfl; have hcz16_2 : w15.cell? ⟨gb431, 2, none⟩ = some (.int .i64 a0_2) := (kQC BK431.out 2).trans rfl; have hcz16_3 : w15.cell? ⟨gb431, 3, none⟩ = some (.int .i64 a0_3) := (kQC BK431.out 3).trans rfl; have hcz16_4 : w15.cell? ⟨gb431, 4, none⟩ = some (.slice A0_4 l0_4.length c0_4) := (kQC BK431.out 4).trans rfl; have hcz16_5 : w15.cell? ⟨gb431, 5, none⟩ = some (.slice A0_5 l0_5.length c0_5) := (kQC BK431.out 5).trans rfl; have hfz16_0 := kQF BK431.out 0; have hfz16_1 := kQF BK431.out 1; have hfz16_2 := kQF BK431.out 2; have hfz16_3 := kQF BK431.out 3; have hfz16_4 := kQF BK431.out 4; have hfz16_5 := kQF BK431.out 5) | (go_at_call 68; (with_reducible refine (impl_within.calls a0_2 2 8 true _ A6.out).mono ?_); rintro e w' ⟨rfl, ⟨nd, rfl⟩⟩) | (go_at_call 68; (with_reducible refine (impl_within.calls a0_3 1 3 true _ A8.out).mono ?_); rintro e w' ⟨rfl, ⟨nd, rfl⟩⟩))
  go_meet
  case rel => exact ⟨_, (((l0_5.length : Int) != (l0_4.length : Int))), tS, H', ⟨tO⟩, ⟨tG BK431.out⟩, ⟨tB⟩⟩
 clear HC2
 try clear c5
 try clear c7
 try clear c9
 try clear c10
 try clear c10b0
 try clear c10b1
 try clear hcz11_0
 try clear hcz11_1
 try clear hcz11_2
 try clear hcz11_3
 try clear hcz11_4
 try clear hcz11_5
 try clear hcz13_0
 try clear hcz13_1
 try clear hcz13_2
 try clear hcz13_3
 try clear hcz13_4
 try clear hcz13_5
 try clear hcz14_0
 try clear hcz14_1
 try clear hcz14_2
 try clear hcz14_3
 try clear hcz14_4
 try clear hcz14_5
 try clear hcz16_0
 try clear hcz16_1
 try clear hcz16_2
 try clear hcz16_3
 try clear hcz16_4
 try clear hcz16_5
 try clear hcz17_0
 try clear hcz17_1
 try clear hcz17_2
 try clear hcz17_3
 try clear hcz17_4
 try clear hcz17_5
 try clear hcz19_0
 try clear hcz19_1
 try clear hcz19_2
 try clear hcz19_3
 try clear hcz19_4
 try clear hcz19_5
 try clear hcz20_0
 try clear hcz20_1
 try clear hcz20_2
 try clear hcz20_3
 try clear hcz20_4
 try clear hcz20_5
 try clear hcz22_0
 try clear hcz22_1
 try clear hcz22_2
 try clear hcz22_3
 try clear hcz22_4
 try clear hcz22_5
 try clear hcz23_0
 try clear hcz23_1
 try clear hcz23_2
 try clear hcz23_3
 try clear hcz23_4
 try clear hcz23_5
 try clear hfz11_0
 try clear hfz11_1
 try clear hfz11_2
 try clear hfz11_3
 try clear hfz11_4
 try clear hfz11_5
 try clear hfz13_0
 try clear hfz13_1
 try clear hfz13_2
 try clear hfz13_3
 try clear hfz13_4
 try clear hfz13_5
 try clear hfz14_0
 try clear hfz14_1
 try clear hfz14_2
 try clear hfz14_3
 try clear hfz14_4
 try clear hfz14_5
 try clear hfz16_0
 try clear hfz16_1
 try clear hfz16_2
 try clear hfz16_3
 try clear hfz16_4
 try clear hfz16_5
 try clear hfz17_0
 try clear hfz17_1
 try clear hfz17_2
 try clear hfz17_3
 try clear hfz17_4
 try clear hfz17_5
 try clear hfz19_0
 try clear hfz19_1
 try clear hfz19_2
 try clear hfz19_3
 try clear hfz19_4
 try clear hfz19_5
 try clear hfz20_0
 try clear hfz20_1
 try clear hfz20_2
 try clear hfz20_3
 try clear hfz20_4
 try clear hfz20_5
 try clear hfz22_0
 try clear hfz22_1
 try clear hfz22_2
 try clear hfz22_3
 try clear hfz22_4
 try clear hfz22_5
 try clear hfz23_0
 try clear hfz23_1
 try clear hfz23_2
 try clear hfz23_3
 try clear hfz23_4
 try clear hfz23_5
 obtain ⟨kq, x37_1, rfl, HA, HJ1, BK431, HB⟩ := hcut
 cases kq with
 | zero => exact absurd HA.out (by simp [impl_ValidNet.j0])
 | succ kj1 =>
  have H := HA.out
  clear HA
  simp only [impl_ValidNet.j0] at H
  by_cases c25 : x37_1 = true
  ·subst c25
   rw [if_pos rfl] at H
   obtain rfl := Option.some.inj H
   go_wp2
   go_ret
   exact ⟨tE, tB⟩
  replace c25 := Bool.eq_false_iff.mpr c25
  subst c25
  rw [if_neg (show ¬ (false = true) by decide)] at H
  replace H' := Aq.mk H
  clear H
  have hcz26_0 : wc.cell? ⟨gb431, 0, none⟩ = some (.int .i64 a0_0) := (kQC BK431.out 0).trans rfl
  have hcz26_1 : wc.cell? ⟨gb431, 1, none⟩ = some (.int .i64 a0_1) := (kQC BK431.out 1).trans rfl
  have hcz26_2 : wc.cell? ⟨gb431, 2, none⟩ = some (.int .i64 a0_2) := (kQC BK431.out 2).trans rfl
  have hcz26_3 : wc.cell? ⟨gb431, 3, none⟩ = some (.int .i64 a0_3) := (kQC BK431.out 3).trans rfl
  have hcz26_4 : wc.cell? ⟨gb431, 4, none⟩ = some (.slice A0_4 l0_4.length c0_4) := (kQC BK431.out 4).trans rfl
  have hcz26_5 : wc.cell? ⟨gb431, 5, none⟩ = some (.slice A0_5 l0_5.length c0_5) := (kQC BK431.out 5).trans rfl
  have hfz26_0 := kQF BK431.out 0
  have hfz26_1 := kQF BK431.out 1
  have hfz26_2 := kQF BK431.out 2
  have hfz26_3 := kQF BK431.out 3
  have hfz26_4 := kQF BK431.out 4
  have hfz26_5 := kQF BK431.out 5
  go_wp2
  go_loopg [41] kj1 (fun kq v41 w' => ∃ (x41_2 : Int), v41 = .int .i64 x41_2 ∧ Aq (impl_ValidNet.l0 kq l0_4 (l0_4.length : Int) x41_2 a0_0 a0_1 a0_2 a0_3 l0_4 l0_5 = some r) ∧ Aq (kq ≤ kj1) ∧ Aq (w'.heap[gb431]? = some (.cells #[.int .i64 a0_0, .int .i64 a0_1, .int .i64 a0_2, .int .i64 a0_3, (.slice A0_4 l0_4.length c0_4), (.slice A0_5 l0_5.length c0_5)] 42 (0, 0))) ∧ Aq (Below w.heap.size w w'))
  case atStart => exact ⟨(0), tS, H', ⟨Nat.le_refl _⟩, ⟨tG BK431.out⟩, ⟨tB⟩⟩
  clear H'
  try clear c5
  try clear c7
  try clear c9
  try clear c10
  try clear c10b0
  try clear c10b1
  try clear c25
  try clear hcz11_0
  try clear hcz11_1
  try clear hcz11_2
  try clear hcz11_3
  try clear hcz11_4
  try clear hcz11_5
  try clear hcz13_0
  try clear hcz13_1
  try clear hcz13_2
  try clear hcz13_3
  try clear hcz13_4
  try clear hcz13_5
  try clear hcz14_0
  try clear hcz14_1
  try clear hcz14_2
  try clear hcz14_3
  try clear hcz14_4
  try clear hcz14_5
  try clear hcz16_0
  try clear hcz16_1
  try clear hcz16_2
  try clear hcz16_3
  try clear hcz16_4
  try clear hcz16_5
  try clear hcz17_0
  try clear hcz17_1
  try clear hcz17_2
  try clear hcz17_3
  try clear hcz17_4
  try clear hcz17_5
  try clear hcz19_0
  try clear hcz19_1
  try clear hcz19_2
  try clear hcz19_3
  try clear hcz19_4
  try clear hcz19_5
  try clear hcz20_0
  try clear hcz20_1
  try clear hcz20_2
  try clear hcz20_3
  try clear hcz20_4
  try clear hcz20_5
  try clear hcz22_0
  try clear hcz22_1
  try clear hcz22_2
  try clear hcz22_3
  try clear hcz22_4
  try clear hcz22_5
  try clear hcz23_0
  try clear hcz23_1
  try clear hcz23_2
  try clear hcz23_3
  try clear hcz23_4
  try clear hcz23_5
  try clear hcz26_0
  try clear hcz26_1
  try clear hcz26_2
  try clear hcz26_3
  try clear hcz26_4
  try clear hcz26_5
  try clear hfz11_0
  try clear hfz11_1
  try clear hfz11_2
  try clear hfz11_3
  try clear hfz11_4
  try clear hfz11_5
  try clear hfz13_0
  try clear hfz13_1
  try clear hfz13_2
  try clear hfz13_3
  try clear hfz13_4
  try clear hfz13_5
  try clear hfz14_0
  try clear hfz14_1
  try clear hfz14_2
  try clear hfz14_3
  try clear hfz14_4
  try clear hfz14_5
  try clear hfz16_0
  try clear hfz16_1
  try clear hfz16_2
  try clear hfz16_3
  try clear hfz16_4
  try clear hfz16_5
  try clear hfz17_0
  try clear hfz17_1
  try clear hfz17_2
  try clear hfz17_3
  try clear hfz17_4
  try clear hfz17_5
  try clear hfz19_0
  try clear hfz19_1
  try clear hfz19_2
  try clear hfz19_3
  try clear hfz19_4
  try clear hfz19_5
  try clear hfz20_0
  try clear hfz20_1
  try clear hfz20_2
  try clear hfz20_3
  try clear hfz20_4
  try clear hfz20_5
  try clear hfz22_0
  try clear hfz22_1
  try clear hfz22_2
  try clear hfz22_3
  try clear hfz22_4
  try clear hfz22_5
  try clear hfz23_0
  try clear hfz23_1
  try clear hfz23_2
  try clear hfz23_3
  try clear hfz23_4
  try clear hfz23_5
  try clear hfz26_0
  try clear hfz26_1
  try clear hfz26_2
  try clear hfz26_3
  try clear hfz26_4
  try clear hfz26_5
  obtain ⟨x41_2, rfl, HA, HK2, BK431, HB⟩ := hrel
  cases gk with
  | zero => exact absurd HA.out (by simp [impl_ValidNet.l0])
  | succ k2 =>
   have H := HA.out
   clear HA
   simp only [impl_ValidNet.l0] at H
   by_cases c27 : x41_2 < (l0_4.length : Int)
   rotate_left
   ·rw [if_neg c27] at H
    have c27b0 := decide_eq_false c27
    clear c27
    replace H' := Aq.mk H
    clear H
    have hcz62_0 : wr.cell? ⟨gb431, 0, none⟩ = some (.int .i64 a0_0) := (kQC BK431.out 0).trans rfl
    have hcz62_1 : wr.cell? ⟨gb431, 1, none⟩ = some (.int .i64 a0_1) := (kQC BK431.out 1).trans rfl
    have hcz62_2 : wr.cell? ⟨gb431, 2, none⟩ = some (.int .i64 a0_2) := (kQC BK431.out 2).trans rfl
    have hcz62_3 : wr.cell? ⟨gb431, 3, none⟩ = some (.int .i64 a0_3) := (kQC BK431.out 3).trans rfl
    have hcz62_4 : wr.cell? ⟨gb431, 4, none⟩ = some (.slice A0_4 l0_4.length c0_4) := (kQC BK431.out 4).trans rfl
    have hcz62_5 : wr.cell? ⟨gb431, 5, none⟩ = some (.slice A0_5 l0_5.length c0_5) := (kQC BK431.out 5).trans rfl
    have hfz62_0 := kQF BK431.out 0
    have hfz62_1 := kQF BK431.out 1
    have hfz62_2 := kQF BK431.out 2
    have hfz62_3 := kQF BK431.out 3
    have hfz62_4 := kQF BK431.out 4
    have hfz62_5 := kQF BK431.out 5
    go_wp2
    go_loopg [96] k2 (fun kq v96 w' => ∃ (x96_3 : Int), v96 = .int .i64 x96_3 ∧ Aq (impl_ValidNet.l1 kq l0_5 (l0_5.length : Int) x96_3 a0_0 a0_1 a0_2 a0_3 l0_4 l0_5 = some r) ∧ Aq (kq ≤ k2) ∧ Aq (w'.heap[gb431]? = some (.cells #[.int .i64 a0_0, .int .i64 a0_1, .int .i64 a0_2, .int .i64 a0_3, (.slice A0_4 l0_4.length c0_4), (.slice A0_5 l0_5.length c0_5)] 42 (0, 0))) ∧ Aq (Below w.heap.size w w'))
    case atStart => exact ⟨(0), tS, H', ⟨Nat.le_refl _⟩, ⟨tG BK431.out⟩, ⟨tB⟩⟩
    clear H'
    try clear c27
    try clear c27b0
    try clear c28
    try clear c29
    try clear c30
    try clear c30b0
    try clear c30b1
    try clear c31
    try clear c33
    try clear c43
    try clear hcz62_0
    try clear hcz62_1
    try clear hcz62_2
    try clear hcz62_3
    try clear hcz62_4
    try clear hcz62_5
    try clear hfz62_0
    try clear hfz62_1
    try clear hfz62_2
    try clear hfz62_3
    try clear hfz62_4
    try clear hfz62_5
    try clear hx435_0
    try clear hx436_0
    try clear p435
    try clear p436
    try clear q435
    try clear q436
    obtain ⟨x96_3, rfl, HA, HK3, BK431, HB⟩ := hrel
    cases gk with
    | zero => exact absurd HA.out (by simp [impl_ValidNet.l1])
    | succ k3 =>
     have H := HA.out
     clear HA
     simp only [impl_ValidNet.l1] at H
     by_cases c63 : x96_3 < (l0_5.length : Int)
     rotate_left
     ·rw [if_neg c63] at H
      have c63b0 := decide_eq_false c63
      clear c63
      obtain rfl := Option.some.inj H
      go_wp2
      go_ret
      exact ⟨tE, tB⟩
     rw [if_pos c63] at H
     have c63b0 := decide_eq_true c63
     clear c63
     by_cases c64 : 0 ≤ x96_3
     rotate_left
     ·rw [if_neg c64] at H
      exact absurd H (by simp)
     rw [if_pos c64] at H
     have c64b0 := decide_eq_true c64
     clear c64
     by_cases c65 : x96_3 < (l0_5.length : Int)
     rotate_left
     ·rw [if_neg c65] at H
      exact absurd H (by simp)
     rw [if_pos c65] at H
     have c65b0 := decide_eq_true c65
     clear c65
     obtain ⟨t446, A66, H⟩ := qBd H
     by_cases c67 : x96_3 < (l0_4.length : Int)
     rotate_left
     ·rw [if_neg c67] at H
      exact absurd H (by simp)
     rw [if_pos c67] at H
     have c67b0 := decide_eq_true c67
     clear c67
     by_cases c68 : 0 < ((rd_L1 l0_4 x96_3).length : Int)
     rotate_left
     ·rw [if_neg c68] at H
      exact absurd H (by simp)
     rw [if_pos c68] at H
     have c68b0 := decide_eq_true c68
     have c68b1 : decide (0 < (rd_L1 l0_4 x96_3).length) = true := decide_eq_true (by omega)
     clear c68
     obtain ⟨t449, A69, H⟩ := qBd H
     by_cases c70 : t446 = t449
     rotate_left
     ·rw [if_neg c70] at H
      have c70b0 := beq_eq_false_iff_ne.mpr c70
      have c70b1 := bne_iff_ne.mpr c70
      obtain rfl := Option.some.inj H
      have p445 : 0 ≤ (x96_3 : Int) := of_decide_eq_true tA
      have q445 : x96_3 < (l0_5.length : Int) := of_decide_eq_true tA
      obtain ⟨ad445, A445_0, c445_0, e445, hx445_0, hl445_0, hi445_0⟩ := at_L1 HR0_5.out x96_3 p445 q445
      cases e445
      replace hx445_0 := (HB.out.cell (World.block_lt_of_cell? w _ hx445_0)).trans hx445_0
      have HR445_0 := Aq.mk hi445_0
      have HC445_0 := Aq.mk hl445_0
      clear hi445_0 hl445_0
      replace p445 := eq_true p445
      replace q445 := eq_true q445
      try go_wp2
      have n0_ := Aq.mk (kQD BK431.out)
      have n1_ := Aq.mk (bQ1 HB.out)
      clear BK431
      clear HB
      have BK431 := n0_
      have HB := n1_
      clear n0_ n1_
      have p447 : 0 ≤ (x96_3 : Int) := of_decide_eq_true tA
      have q447 : x96_3 < (l0_4.length : Int) := of_decide_eq_true tA
      obtain ⟨ad447, A447_0, c447_0, e447, hx447_0, hl447_0, hi447_0⟩ := at_L1 HR0_4.out x96_3 p447 q447
      have hw447_0 := hx447_0
      cases e447
      replace hx447_0 := (HB.out.cell (World.block_lt_of_cell? w _ hx447_0)).trans hx447_0
      have HR447_0 := Aq.mk hi447_0
      have HC447_0 := Aq.mk hl447_0
      clear hi447_0 hl447_0
      replace p447 := eq_true p447
      replace q447 := eq_true q447
      have p448 : 0 ≤ (0 : Int) := (by omega)
      have q448 : 0 < ((rd_L1 l0_4 x96_3).length : Int) := of_decide_eq_true tA
      obtain ⟨ad448, e448, hx448_0⟩ := Kd.at_int HR447_0.out 0 p448 q448
      have hw448_0 := hx448_0
      (try rw [show ((0 : Int)).toNat = 0 from rfl] at hw448_0)
      (try rw [show 0 * 1 = 0 from rfl] at hw448_0)
      (try rw [Addr.add_zero'] at hw448_0)
      cases e448
      have qi448 : (0 < (rd_L1 l0_4 x96_3).length) = True := eq_true (by omega)
      (try rw [show ((0 : Int)).toNat = 0 from rfl] at hx448_0)
      (try rw [Addr.add_zero'] at hx448_0)
      replace hx448_0 := (HB.out.cell (World.block_lt_of_cell? w _ hx448_0)).trans hx448_0
      replace p448 := eq_true p448
      replace q448 := eq_true q448
      refine start_ (n := 19) (S := fun w' => w'.cell? ⟨gb431, 0, none⟩ = some (.int .i64 a0_0) ∧ w'.cell? ⟨gb431, 1, none⟩ = some (.int .i64 a0_1) ∧ w'.cell? ⟨gb431, 2, none⟩ = some (.int .i64 a0_2) ∧ w'.cell? ⟨gb431, 3, none⟩ = some (.int .i64 a0_3) ∧ w'.cell? ⟨gb431, 4, none⟩ = some (.slice (some ad447) l0_4.length c0_4) ∧ w'.cell? ⟨gb431, 5, none⟩ = some (.slice (some ad445) l0_5.length c0_5) ∧ w'.cell? (ad447.add (x96_3).toNat) = some (.slice (some ad448) (rd_L1 l0_4 x96_3).length c447_0) ∧ w'.cell? ad448 = some (.int .i64 (rd (rd_L1 l0_4 x96_3) 0))) (ds := []) #[false, false, false, false, false, false, false, false, false, false, false, false, false, false, false, false, false, false, false] (by kernel_rfl) rfl rfl ⟨(kQC BK431.out 0).trans rfl, (kQC BK431.out 1).trans rfl, (kQC BK431.out 2).trans rfl, (kQC BK431.out 3).trans rfl, (kQC BK431.out 4).trans rfl, (kQC BK431.out 5).trans rfl, (tcw tB hw447_0), (tcw tB hw448_0)⟩ (fun hHeld => ?_); refine with_tabW impl_ValidNet.tab12 impl_ValidNet.bits12 (fun HT_ HW_ => ?_)
      generalize wr.drew = w79 at BK431 HB HR447_0 hx447_0 hx448_0 hHeld ⊢
      refine tP0 0 101 (bm 19 1) ?_
      refine tP0 3 104 (bm 19 9) ?_
      refine tP0 5 106 (bm 19 41) ?_
      refine tT8 2 103 (bm 19 45) ?_
      refine tT8 4 105 (bm 19 61) ?_
      refine tP0 6 107 (bm 19 125) ?_
      refine tT8 7 108 (bm 19 253) ?_
      refine tP0 8 109 (bm 19 509) ?_
      refine tT8 9 110 (bm 19 1021) ?_
      refine one_ (i := 1) (N := some 102) (bm 19 1023) rfl rfl (one_of HT_.out (by kernel_rfl)) (by decide) (fun K hK => ?_)
      refine goes_ Try.func71 (by kernel_rfl) rfl #[.slice A445_0 (rd_L1 l0_5 x96_3).length c445_0] (by rfl) rfl rfl tL ?_
      with_reducible refine (impl_size_int64_71.calls _ _ (rd_L1 l0_5 x96_3) t446 _ ?s1 ?s2 A66.out).mono ?_
      (case s1 => exact tC ((Kd.C_below HR445_0.out HB.out)))
      (case s2 => exact HC445_0.out)
      rintro e w' ⟨rfl, ⟨nd, rfl⟩⟩
      refine ⟨_, rfl, ?_⟩
      refine hK.out _ _ ⟨(kQC BK431.out 0).trans rfl, (kQC BK431.out 1).trans rfl, (kQC BK431.out 2).trans rfl, (kQC BK431.out 3).trans rfl, (kQC BK431.out 4).trans rfl, (kQC BK431.out 5).trans rfl, (tcw tB hw447_0), (tcw tB hw448_0)⟩ (fun hHeld => ?_)
      clear hK K
      refine tN 102 ?_
      refine one_ (i := 10) (N := some 111) (bm 19 2047) rfl rfl (one_of HT_.out (by kernel_rfl)) (by decide) (fun K hK => ?_)
      refine goes_ Try.func109 (by kernel_rfl) rfl #[.agg #[.int .i64 a0_0, .int .i64 a0_1, .int .i64 a0_2, .int .i64 a0_3, .slice (some ad447) l0_4.length c0_4, .slice (some ad445) l0_5.length c0_5], .int .i64 (rd (rd_L1 l0_4 x96_3) 0)] (by rfl) rfl rfl tL ?_
      with_reducible refine (impl_Net_has.calls k3 a0_0 a0_1 a0_2 a0_3 _ _ l0_4 _ _ l0_5 (rd (rd_L1 l0_4 x96_3) 0) t449 _ ?s1 ?s2 ?s3 ?s4 A69.out).mono ?_
      (case s1 => exact tC ((Kd.C_below HR0_4.out tB)))
      (case s2 => exact HC0_4.out)
      (case s3 => exact tC ((Kd.C_below HR0_5.out tB)))
      (case s4 => exact HC0_5.out)
      rintro e w80 ⟨rfl, hb⟩
      refine ⟨_, rfl, ?_⟩
      have n0_ := Aq.mk (tQ BK431.out hb)
      have n1_ := Aq.mk (bQT tB hb)
      clear BK431
      clear HB
      have BK431 := n0_
      have HB := n1_
      clear n0_ n1_
      (try clear hb)
      (try clear hb2)
      (try clear hk)
      (try clear hi)
      refine hK.out _ _ ⟨(kQC BK431.out 0).trans rfl, (kQC BK431.out 1).trans rfl, (kQC BK431.out 2).trans rfl, (kQC BK431.out 3).trans rfl, (kQC BK431.out 4).trans rfl, (kQC BK431.out 5).trans rfl, (tcw tB hw447_0), (tcw tB hw448_0)⟩ (fun hHeld => ?_)
      clear hK K
      refine tN 111 ?_
      refine tP0 11 112 (bm 19 4095) ?_
      refine tP0 12 113 (bm 19 8191) ?_
      refine pure_ (i := 13) (N := some 114) (v := undef) (a' := ?_) #[true, true, true, true, true, true, true, true, true, true, true, true, true, true, false, false, false, false, false] rfl rfl (any_of HT_.out (by kernel_rfl)) (fun _ _ _ h => h) (Or.inr ⟨by rfl, rfl⟩) ?_ ?_
      rotate_left
      ·simp only [Act.put, qSa, qSb, qSc, i64_w, i32_w]
       rfl
      refine pure_ (i := 14) (N := some 115) (v := undef) (a' := ?_) #[true, true, true, true, true, true, true, true, true, true, true, true, true, true, true, false, false, false, false] rfl rfl (any_of HT_.out (by kernel_rfl)) (fun _ _ _ h => h) (Or.inr ⟨by rfl, rfl⟩) ?_ ?_
      rotate_left
      ·simp only [Act.put, qSa, qSb, qSc, i64_w, i32_w]
       rfl
      refine pure_ (i := 15) (N := some 116) (v := undef) (a' := ?_) #[true, true, true, true, true, true, true, true, true, true, true, true, true, true, true, true, false, false, false] rfl rfl (any_of HT_.out (by kernel_rfl)) (fun _ _ _ h => h) (Or.inr ⟨by rfl, rfl⟩) ?_ ?_
      rotate_left
      ·simp only [Act.put, qSa, qSb, qSc, i64_w, i32_w]
       rfl
      refine pure_ (i := 16) (N := some 117) (v := undef) (a' := ?_) #[true, true, true, true, true, true, true, true, true, true, true, true, true, true, true, true, true, false, false] rfl rfl (any_of HT_.out (by kernel_rfl)) (fun _ _ _ h => h) (Or.inr ⟨by rfl, rfl⟩) ?_ ?_
      rotate_left
      ·simp only [Act.put, qSa, qSb, qSc, i64_w, i32_w]
       rfl
      refine pure_ (i := 17) (N := some 118) (v := undef) (a' := ?_) #[true, true, true, true, true, true, true, true, true, true, true, true, true, true, true, true, true, true, false] rfl rfl (any_of HT_.out (by kernel_rfl)) (fun _ _ _ h => h) (Or.inr ⟨by rfl, rfl⟩) ?_ ?_
      rotate_left
      ·simp only [Act.put, qSa, qSb, qSc, i64_w, i32_w]
       rfl
      refine tP0 18 119 (bm 19 524287) ?_
      refine done_ (done_of HT_.out (by kernel_rfl)) ?_
      try go_wp2
      go_ret
      exact ⟨tE, tB⟩
     rw [if_pos c70] at H
     have c70b0 := beq_iff_eq.mpr c70
     have c70b1 := bne_eq_false_iff_eq.mpr c70
     clear c70
     obtain ⟨t450, A71, H⟩ := qBd H
     by_cases c72 : t450 = true
     ·subst c72
      rw [if_pos rfl] at H
      replace H' := Aq.mk H
      clear H
      have p445 : 0 ≤ (x96_3 : Int) := of_decide_eq_true tA
      have q445 : x96_3 < (l0_5.length : Int) := of_decide_eq_true tA
      obtain ⟨ad445, A445_0, c445_0, e445, hx445_0, hl445_0, hi445_0⟩ := at_L1 HR0_5.out x96_3 p445 q445
      cases e445
      replace hx445_0 := (HB.out.cell (World.block_lt_of_cell? w _ hx445_0)).trans hx445_0
      have HR445_0 := Aq.mk hi445_0
      have HC445_0 := Aq.mk hl445_0
      clear hi445_0 hl445_0
      replace p445 := eq_true p445
      replace q445 := eq_true q445
      try go_wp2
      have n0_ := Aq.mk (kQD BK431.out)
      have n1_ := Aq.mk (bQ1 HB.out)
      clear BK431
      clear HB
      have BK431 := n0_
      have HB := n1_
      clear n0_ n1_
      have p447 : 0 ≤ (x96_3 : Int) := of_decide_eq_true tA
      have q447 : x96_3 < (l0_4.length : Int) := of_decide_eq_true tA
      obtain ⟨ad447, A447_0, c447_0, e447, hx447_0, hl447_0, hi447_0⟩ := at_L1 HR0_4.out x96_3 p447 q447
      have hw447_0 := hx447_0
      cases e447
      replace hx447_0 := (HB.out.cell (World.block_lt_of_cell? w _ hx447_0)).trans hx447_0
      have HR447_0 := Aq.mk hi447_0
      have HC447_0 := Aq.mk hl447_0
      clear hi447_0 hl447_0
      replace p447 := eq_true p447
      replace q447 := eq_true q447
      have p448 : 0 ≤ (0 : Int) := (by omega)
      have q448 : 0 < ((rd_L1 l0_4 x96_3).length : Int) := of_decide_eq_true tA
      obtain ⟨ad448, e448, hx448_0⟩ := Kd.at_int HR447_0.out 0 p448 q448
      have hw448_0 := hx448_0
      (try rw [show ((0 : Int)).toNat = 0 from rfl] at hw448_0)
      (try rw [show 0 * 1 = 0 from rfl] at hw448_0)
      (try rw [Addr.add_zero'] at hw448_0)
      cases e448
      have qi448 : (0 < (rd_L1 l0_4 x96_3).length) = True := eq_true (by omega)
      (try rw [show ((0 : Int)).toNat = 0 from rfl] at hx448_0)
      (try rw [Addr.add_zero'] at hx448_0)
      replace hx448_0 := (HB.out.cell (World.block_lt_of_cell? w _ hx448_0)).trans hx448_0
      replace p448 := eq_true p448
      replace q448 := eq_true q448
      refine start_ (n := 19) (S := fun w' => w'.cell? ⟨gb431, 0, none⟩ = some (.int .i64 a0_0) ∧ w'.cell? ⟨gb431, 1, none⟩ = some (.int .i64 a0_1) ∧ w'.cell? ⟨gb431, 2, none⟩ = some (.int .i64 a0_2) ∧ w'.cell? ⟨gb431, 3, none⟩ = some (.int .i64 a0_3) ∧ w'.cell? ⟨gb431, 4, none⟩ = some (.slice (some ad447) l0_4.length c0_4) ∧ w'.cell? ⟨gb431, 5, none⟩ = some (.slice (some ad445) l0_5.length c0_5) ∧ w'.cell? (ad447.add (x96_3).toNat) = some (.slice (some ad448) (rd_L1 l0_4 x96_3).length c447_0) ∧ w'.cell? ad448 = some (.int .i64 (rd (rd_L1 l0_4 x96_3) 0))) (ds := []) #[false, false, false, false, false, false, false, false, false, false, false, false, false, false, false, false, false, false, false] (by kernel_rfl) rfl rfl ⟨(kQC BK431.out 0).trans rfl, (kQC BK431.out 1).trans rfl, (kQC BK431.out 2).trans rfl, (kQC BK431.out 3).trans rfl, (kQC BK431.out 4).trans rfl, (kQC BK431.out 5).trans rfl, (tcw tB hw447_0), (tcw tB hw448_0)⟩ (fun hHeld => ?_); refine with_tabW impl_ValidNet.tab12 impl_ValidNet.bits12 (fun HT_ HW_ => ?_)
      generalize wr.drew = w73 at BK431 HB HR447_0 hx447_0 hx448_0 hHeld ⊢
      refine tP0 0 101 (bm 19 1) ?_
      refine tP0 3 104 (bm 19 9) ?_
      refine tP0 5 106 (bm 19 41) ?_
      refine tT8 2 103 (bm 19 45) ?_
      refine tT8 4 105 (bm 19 61) ?_
      refine tP0 6 107 (bm 19 125) ?_
      refine tT8 7 108 (bm 19 253) ?_
      refine tP0 8 109 (bm 19 509) ?_
      refine tT8 9 110 (bm 19 1021) ?_
      refine one_ (i := 1) (N := some 102) (bm 19 1023) rfl rfl (one_of HT_.out (by kernel_rfl)) (by decide) (fun K hK => ?_)
      refine goes_ Try.func71 (by kernel_rfl) rfl #[.slice A445_0 (rd_L1 l0_5 x96_3).length c445_0] (by rfl) rfl rfl tL ?_
      with_reducible refine (impl_size_int64_71.calls _ _ (rd_L1 l0_5 x96_3) t446 _ ?s1 ?s2 A66.out).mono ?_
      (case s1 => exact tC ((Kd.C_below HR445_0.out HB.out)))
      (case s2 => exact HC445_0.out)
      rintro e w' ⟨rfl, ⟨nd, rfl⟩⟩
      refine ⟨_, rfl, ?_⟩
      refine hK.out _ _ ⟨(kQC BK431.out 0).trans rfl, (kQC BK431.out 1).trans rfl, (kQC BK431.out 2).trans rfl, (kQC BK431.out 3).trans rfl, (kQC BK431.out 4).trans rfl, (kQC BK431.out 5).trans rfl, (tcw tB hw447_0), (tcw tB hw448_0)⟩ (fun hHeld => ?_)
      clear hK K
      refine tN 102 ?_
      refine one_ (i := 10) (N := some 111) (bm 19 2047) rfl rfl (one_of HT_.out (by kernel_rfl)) (by decide) (fun K hK => ?_)
      refine goes_ Try.func109 (by kernel_rfl) rfl #[.agg #[.int .i64 a0_0, .int .i64 a0_1, .int .i64 a0_2, .int .i64 a0_3, .slice (some ad447) l0_4.length c0_4, .slice (some ad445) l0_5.length c0_5], .int .i64 (rd (rd_L1 l0_4 x96_3) 0)] (by rfl) rfl rfl tL ?_
      with_reducible refine (impl_Net_has.calls k3 a0_0 a0_1 a0_2 a0_3 _ _ l0_4 _ _ l0_5 (rd (rd_L1 l0_4 x96_3) 0) t449 _ ?s1 ?s2 ?s3 ?s4 A69.out).mono ?_
      (case s1 => exact tC ((Kd.C_below HR0_4.out tB)))
      (case s2 => exact HC0_4.out)
      (case s3 => exact tC ((Kd.C_below HR0_5.out tB)))
      (case s4 => exact HC0_5.out)
      rintro e w74 ⟨rfl, hb⟩
      refine ⟨_, rfl, ?_⟩
      have n0_ := Aq.mk (tQ BK431.out hb)
      have n1_ := Aq.mk (bQT tB hb)
      clear BK431
      clear HB
      have BK431 := n0_
      have HB := n1_
      clear n0_ n1_
      (try clear hb)
      (try clear hb2)
      (try clear hk)
      (try clear hi)
      refine hK.out _ _ ⟨(kQC BK431.out 0).trans rfl, (kQC BK431.out 1).trans rfl, (kQC BK431.out 2).trans rfl, (kQC BK431.out 3).trans rfl, (kQC BK431.out 4).trans rfl, (kQC BK431.out 5).trans rfl, (tcw tB hw447_0), (tcw tB hw448_0)⟩ (fun hHeld => ?_)
      clear hK K
      refine tN 111 ?_
      refine tP0 11 112 (bm 19 4095) ?_
      refine tP0 12 113 (bm 19 8191) ?_
      refine tP0 13 114 (bm 19 16383) ?_
      refine tP0 15 116 (bm 19 49151) ?_
      refine tT8 14 115 (bm 19 65535) ?_
      refine one_ (i := 16) (N := some 117) (bm 19 131071) rfl rfl (one_of HT_.out (by kernel_rfl)) (by decide) (fun K hK => ?_)
      refine goes_ Try.func72 (by kernel_rfl) rfl #[.agg #[.int .i64 a0_0, .int .i64 a0_1], .slice A445_0 (rd_L1 l0_5 x96_3).length c445_0] (by rfl) rfl rfl tL ?_
      with_reducible refine (impl_Field_has.calls k3 a0_0 a0_1 _ _ (rd_L1 l0_5 x96_3) true _ ?s1 ?s2 A71.out).mono ?_
      (case s1 => exact tC ((Kd.C_below HR445_0.out HB.out)))
      (case s2 => exact HC445_0.out)
      rintro e w75 ⟨rfl, hb⟩
      refine ⟨_, rfl, ?_⟩
      have n0_ := Aq.mk (tQ BK431.out hb)
      have n1_ := Aq.mk (bQT tB hb)
      clear BK431
      clear HB
      have BK431 := n0_
      have HB := n1_
      clear n0_ n1_
      (try clear hb)
      (try clear hb2)
      (try clear hk)
      (try clear hi)
      refine hK.out _ _ ⟨(kQC BK431.out 0).trans rfl, (kQC BK431.out 1).trans rfl, (kQC BK431.out 2).trans rfl, (kQC BK431.out 3).trans rfl, (kQC BK431.out 4).trans rfl, (kQC BK431.out 5).trans rfl, (tcw tB hw447_0), (tcw tB hw448_0)⟩ (fun hHeld => ?_)
      clear hK K
      refine tN 117 ?_
      refine tP0 17 118 (bm 19 262143) ?_
      refine tP0 18 119 (bm 19 524287) ?_
      refine done_ (done_of HT_.out (by kernel_rfl)) ?_
      try go_wp2
      go_roundg k3
      case measure => have := HJ1.out; have := HK2.out; have := HK3.out; omega
      case rel => exact ⟨(wrap64 (x96_3 + 1)), tS, H', ⟨by have := HJ1.out; have := HK2.out; have := HK3.out; omega⟩, ⟨tG BK431.out⟩, ⟨tB⟩⟩
     replace c72 := Bool.eq_false_iff.mpr c72
     subst c72
     rw [if_neg (show ¬ (false = true) by decide)] at H
     obtain rfl := Option.some.inj H
     have p445 : 0 ≤ (x96_3 : Int) := of_decide_eq_true tA
     have q445 : x96_3 < (l0_5.length : Int) := of_decide_eq_true tA
     obtain ⟨ad445, A445_0, c445_0, e445, hx445_0, hl445_0, hi445_0⟩ := at_L1 HR0_5.out x96_3 p445 q445
     cases e445
     replace hx445_0 := (HB.out.cell (World.block_lt_of_cell? w _ hx445_0)).trans hx445_0
     have HR445_0 := Aq.mk hi445_0
     have HC445_0 := Aq.mk hl445_0
     clear hi445_0 hl445_0
     replace p445 := eq_true p445
     replace q445 := eq_true q445
     try go_wp2
     have n0_ := Aq.mk (kQD BK431.out)
     have n1_ := Aq.mk (bQ1 HB.out)
     clear BK431
     clear HB
     have BK431 := n0_
     have HB := n1_
     clear n0_ n1_
     have p447 : 0 ≤ (x96_3 : Int) := of_decide_eq_true tA
     have q447 : x96_3 < (l0_4.length : Int) := of_decide_eq_true tA
     obtain ⟨ad447, A447_0, c447_0, e447, hx447_0, hl447_0, hi447_0⟩ := at_L1 HR0_4.out x96_3 p447 q447
     have hw447_0 := hx447_0
     cases e447
     replace hx447_0 := (HB.out.cell (World.block_lt_of_cell? w _ hx447_0)).trans hx447_0
     have HR447_0 := Aq.mk hi447_0
     have HC447_0 := Aq.mk hl447_0
     clear hi447_0 hl447_0
     replace p447 := eq_true p447
     replace q447 := eq_true q447
     have p448 : 0 ≤ (0 : Int) := (by omega)
     have q448 : 0 < ((rd_L1 l0_4 x96_3).length : Int) := of_decide_eq_true tA
     obtain ⟨ad448, e448, hx448_0⟩ := Kd.at_int HR447_0.out 0 p448 q448
     have hw448_0 := hx448_0
     (try rw [show ((0 : Int)).toNat = 0 from rfl] at hw448_0)
     (try rw [show 0 * 1 = 0 from rfl] at hw448_0)
     (try rw [Addr.add_zero'] at hw448_0)
     cases e448
     have qi448 : (0 < (rd_L1 l0_4 x96_3).length) = True := eq_true (by omega)
     (try rw [show ((0 : Int)).toNat = 0 from rfl] at hx448_0)
     (try rw [Addr.add_zero'] at hx448_0)
     replace hx448_0 := (HB.out.cell (World.block_lt_of_cell? w _ hx448_0)).trans hx448_0
     replace p448 := eq_true p448
     replace q448 := eq_true q448
     refine start_ (n := 19) (S := fun w' => w'.cell? ⟨gb431, 0, none⟩ = some (.int .i64 a0_0) ∧ w'.cell? ⟨gb431, 1, none⟩ = some (.int .i64 a0_1) ∧ w'.cell? ⟨gb431, 2, none⟩ = some (.int .i64 a0_2) ∧ w'.cell? ⟨gb431, 3, none⟩ = some (.int .i64 a0_3) ∧ w'.cell? ⟨gb431, 4, none⟩ = some (.slice (some ad447) l0_4.length c0_4) ∧ w'.cell? ⟨gb431, 5, none⟩ = some (.slice (some ad445) l0_5.length c0_5) ∧ w'.cell? (ad447.add (x96_3).toNat) = some (.slice (some ad448) (rd_L1 l0_4 x96_3).length c447_0) ∧ w'.cell? ad448 = some (.int .i64 (rd (rd_L1 l0_4 x96_3) 0))) (ds := []) #[false, false, false, false, false, false, false, false, false, false, false, false, false, false, false, false, false, false, false] (by kernel_rfl) rfl rfl ⟨(kQC BK431.out 0).trans rfl, (kQC BK431.out 1).trans rfl, (kQC BK431.out 2).trans rfl, (kQC BK431.out 3).trans rfl, (kQC BK431.out 4).trans rfl, (kQC BK431.out 5).trans rfl, (tcw tB hw447_0), (tcw tB hw448_0)⟩ (fun hHeld => ?_); refine with_tabW impl_ValidNet.tab12 impl_ValidNet.bits12 (fun HT_ HW_ => ?_)
     generalize wr.drew = w76 at BK431 HB HR447_0 hx447_0 hx448_0 hHeld ⊢
     refine tP0 0 101 (bm 19 1) ?_
     refine tP0 3 104 (bm 19 9) ?_
     refine tP0 5 106 (bm 19 41) ?_
     refine tT8 2 103 (bm 19 45) ?_
     refine tT8 4 105 (bm 19 61) ?_
     refine tP0 6 107 (bm 19 125) ?_
     refine tT8 7 108 (bm 19 253) ?_
     refine tP0 8 109 (bm 19 509) ?_
     refine tT8 9 110 (bm 19 1021) ?_
     refine one_ (i := 1) (N := some 102) (bm 19 1023) rfl rfl (one_of HT_.out (by kernel_rfl)) (by decide) (fun K hK => ?_)
     refine goes_ Try.func71 (by kernel_rfl) rfl #[.slice A445_0 (rd_L1 l0_5 x96_3).length c445_0] (by rfl) rfl rfl tL ?_
     with_reducible refine (impl_size_int64_71.calls _ _ (rd_L1 l0_5 x96_3) t446 _ ?s1 ?s2 A66.out).mono ?_
     (case s1 => exact tC ((Kd.C_below HR445_0.out HB.out)))
     (case s2 => exact HC445_0.out)
     rintro e w' ⟨rfl, ⟨nd, rfl⟩⟩
     refine ⟨_, rfl, ?_⟩
     refine hK.out _ _ ⟨(kQC BK431.out 0).trans rfl, (kQC BK431.out 1).trans rfl, (kQC BK431.out 2).trans rfl, (kQC BK431.out 3).trans rfl, (kQC BK431.out 4).trans rfl, (kQC BK431.out 5).trans rfl, (tcw tB hw447_0), (tcw tB hw448_0)⟩ (fun hHeld => ?_)
     clear hK K
     refine tN 102 ?_
     refine one_ (i := 10) (N := some 111) (bm 19 2047) rfl rfl (one_of HT_.out (by kernel_rfl)) (by decide) (fun K hK => ?_)
     refine goes_ Try.func109 (by kernel_rfl) rfl #[.agg #[.int .i64 a0_0, .int .i64 a0_1, .int .i64 a0_2, .int .i64 a0_3, .slice (some ad447) l0_4.length c0_4, .slice (some ad445) l0_5.length c0_5], .int .i64 (rd (rd_L1 l0_4 x96_3) 0)] (by rfl) rfl rfl tL ?_
     with_reducible refine (impl_Net_has.calls k3 a0_0 a0_1 a0_2 a0_3 _ _ l0_4 _ _ l0_5 (rd (rd_L1 l0_4 x96_3) 0) t449 _ ?s1 ?s2 ?s3 ?s4 A69.out).mono ?_
     (case s1 => exact tC ((Kd.C_below HR0_4.out tB)))
     (case s2 => exact HC0_4.out)
     (case s3 => exact tC ((Kd.C_below HR0_5.out tB)))
     (case s4 => exact HC0_5.out)
     rintro e w77 ⟨rfl, hb⟩
     refine ⟨_, rfl, ?_⟩
     have n0_ := Aq.mk (tQ BK431.out hb)
     have n1_ := Aq.mk (bQT tB hb)
     clear BK431
     clear HB
     have BK431 := n0_
     have HB := n1_
     clear n0_ n1_
     (try clear hb)
     (try clear hb2)
     (try clear hk)
     (try clear hi)
     refine hK.out _ _ ⟨(kQC BK431.out 0).trans rfl, (kQC BK431.out 1).trans rfl, (kQC BK431.out 2).trans rfl, (kQC BK431.out 3).trans rfl, (kQC BK431.out 4).trans rfl, (kQC BK431.out 5).trans rfl, (tcw tB hw447_0), (tcw tB hw448_0)⟩ (fun hHeld => ?_)
     clear hK K
     refine tN 111 ?_
     refine tP0 11 112 (bm 19 4095) ?_
     refine tP0 12 113 (bm 19 8191) ?_
     refine tP0 13 114 (bm 19 16383) ?_
     refine tP0 15 116 (bm 19 49151) ?_
     refine tT8 14 115 (bm 19 65535) ?_
     refine one_ (i := 16) (N := some 117) (bm 19 131071) rfl rfl (one_of HT_.out (by kernel_rfl)) (by decide) (fun K hK => ?_)
     refine goes_ Try.func72 (by kernel_rfl) rfl #[.agg #[.int .i64 a0_0, .int .i64 a0_1], .slice A445_0 (rd_L1 l0_5 x96_3).length c445_0] (by rfl) rfl rfl tL ?_
     with_reducible refine (impl_Field_has.calls k3 a0_0 a0_1 _ _ (rd_L1 l0_5 x96_3) false _ ?s1 ?s2 A71.out).mono ?_
     (case s1 => exact tC ((Kd.C_below HR445_0.out HB.out)))
     (case s2 => exact HC445_0.out)
     rintro e w78 ⟨rfl, hb⟩
     refine ⟨_, rfl, ?_⟩
     have n0_ := Aq.mk (tQ BK431.out hb)
     have n1_ := Aq.mk (bQT tB hb)
     clear BK431
     clear HB
     have BK431 := n0_
     have HB := n1_
     clear n0_ n1_
     (try clear hb)
     (try clear hb2)
     (try clear hk)
     (try clear hi)
     refine hK.out _ _ ⟨(kQC BK431.out 0).trans rfl, (kQC BK431.out 1).trans rfl, (kQC BK431.out 2).trans rfl, (kQC BK431.out 3).trans rfl, (kQC BK431.out 4).trans rfl, (kQC BK431.out 5).trans rfl, (tcw tB hw447_0), (tcw tB hw448_0)⟩ (fun hHeld => ?_)
     clear hK K
     refine tN 117 ?_
     refine tP0 17 118 (bm 19 262143) ?_
     refine tP0 18 119 (bm 19 524287) ?_
     refine done_ (done_of HT_.out (by kernel_rfl)) ?_
     try go_wp2
     go_ret
     exact ⟨tE, tB⟩
   rw [if_pos c27] at H
   have c27b0 := decide_eq_true c27
   clear c27
   by_cases c28 : 0 ≤ x41_2
   rotate_left
   ·rw [if_neg c28] at H
    exact absurd H (by simp)
   rw [if_pos c28] at H
   have c28b0 := decide_eq_true c28
   clear c28
   by_cases c29 : x41_2 < (l0_4.length : Int)
   rotate_left
   ·rw [if_neg c29] at H
    exact absurd H (by simp)
   rw [if_pos c29] at H
   have c29b0 := decide_eq_true c29
   clear c29
   by_cases c30 : ((rd_L1 l0_4 x41_2).length : Int) = 2
   rotate_left
   ·rw [if_neg c30] at H
    have c30b0 := beq_eq_false_iff_ne.mpr c30
    have c30b1 := bne_iff_ne.mpr c30
    obtain rfl := Option.some.inj H
    have p435 : 0 ≤ (x41_2 : Int) := of_decide_eq_true tA
    have q435 : x41_2 < (l0_4.length : Int) := of_decide_eq_true tA
    obtain ⟨ad435, A435_0, c435_0, e435, hx435_0, hl435_0, hi435_0⟩ := at_L1 HR0_4.out x41_2 p435 q435
    cases e435
    replace hx435_0 := (HB.out.cell (World.block_lt_of_cell? w _ hx435_0)).trans hx435_0
    have HR435_0 := Aq.mk hi435_0
    have HC435_0 := Aq.mk hl435_0
    clear hi435_0 hl435_0
    replace p435 := eq_true p435
    replace q435 := eq_true q435
    try go_wp2
    have n0_ := Aq.mk (kQD BK431.out)
    have n1_ := Aq.mk (bQ1 HB.out)
    clear BK431
    clear HB
    have BK431 := n0_
    have HB := n1_
    clear n0_ n1_
    refine start_ (n := 46) (S := fun w' => True) (ds := []) #[false, false, false, false, false, false, false, false, false, false, false, false, false, false, false, false, false, false, false, false, false, false, false, false, false, false, false, false, false, false, false, false, false, false, false, false, false, false, false, false, false, false, false, false, false, false] (by kernel_rfl) rfl rfl trivial (fun hHeld => ?_); refine with_tabW impl_ValidNet.tab6 impl_ValidNet.bits6 (fun HT_ HW_ => ?_)
    generalize wr.drew = w61 at BK431 HB hHeld ⊢
    refine tP0 0 46 (bm 46 1) ?_
    refine tP0 1 47 (bm 46 3) ?_
    refine tP0 2 48 (bm 46 7) ?_
    refine tP0 3 49 (bm 46 15) ?_
    refine pure_ (i := 4) (N := some 50) (v := undef) (a' := ?_) #[true, true, true, true, true, false, false, false, false, false, false, false, false, false, false, false, false, false, false, false, false, false, false, false, false, false, false, false, false, false, false, false, false, false, false, false, false, false, false, false, false, false, false, false, false, false] rfl rfl (any_of HT_.out (by kernel_rfl)) (fun _ _ _ h => h) (Or.inr ⟨by rfl, rfl⟩) ?_ ?_
    rotate_left
    ·simp only [Act.put, qSa, qSb, qSc, i64_w, i32_w]
     rfl
    refine pure_ (i := 5) (N := some 51) (v := undef) (a' := ?_) #[true, true, true, true, true, true, false, false, false, false, false, false, false, false, false, false, false, false, false, false, false, false, false, false, false, false, false, false, false, false, false, false, false, false, false, false, false, false, false, false, false, false, false, false, false, false] rfl rfl (any_of HT_.out (by kernel_rfl)) (fun _ _ _ h => h) (Or.inr ⟨by rfl, rfl⟩) ?_ ?_
    rotate_left
    ·simp only [Act.put, qSa, qSb, qSc, i64_w, i32_w]
     rfl
    refine pure_ (i := 6) (N := some 52) (v := undef) (a' := ?_) #[true, true, true, true, true, true, true, false, false, false, false, false, false, false, false, false, false, false, false, false, false, false, false, false, false, false, false, false, false, false, false, false, false, false, false, false, false, false, false, false, false, false, false, false, false, false] rfl rfl (any_of HT_.out (by kernel_rfl)) (fun _ _ _ h => h) (Or.inr ⟨by rfl, rfl⟩) ?_ ?_
    rotate_left
    ·simp only [Act.put, qSa, qSb, qSc, i64_w, i32_w]
     rfl
    refine pure_ (i := 7) (N := some 53) (v := undef) (a' := ?_) #[true, true, true, true, true, true, true, true, false, false, false, false, false, false, false, false, false, false, false, false, false, false, false, false, false, false, false, false, false, false, false, false, false, false, false, false, false, false, false, false, false, false, false, false, false, false] rfl rfl (any_of HT_.out (by kernel_rfl)) (fun _ _ _ h => h) (Or.inr ⟨by rfl, rfl⟩) ?_ ?_
    rotate_left
    ·simp only [Act.put, qSa, qSb, qSc, i64_w, i32_w]
     rfl
    refine pure_ (i := 8) (N := some 54) (v := undef) (a' := ?_) #[true, true, true, true, true, true, true, true, true, false, false, false, false, false, false, false, false, false, false, false, false, false, false, false, false, false, false, false, false, false, false, false, false, false, false, false, false, false, false, false, false, false, false, false, false, false] rfl rfl (any_of HT_.out (by kernel_rfl)) (fun _ _ _ h => h) (Or.inr ⟨by rfl, rfl⟩) ?_ ?_
    rotate_left
    ·simp only [Act.put, qSa, qSb, qSc, i64_w, i32_w]
     rfl
    refine pure_ (i := 9) (N := some 55) (v := undef) (a' := ?_) #[true, true, true, true, true, true, true, true, true, true, false, false, false, false, false, false, false, false, false, false, false, false, false, false, false, false, false, false, false, false, false, false, false, false, false, false, false, false, false, false, false, false, false, false, false, false] rfl rfl (any_of HT_.out (by kernel_rfl)) (fun _ _ _ h => h) (Or.inr ⟨by rfl, rfl⟩) ?_ ?_
    rotate_left
    ·simp only [Act.put, qSa, qSb, qSc, i64_w, i32_w]
     rfl
    refine tP0 10 56 (bm 46 2047) ?_
    refine tP0 11 57 (bm 46 4095) ?_
    refine pure_ (i := 12) (N := some 58) (v := undef) (a' := ?_) #[true, true, true, true, true, true, true, true, true, true, true, true, true, false, false, false, false, false, false, false, false, false, false, false, false, false, false, false, false, false, false, false, false, false, false, false, false, false, false, false, false, false, false, false, false, false] rfl rfl (any_of HT_.out (by kernel_rfl)) (fun _ _ _ h => h) (Or.inr ⟨by rfl, rfl⟩) ?_ ?_
    rotate_left
    ·simp only [Act.put, qSa, qSb, qSc, i64_w, i32_w]
     rfl
    refine pure_ (i := 13) (N := some 59) (v := undef) (a' := ?_) #[true, true, true, true, true, true, true, true, true, true, true, true, true, true, false, false, false, false, false, false, false, false, false, false, false, false, false, false, false, false, false, false, false, false, false, false, false, false, false, false, false, false, false, false, false, false] rfl rfl (any_of HT_.out (by kernel_rfl)) (fun _ _ _ h => h) (Or.inr ⟨by rfl, rfl⟩) ?_ ?_
    rotate_left
    ·simp only [Act.put, qSa, qSb, qSc, i64_w, i32_w]
     rfl
    refine pure_ (i := 14) (N := some 60) (v := undef) (a' := ?_) #[true, true, true, true, true, true, true, true, true, true, true, true, true, true, true, false, false, false, false, false, false, false, false, false, false, false, false, false, false, false, false, false, false, false, false, false, false, false, false, false, false, false, false, false, false, false] rfl rfl (any_of HT_.out (by kernel_rfl)) (fun _ _ _ h => h) (Or.inr ⟨by rfl, rfl⟩) ?_ ?_
    rotate_left
    ·simp only [Act.put, qSa, qSb, qSc, i64_w, i32_w]
     rfl
    refine pure_ (i := 15) (N := some 61) (v := undef) (a' := ?_) #[true, true, true, true, true, true, true, true, true, true, true, true, true, true, true, true, false, false, false, false, false, false, false, false, false, false, false, false, false, false, false, false, false, false, false, false, false, false, false, false, false, false, false, false, false, false] rfl rfl (any_of HT_.out (by kernel_rfl)) (fun _ _ _ h => h) (Or.inr ⟨by rfl, rfl⟩) ?_ ?_
    rotate_left
    ·simp only [Act.put, qSa, qSb, qSc, i64_w, i32_w]
     rfl
    refine pure_ (i := 16) (N := some 62) (v := undef) (a' := ?_) #[true, true, true, true, true, true, true, true, true, true, true, true, true, true, true, true, true, false, false, false, false, false, false, false, false, false, false, false, false, false, false, false, false, false, false, false, false, false, false, false, false, false, false, false, false, false] rfl rfl (any_of HT_.out (by kernel_rfl)) (fun _ _ _ h => h) (Or.inr ⟨by rfl, rfl⟩) ?_ ?_
    rotate_left
    ·simp only [Act.put, qSa, qSb, qSc, i64_w, i32_w]
     rfl
    refine pure_ (i := 17) (N := some 63) (v := undef) (a' := ?_) #[true, true, true, true, true, true, true, true, true, true, true, true, true, true, true, true, true, true, false, false, false, false, false, false, false, false, false, false, false, false, false, false, false, false, false, false, false, false, false, false, false, false, false, false, false, false] rfl rfl (any_of HT_.out (by kernel_rfl)) (fun _ _ _ h => h) (Or.inr ⟨by rfl, rfl⟩) ?_ ?_
    rotate_left
    ·simp only [Act.put, qSa, qSb, qSc, i64_w, i32_w]
     rfl
    refine tP0 18 64 (bm 46 524287) ?_
    refine tP0 19 65 (bm 46 1048575) ?_
    refine pure_ (i := 20) (N := some 66) (v := undef) (a' := ?_) #[true, true, true, true, true, true, true, true, true, true, true, true, true, true, true, true, true, true, true, true, true, false, false, false, false, false, false, false, false, false, false, false, false, false, false, false, false, false, false, false, false, false, false, false, false, false] rfl rfl (any_of HT_.out (by kernel_rfl)) (fun _ _ _ h => h) (Or.inr ⟨by rfl, rfl⟩) ?_ ?_
    rotate_left
    ·simp only [Act.put, qSa, qSb, qSc, i64_w, i32_w]
     rfl
    refine pure_ (i := 21) (N := some 67) (v := undef) (a' := ?_) #[true, true, true, true, true, true, true, true, true, true, true, true, true, true, true, true, true, true, true, true, true, true, false, false, false, false, false, false, false, false, false, false, false, false, false, false, false, false, false, false, false, false, false, false, false, false] rfl rfl (any_of HT_.out (by kernel_rfl)) (fun _ _ _ h => h) (Or.inr ⟨by rfl, rfl⟩) ?_ ?_
    rotate_left
    ·simp only [Act.put, qSa, qSb, qSc, i64_w, i32_w]
     rfl
    refine pure_ (i := 22) (N := some 68) (v := undef) (a' := ?_) #[true, true, true, true, true, true, true, true, true, true, true, true, true, true, true, true, true, true, true, true, true, true, true, false, false, false, false, false, false, false, false, false, false, false, false, false, false, false, false, false, false, false, false, false, false, false] rfl rfl (any_of HT_.out (by kernel_rfl)) (fun _ _ _ h => h) (Or.inr ⟨by rfl, rfl⟩) ?_ ?_
    rotate_left
    ·simp only [Act.put, qSa, qSb, qSc, i64_w, i32_w]
     rfl
    refine pure_ (i := 23) (N := some 69) (v := undef) (a' := ?_) #[true, true, true, true, true, true, true, true, true, true, true, true, true, true, true, true, true, true, true, true, true, true, true, true, false, false, false, false, false, false, false, false, false, false, false, false, false, false, false, false, false, false, false, false, false, false] rfl rfl (any_of HT_.out (by kernel_rfl)) (fun _ _ _ h => h) (Or.inr ⟨by rfl, rfl⟩) ?_ ?_
    rotate_left
    ·simp only [Act.put, qSa, qSb, qSc, i64_w, i32_w]
     rfl
    refine pure_ (i := 24) (N := some 70) (v := undef) (a' := ?_) #[true, true, true, true, true, true, true, true, true, true, true, true, true, true, true, true, true, true, true, true, true, true, true, true, true, false, false, false, false, false, false, false, false, false, false, false, false, false, false, false, false, false, false, false, false, false] rfl rfl (any_of HT_.out (by kernel_rfl)) (fun _ _ _ h => h) (Or.inr ⟨by rfl, rfl⟩) ?_ ?_
    rotate_left
    ·simp only [Act.put, qSa, qSb, qSc, i64_w, i32_w]
     rfl
    refine pure_ (i := 25) (N := some 71) (v := undef) (a' := ?_) #[true, true, true, true, true, true, true, true, true, true, true, true, true, true, true, true, true, true, true, true, true, true, true, true, true, true, false, false, false, false, false, false, false, false, false, false, false, false, false, false, false, false, false, false, false, false] rfl rfl (any_of HT_.out (by kernel_rfl)) (fun _ _ _ h => h) (Or.inr ⟨by rfl, rfl⟩) ?_ ?_
    rotate_left
    ·simp only [Act.put, qSa, qSb, qSc, i64_w, i32_w]
     rfl
    refine pure_ (i := 26) (N := some 72) (v := undef) (a' := ?_) #[true, true, true, true, true, true, true, true, true, true, true, true, true, true, true, true, true, true, true, true, true, true, true, true, true, true, true, false, false, false, false, false, false, false, false, false, false, false, false, false, false, false, false, false, false, false] rfl rfl (any_of HT_.out (by kernel_rfl)) (fun _ _ _ h => h) (Or.inr ⟨by rfl, rfl⟩) ?_ ?_
    rotate_left
    ·simp only [Act.put, qSa, qSb, qSc, i64_w, i32_w]
     rfl
    refine tP0 27 73 (bm 46 268435455) ?_
    refine tP0 28 74 (bm 46 536870911) ?_
    refine pure_ (i := 29) (N := some 75) (v := undef) (a' := ?_) #[true, true, true, true, true, true, true, true, true, true, true, true, true, true, true, true, true, true, true, true, true, true, true, true, true, true, true, true, true, true, false, false, false, false, false, false, false, false, false, false, false, false, false, false, false, false] rfl rfl (any_of HT_.out (by kernel_rfl)) (fun _ _ _ h => h) (Or.inr ⟨by rfl, rfl⟩) ?_ ?_
    rotate_left
    ·simp only [Act.put, qSa, qSb, qSc, i64_w, i32_w]
     rfl
    refine pure_ (i := 30) (N := some 76) (v := undef) (a' := ?_) #[true, true, true, true, true, true, true, true, true, true, true, true, true, true, true, true, true, true, true, true, true, true, true, true, true, true, true, true, true, true, true, false, false, false, false, false, false, false, false, false, false, false, false, false, false, false] rfl rfl (any_of HT_.out (by kernel_rfl)) (fun _ _ _ h => h) (Or.inr ⟨by rfl, rfl⟩) ?_ ?_
    rotate_left
    ·simp only [Act.put, qSa, qSb, qSc, i64_w, i32_w]
     rfl
    refine pure_ (i := 31) (N := some 77) (v := undef) (a' := ?_) #[true, true, true, true, true, true, true, true, true, true, true, true, true, true, true, true, true, true, true, true, true, true, true, true, true, true, true, true, true, true, true, true, false, false, false, false, false, false, false, false, false, false, false, false, false, false] rfl rfl (any_of HT_.out (by kernel_rfl)) (fun _ _ _ h => h) (Or.inr ⟨by rfl, rfl⟩) ?_ ?_
    rotate_left
    ·simp only [Act.put, qSa, qSb, qSc, i64_w, i32_w]
     rfl
    refine pure_ (i := 32) (N := some 78) (v := undef) (a' := ?_) #[true, true, true, true, true, true, true, true, true, true, true, true, true, true, true, true, true, true, true, true, true, true, true, true, true, true, true, true, true, true, true, true, true, false, false, false, false, false, false, false, false, false, false, false, false, false] rfl rfl (any_of HT_.out (by kernel_rfl)) (fun _ _ _ h => h) (Or.inr ⟨by rfl, rfl⟩) ?_ ?_
    rotate_left
    ·simp only [Act.put, qSa, qSb, qSc, i64_w, i32_w]
     rfl
    refine pure_ (i := 33) (N := some 79) (v := undef) (a' := ?_) #[true, true, true, true, true, true, true, true, true, true, true, true, true, true, true, true, true, true, true, true, true, true, true, true, true, true, true, true, true, true, true, true, true, true, false, false, false, false, false, false, false, false, false, false, false, false] rfl rfl (any_of HT_.out (by kernel_rfl)) (fun _ _ _ h => h) (Or.inr ⟨by rfl, rfl⟩) ?_ ?_
    rotate_left
    ·simp only [Act.put, qSa, qSb, qSc, i64_w, i32_w]
     rfl
    refine pure_ (i := 34) (N := some 80) (v := undef) (a' := ?_) #[true, true, true, true, true, true, true, true, true, true, true, true, true, true, true, true, true, true, true, true, true, true, true, true, true, true, true, true, true, true, true, true, true, true, true, false, false, false, false, false, false, false, false, false, false, false] rfl rfl (any_of HT_.out (by kernel_rfl)) (fun _ _ _ h => h) (Or.inr ⟨by rfl, rfl⟩) ?_ ?_
    rotate_left
    ·simp only [Act.put, qSa, qSb, qSc, i64_w, i32_w]
     rfl
    refine pure_ (i := 35) (N := some 81) (v := undef) (a' := ?_) #[true, true, true, true, true, true, true, true, true, true, true, true, true, true, true, true, true, true, true, true, true, true, true, true, true, true, true, true, true, true, true, true, true, true, true, true, false, false, false, false, false, false, false, false, false, false] rfl rfl (any_of HT_.out (by kernel_rfl)) (fun _ _ _ h => h) (Or.inr ⟨by rfl, rfl⟩) ?_ ?_
    rotate_left
    ·simp only [Act.put, qSa, qSb, qSc, i64_w, i32_w]
     rfl
    refine pure_ (i := 36) (N := some 82) (v := undef) (a' := ?_) #[true, true, true, true, true, true, true, true, true, true, true, true, true, true, true, true, true, true, true, true, true, true, true, true, true, true, true, true, true, true, true, true, true, true, true, true, true, false, false, false, false, false, false, false, false, false] rfl rfl (any_of HT_.out (by kernel_rfl)) (fun _ _ _ h => h) (Or.inr ⟨by rfl, rfl⟩) ?_ ?_
    rotate_left
    ·simp only [Act.put, qSa, qSb, qSc, i64_w, i32_w]
     rfl
    refine pure_ (i := 37) (N := some 83) (v := undef) (a' := ?_) #[true, true, true, true, true, true, true, true, true, true, true, true, true, true, true, true, true, true, true, true, true, true, true, true, true, true, true, true, true, true, true, true, true, true, true, true, true, true, false, false, false, false, false, false, false, false] rfl rfl (any_of HT_.out (by kernel_rfl)) (fun _ _ _ h => h) (Or.inr ⟨by rfl, rfl⟩) ?_ ?_
    rotate_left
    ·simp only [Act.put, qSa, qSb, qSc, i64_w, i32_w]
     rfl
    refine pure_ (i := 38) (N := some 84) (v := undef) (a' := ?_) #[true, true, true, true, true, true, true, true, true, true, true, true, true, true, true, true, true, true, true, true, true, true, true, true, true, true, true, true, true, true, true, true, true, true, true, true, true, true, true, false, false, false, false, false, false, false] rfl rfl (any_of HT_.out (by kernel_rfl)) (fun _ _ _ h => h) (Or.inr ⟨by rfl, rfl⟩) ?_ ?_
    rotate_left
    ·simp only [Act.put, qSa, qSb, qSc, i64_w, i32_w]
     rfl
    refine pure_ (i := 39) (N := some 85) (v := undef) (a' := ?_) #[true, true, true, true, true, true, true, true, true, true, true, true, true, true, true, true, true, true, true, true, true, true, true, true, true, true, true, true, true, true, true, true, true, true, true, true, true, true, true, true, false, false, false, false, false, false] rfl rfl (any_of HT_.out (by kernel_rfl)) (fun _ _ _ h => h) (Or.inr ⟨by rfl, rfl⟩) ?_ ?_
    rotate_left
    ·simp only [Act.put, qSa, qSb, qSc, i64_w, i32_w]
     rfl
    refine pure_ (i := 40) (N := some 86) (v := undef) (a' := ?_) #[true, true, true, true, true, true, true, true, true, true, true, true, true, true, true, true, true, true, true, true, true, true, true, true, true, true, true, true, true, true, true, true, true, true, true, true, true, true, true, true, true, false, false, false, false, false] rfl rfl (any_of HT_.out (by kernel_rfl)) (fun _ _ _ h => h) (Or.inr ⟨by rfl, rfl⟩) ?_ ?_
    rotate_left
    ·simp only [Act.put, qSa, qSb, qSc, i64_w, i32_w]
     rfl
    refine pure_ (i := 41) (N := some 87) (v := undef) (a' := ?_) #[true, true, true, true, true, true, true, true, true, true, true, true, true, true, true, true, true, true, true, true, true, true, true, true, true, true, true, true, true, true, true, true, true, true, true, true, true, true, true, true, true, true, false, false, false, false] rfl rfl (any_of HT_.out (by kernel_rfl)) (fun _ _ _ h => h) (Or.inr ⟨by rfl, rfl⟩) ?_ ?_
    rotate_left
    ·simp only [Act.put, qSa, qSb, qSc, i64_w, i32_w]
     rfl
    refine pure_ (i := 42) (N := some 88) (v := undef) (a' := ?_) #[true, true, true, true, true, true, true, true, true, true, true, true, true, true, true, true, true, true, true, true, true, true, true, true, true, true, true, true, true, true, true, true, true, true, true, true, true, true, true, true, true, true, true, false, false, false] rfl rfl (any_of HT_.out (by kernel_rfl)) (fun _ _ _ h => h) (Or.inr ⟨by rfl, rfl⟩) ?_ ?_
    rotate_left
    ·simp only [Act.put, qSa, qSb, qSc, i64_w, i32_w]
     rfl
    refine pure_ (i := 43) (N := some 89) (v := undef) (a' := ?_) #[true, true, true, true, true, true, true, true, true, true, true, true, true, true, true, true, true, true, true, true, true, true, true, true, true, true, true, true, true, true, true, true, true, true, true, true, true, true, true, true, true, true, true, true, false, false] rfl rfl (any_of HT_.out (by kernel_rfl)) (fun _ _ _ h => h) (Or.inr ⟨by rfl, rfl⟩) ?_ ?_
    rotate_left
    ·simp only [Act.put, qSa, qSb, qSc, i64_w, i32_w]
     rfl
    refine pure_ (i := 44) (N := some 90) (v := undef) (a' := ?_) #[true, true, true, true, true, true, true, true, true, true, true, true, true, true, true, true, true, true, true, true, true, true, true, true, true, true, true, true, true, true, true, true, true, true, true, true, true, true, true, true, true, true, true, true, true, false] rfl rfl (any_of HT_.out (by kernel_rfl)) (fun _ _ _ h => h) (Or.inr ⟨by rfl, rfl⟩) ?_ ?_
    rotate_left
    ·simp only [Act.put, qSa, qSb, qSc, i64_w, i32_w]
     rfl
    refine tP0 45 91 (bm 46 70368744177663) ?_
    refine done_ (done_of HT_.out (by kernel_rfl)) ?_
    try go_wp2
    go_ret
    exact ⟨tE, tB⟩
   rw [if_pos c30] at H
   have c30b0 := beq_iff_eq.mpr c30
   have c30b1 := bne_eq_false_iff_eq.mpr c30
   clear c30
   by_cases c31 : 0 < ((rd_L1 l0_4 x41_2).length : Int)
   rotate_left
   ·rw [if_neg c31] at H
    exact absurd H (by simp)
   rw [if_pos c31] at H
   have c31b0 := decide_eq_true c31
   have c31b1 : decide (0 < (rd_L1 l0_4 x41_2).length) = true := decide_eq_true (by omega)
   clear c31
   obtain ⟨t437, A32, H⟩ := qBd H
   by_cases c33 : t437 = true
   rotate_left
   ·replace c33 := Bool.eq_false_iff.mpr c33
    subst c33
    rw [if_neg (show ¬ (false = true) by decide)] at H
    obtain rfl := Option.some.inj H
    have p435 : 0 ≤ (x41_2 : Int) := of_decide_eq_true tA
    have q435 : x41_2 < (l0_4.length : Int) := of_decide_eq_true tA
    obtain ⟨ad435, A435_0, c435_0, e435, hx435_0, hl435_0, hi435_0⟩ := at_L1 HR0_4.out x41_2 p435 q435
    cases e435
    replace hx435_0 := (HB.out.cell (World.block_lt_of_cell? w _ hx435_0)).trans hx435_0
    have HR435_0 := Aq.mk hi435_0
    have HC435_0 := Aq.mk hl435_0
    clear hi435_0 hl435_0
    replace p435 := eq_true p435
    replace q435 := eq_true q435
    try go_wp2
    have n0_ := Aq.mk (kQD BK431.out)
    have n1_ := Aq.mk (bQ1 HB.out)
    clear BK431
    clear HB
    have BK431 := n0_
    have HB := n1_
    clear n0_ n1_
    have p436 : 0 ≤ (0 : Int) := (by omega)
    have q436 : 0 < ((rd_L1 l0_4 x41_2).length : Int) := of_decide_eq_true tA
    obtain ⟨ad436, e436, hx436_0⟩ := Kd.at_int HR435_0.out 0 p436 q436
    have hw436_0 := hx436_0
    (try rw [show ((0 : Int)).toNat = 0 from rfl] at hw436_0)
    (try rw [show 0 * 1 = 0 from rfl] at hw436_0)
    (try rw [Addr.add_zero'] at hw436_0)
    cases e436
    have qi436 : (0 < (rd_L1 l0_4 x41_2).length) = True := eq_true (by omega)
    (try rw [show ((0 : Int)).toNat = 0 from rfl] at hx436_0)
    (try rw [Addr.add_zero'] at hx436_0)
    replace hx436_0 := (HB.out.cell (World.block_lt_of_cell? w _ hx436_0)).trans hx436_0
    replace p436 := eq_true p436
    replace q436 := eq_true q436
    refine start_ (n := 46) (S := fun w' => w'.cell? ⟨gb431, 0, none⟩ = some (.int .i64 a0_0) ∧ w'.cell? ⟨gb431, 1, none⟩ = some (.int .i64 a0_1) ∧ w'.cell? ⟨gb431, 2, none⟩ = some (.int .i64 a0_2) ∧ w'.cell? ⟨gb431, 3, none⟩ = some (.int .i64 a0_3) ∧ w'.cell? ⟨gb431, 4, none⟩ = some (.slice (some ad435) l0_4.length c0_4) ∧ w'.cell? ⟨gb431, 5, none⟩ = some (.slice A0_5 l0_5.length c0_5) ∧ w'.cell? ad436 = some (.int .i64 (rd (rd_L1 l0_4 x41_2) 0))) (ds := []) #[false, false, false, false, false, false, false, false, false, false, false, false, false, false, false, false, false, false, false, false, false, false, false, false, false, false, false, false, false, false, false, false, false, false, false, false, false, false, false, false, false, false, false, false, false, false] (by kernel_rfl) rfl rfl ⟨(kQC BK431.out 0).trans rfl, (kQC BK431.out 1).trans rfl, (kQC BK431.out 2).trans rfl, (kQC BK431.out 3).trans rfl, (kQC BK431.out 4).trans rfl, (kQC BK431.out 5).trans rfl, (tcw tB hw436_0)⟩ (fun hHeld => ?_); refine with_tabW impl_ValidNet.tab6 impl_ValidNet.bits6 (fun HT_ HW_ => ?_)
    generalize wr.drew = w59 at BK431 HB hx436_0 hHeld ⊢
    refine tP0 0 46 (bm 46 1) ?_
    refine tP0 1 47 (bm 46 3) ?_
    refine tP0 2 48 (bm 46 7) ?_
    refine tP0 3 49 (bm 46 15) ?_
    refine tP0 5 51 (bm 46 47) ?_
    refine tP0 6 52 (bm 46 111) ?_
    refine tT7 4 50 (bm 46 127) ?_
    refine tT7 7 53 (bm 46 255) ?_
    refine one_ (i := 8) (N := some 54) (bm 46 511) rfl rfl (one_of HT_.out (by kernel_rfl)) (by decide) (fun K hK => ?_)
    refine goes_ Try.func80 (by kernel_rfl) rfl #[.agg #[.int .i64 a0_0, .int .i64 a0_1, .int .i64 a0_2, .int .i64 a0_3, .slice (some ad435) l0_4.length c0_4, .slice A0_5 l0_5.length c0_5], .int .i64 (rd (rd_L1 l0_4 x41_2) 0)] (by rfl) rfl rfl tL ?_
    with_reducible refine (impl_Net_isNode.calls a0_0 a0_1 a0_2 a0_3 _ _ l0_4 _ _ l0_5 (rd (rd_L1 l0_4 x41_2) 0) false _ ?s1 ?s2 ?s3 ?s4 A32.out).mono ?_
    (case s1 => exact tC ((Kd.C_below HR0_4.out HB.out)))
    (case s2 => exact HC0_4.out)
    (case s3 => exact tC ((Kd.C_below HR0_5.out HB.out)))
    (case s4 => exact HC0_5.out)
    rintro e w60 ⟨rfl, hb⟩
    refine ⟨_, rfl, ?_⟩
    have n0_ := Aq.mk (tQ BK431.out hb)
    have n1_ := Aq.mk (bQT tB hb)
    clear BK431
    clear HB
    have BK431 := n0_
    have HB := n1_
    clear n0_ n1_
    (try clear hb)
    (try clear hb2)
    (try clear hk)
    (try clear hi)
    refine hK.out _ _ ⟨(kQC BK431.out 0).trans rfl, (kQC BK431.out 1).trans rfl, (kQC BK431.out 2).trans rfl, (kQC BK431.out 3).trans rfl, (kQC BK431.out 4).trans rfl, (kQC BK431.out 5).trans rfl, (tcw tB hw436_0)⟩ (fun hHeld => ?_)
    clear hK K
    refine tN 54 ?_
    refine tP0 9 55 (bm 46 1023) ?_
    refine tP0 10 56 (bm 46 2047) ?_
    refine tP0 11 57 (bm 46 4095) ?_
    refine pure_ (i := 12) (N := some 58) (v := undef) (a' := ?_) #[true, true, true, true, true, true, true, true, true, true, true, true, true, false, false, false, false, false, false, false, false, false, false, false, false, false, false, false, false, false, false, false, false, false, false, false, false, false, false, false, false, false, false, false, false, false] rfl rfl (any_of HT_.out (by kernel_rfl)) (fun _ _ _ h => h) (Or.inr ⟨by rfl, rfl⟩) ?_ ?_
    rotate_left
    ·simp only [Act.put, qSa, qSb, qSc, i64_w, i32_w]
     rfl
    refine pure_ (i := 13) (N := some 59) (v := undef) (a' := ?_) #[true, true, true, true, true, true, true, true, true, true, true, true, true, true, false, false, false, false, false, false, false, false, false, false, false, false, false, false, false, false, false, false, false, false, false, false, false, false, false, false, false, false, false, false, false, false] rfl rfl (any_of HT_.out (by kernel_rfl)) (fun _ _ _ h => h) (Or.inr ⟨by rfl, rfl⟩) ?_ ?_
    rotate_left
    ·simp only [Act.put, qSa, qSb, qSc, i64_w, i32_w]
     rfl
    refine pure_ (i := 14) (N := some 60) (v := undef) (a' := ?_) #[true, true, true, true, true, true, true, true, true, true, true, true, true, true, true, false, false, false, false, false, false, false, false, false, false, false, false, false, false, false, false, false, false, false, false, false, false, false, false, false, false, false, false, false, false, false] rfl rfl (any_of HT_.out (by kernel_rfl)) (fun _ _ _ h => h) (Or.inr ⟨by rfl, rfl⟩) ?_ ?_
    rotate_left
    ·simp only [Act.put, qSa, qSb, qSc, i64_w, i32_w]
     rfl
    refine pure_ (i := 15) (N := some 61) (v := undef) (a' := ?_) #[true, true, true, true, true, true, true, true, true, true, true, true, true, true, true, true, false, false, false, false, false, false, false, false, false, false, false, false, false, false, false, false, false, false, false, false, false, false, false, false, false, false, false, false, false, false] rfl rfl (any_of HT_.out (by kernel_rfl)) (fun _ _ _ h => h) (Or.inr ⟨by rfl, rfl⟩) ?_ ?_
    rotate_left
    ·simp only [Act.put, qSa, qSb, qSc, i64_w, i32_w]
     rfl
    refine pure_ (i := 16) (N := some 62) (v := undef) (a' := ?_) #[true, true, true, true, true, true, true, true, true, true, true, true, true, true, true, true, true, false, false, false, false, false, false, false, false, false, false, false, false, false, false, false, false, false, false, false, false, false, false, false, false, false, false, false, false, false] rfl rfl (any_of HT_.out (by kernel_rfl)) (fun _ _ _ h => h) (Or.inr ⟨by rfl, rfl⟩) ?_ ?_
    rotate_left
    ·simp only [Act.put, qSa, qSb, qSc, i64_w, i32_w]
     rfl
    refine pure_ (i := 17) (N := some 63) (v := undef) (a' := ?_) #[true, true, true, true, true, true, true, true, true, true, true, true, true, true, true, true, true, true, false, false, false, false, false, false, false, false, false, false, false, false, false, false, false, false, false, false, false, false, false, false, false, false, false, false, false, false] rfl rfl (any_of HT_.out (by kernel_rfl)) (fun _ _ _ h => h) (Or.inr ⟨by rfl, rfl⟩) ?_ ?_
    rotate_left
    ·simp only [Act.put, qSa, qSb, qSc, i64_w, i32_w]
     rfl
    refine tP0 18 64 (bm 46 524287) ?_
    refine tP0 19 65 (bm 46 1048575) ?_
    refine pure_ (i := 20) (N := some 66) (v := undef) (a' := ?_) #[true, true, true, true, true, true, true, true, true, true, true, true, true, true, true, true, true, true, true, true, true, false, false, false, false, false, false, false, false, false, false, false, false, false, false, false, false, false, false, false, false, false, false, false, false, false] rfl rfl (any_of HT_.out (by kernel_rfl)) (fun _ _ _ h => h) (Or.inr ⟨by rfl, rfl⟩) ?_ ?_
    rotate_left
    ·simp only [Act.put, qSa, qSb, qSc, i64_w, i32_w]
     rfl
    refine pure_ (i := 21) (N := some 67) (v := undef) (a' := ?_) #[true, true, true, true, true, true, true, true, true, true, true, true, true, true, true, true, true, true, true, true, true, true, false, false, false, false, false, false, false, false, false, false, false, false, false, false, false, false, false, false, false, false, false, false, false, false] rfl rfl (any_of HT_.out (by kernel_rfl)) (fun _ _ _ h => h) (Or.inr ⟨by rfl, rfl⟩) ?_ ?_
    rotate_left
    ·simp only [Act.put, qSa, qSb, qSc, i64_w, i32_w]
     rfl
    refine pure_ (i := 22) (N := some 68) (v := undef) (a' := ?_) #[true, true, true, true, true, true, true, true, true, true, true, true, true, true, true, true, true, true, true, true, true, true, true, false, false, false, false, false, false, false, false, false, false, false, false, false, false, false, false, false, false, false, false, false, false, false] rfl rfl (any_of HT_.out (by kernel_rfl)) (fun _ _ _ h => h) (Or.inr ⟨by rfl, rfl⟩) ?_ ?_
    rotate_left
    ·simp only [Act.put, qSa, qSb, qSc, i64_w, i32_w]
     rfl
    refine pure_ (i := 23) (N := some 69) (v := undef) (a' := ?_) #[true, true, true, true, true, true, true, true, true, true, true, true, true, true, true, true, true, true, true, true, true, true, true, true, false, false, false, false, false, false, false, false, false, false, false, false, false, false, false, false, false, false, false, false, false, false] rfl rfl (any_of HT_.out (by kernel_rfl)) (fun _ _ _ h => h) (Or.inr ⟨by rfl, rfl⟩) ?_ ?_
    rotate_left
    ·simp only [Act.put, qSa, qSb, qSc, i64_w, i32_w]
     rfl
    refine pure_ (i := 24) (N := some 70) (v := undef) (a' := ?_) #[true, true, true, true, true, true, true, true, true, true, true, true, true, true, true, true, true, true, true, true, true, true, true, true, true, false, false, false, false, false, false, false, false, false, false, false, false, false, false, false, false, false, false, false, false, false] rfl rfl (any_of HT_.out (by kernel_rfl)) (fun _ _ _ h => h) (Or.inr ⟨by rfl, rfl⟩) ?_ ?_
    rotate_left
    ·simp only [Act.put, qSa, qSb, qSc, i64_w, i32_w]
     rfl
    refine pure_ (i := 25) (N := some 71) (v := undef) (a' := ?_) #[true, true, true, true, true, true, true, true, true, true, true, true, true, true, true, true, true, true, true, true, true, true, true, true, true, true, false, false, false, false, false, false, false, false, false, false, false, false, false, false, false, false, false, false, false, false] rfl rfl (any_of HT_.out (by kernel_rfl)) (fun _ _ _ h => h) (Or.inr ⟨by rfl, rfl⟩) ?_ ?_
    rotate_left
    ·simp only [Act.put, qSa, qSb, qSc, i64_w, i32_w]
     rfl
    refine pure_ (i := 26) (N := some 72) (v := undef) (a' := ?_) #[true, true, true, true, true, true, true, true, true, true, true, true, true, true, true, true, true, true, true, true, true, true, true, true, true, true, true, false, false, false, false, false, false, false, false, false, false, false, false, false, false, false, false, false, false, false] rfl rfl (any_of HT_.out (by kernel_rfl)) (fun _ _ _ h => h) (Or.inr ⟨by rfl, rfl⟩) ?_ ?_
    rotate_left
    ·simp only [Act.put, qSa, qSb, qSc, i64_w, i32_w]
     rfl
    refine tP0 27 73 (bm 46 268435455) ?_
    refine tP0 28 74 (bm 46 536870911) ?_
    refine pure_ (i := 29) (N := some 75) (v := undef) (a' := ?_) #[true, true, true, true, true, true, true, true, true, true, true, true, true, true, true, true, true, true, true, true, true, true, true, true, true, true, true, true, true, true, false, false, false, false, false, false, false, false, false, false, false, false, false, false, false, false] rfl rfl (any_of HT_.out (by kernel_rfl)) (fun _ _ _ h => h) (Or.inr ⟨by rfl, rfl⟩) ?_ ?_
    rotate_left
    ·simp only [Act.put, qSa, qSb, qSc, i64_w, i32_w]
     rfl
    refine pure_ (i := 30) (N := some 76) (v := undef) (a' := ?_) #[true, true, true, true, true, true, true, true, true, true, true, true, true, true, true, true, true, true, true, true, true, true, true, true, true, true, true, true, true, true, true, false, false, false, false, false, false, false, false, false, false, false, false, false, false, false] rfl rfl (any_of HT_.out (by kernel_rfl)) (fun _ _ _ h => h) (Or.inr ⟨by rfl, rfl⟩) ?_ ?_
    rotate_left
    ·simp only [Act.put, qSa, qSb, qSc, i64_w, i32_w]
     rfl
    refine pure_ (i := 31) (N := some 77) (v := undef) (a' := ?_) #[true, true, true, true, true, true, true, true, true, true, true, true, true, true, true, true, true, true, true, true, true, true, true, true, true, true, true, true, true, true, true, true, false, false, false, false, false, false, false, false, false, false, false, false, false, false] rfl rfl (any_of HT_.out (by kernel_rfl)) (fun _ _ _ h => h) (Or.inr ⟨by rfl, rfl⟩) ?_ ?_
    rotate_left
    ·simp only [Act.put, qSa, qSb, qSc, i64_w, i32_w]
     rfl
    refine pure_ (i := 32) (N := some 78) (v := undef) (a' := ?_) #[true, true, true, true, true, true, true, true, true, true, true, true, true, true, true, true, true, true, true, true, true, true, true, true, true, true, true, true, true, true, true, true, true, false, false, false, false, false, false, false, false, false, false, false, false, false] rfl rfl (any_of HT_.out (by kernel_rfl)) (fun _ _ _ h => h) (Or.inr ⟨by rfl, rfl⟩) ?_ ?_
    rotate_left
    ·simp only [Act.put, qSa, qSb, qSc, i64_w, i32_w]
     rfl
    refine pure_ (i := 33) (N := some 79) (v := undef) (a' := ?_) #[true, true, true, true, true, true, true, true, true, true, true, true, true, true, true, true, true, true, true, true, true, true, true, true, true, true, true, true, true, true, true, true, true, true, false, false, false, false, false, false, false, false, false, false, false, false] rfl rfl (any_of HT_.out (by kernel_rfl)) (fun _ _ _ h => h) (Or.inr ⟨by rfl, rfl⟩) ?_ ?_
    rotate_left
    ·simp only [Act.put, qSa, qSb, qSc, i64_w, i32_w]
     rfl
    refine pure_ (i := 34) (N := some 80) (v := undef) (a' := ?_) #[true, true, true, true, true, true, true, true, true, true, true, true, true, true, true, true, true, true, true, true, true, true, true, true, true, true, true, true, true, true, true, true, true, true, true, false, false, false, false, false, false, false, false, false, false, false] rfl rfl (any_of HT_.out (by kernel_rfl)) (fun _ _ _ h => h) (Or.inr ⟨by rfl, rfl⟩) ?_ ?_
    rotate_left
    ·simp only [Act.put, qSa, qSb, qSc, i64_w, i32_w]
     rfl
    refine pure_ (i := 35) (N := some 81) (v := undef) (a' := ?_) #[true, true, true, true, true, true, true, true, true, true, true, true, true, true, true, true, true, true, true, true, true, true, true, true, true, true, true, true, true, true, true, true, true, true, true, true, false, false, false, false, false, false, false, false, false, false] rfl rfl (any_of HT_.out (by kernel_rfl)) (fun _ _ _ h => h) (Or.inr ⟨by rfl, rfl⟩) ?_ ?_
    rotate_left
    ·simp only [Act.put, qSa, qSb, qSc, i64_w, i32_w]
     rfl
    refine pure_ (i := 36) (N := some 82) (v := undef) (a' := ?_) #[true, true, true, true, true, true, true, true, true, true, true, true, true, true, true, true, true, true, true, true, true, true, true, true, true, true, true, true, true, true, true, true, true, true, true, true, true, false, false, false, false, false, false, false, false, false] rfl rfl (any_of HT_.out (by kernel_rfl)) (fun _ _ _ h => h) (Or.inr ⟨by rfl, rfl⟩) ?_ ?_
    rotate_left
    ·simp only [Act.put, qSa, qSb, qSc, i64_w, i32_w]
     rfl
    refine pure_ (i := 37) (N := some 83) (v := undef) (a' := ?_) #[true, true, true, true, true, true, true, true, true, true, true, true, true, true, true, true, true, true, true, true, true, true, true, true, true, true, true, true, true, true, true, true, true, true, true, true, true, true, false, false, false, false, false, false, false, false] rfl rfl (any_of HT_.out (by kernel_rfl)) (fun _ _ _ h => h) (Or.inr ⟨by rfl, rfl⟩) ?_ ?_
    rotate_left
    ·simp only [Act.put, qSa, qSb, qSc, i64_w, i32_w]
     rfl
    refine pure_ (i := 38) (N := some 84) (v := undef) (a' := ?_) #[true, true, true, true, true, true, true, true, true, true, true, true, true, true, true, true, true, true, true, true, true, true, true, true, true, true, true, true, true, true, true, true, true, true, true, true, true, true, true, false, false, false, false, false, false, false] rfl rfl (any_of HT_.out (by kernel_rfl)) (fun _ _ _ h => h) (Or.inr ⟨by rfl, rfl⟩) ?_ ?_
    rotate_left
    ·simp only [Act.put, qSa, qSb, qSc, i64_w, i32_w]
     rfl
    refine pure_ (i := 39) (N := some 85) (v := undef) (a' := ?_) #[true, true, true, true, true, true, true, true, true, true, true, true, true, true, true, true, true, true, true, true, true, true, true, true, true, true, true, true, true, true, true, true, true, true, true, true, true, true, true, true, false, false, false, false, false, false] rfl rfl (any_of HT_.out (by kernel_rfl)) (fun _ _ _ h => h) (Or.inr ⟨by rfl, rfl⟩) ?_ ?_
    rotate_left
    ·simp only [Act.put, qSa, qSb, qSc, i64_w, i32_w]
     rfl
    refine pure_ (i := 40) (N := some 86) (v := undef) (a' := ?_) #[true, true, true, true, true, true, true, true, true, true, true, true, true, true, true, true, true, true, true, true, true, true, true, true, true, true, true, true, true, true, true, true, true, true, true, true, true, true, true, true, true, false, false, false, false, false] rfl rfl (any_of HT_.out (by kernel_rfl)) (fun _ _ _ h => h) (Or.inr ⟨by rfl, rfl⟩) ?_ ?_
    rotate_left
    ·simp only [Act.put, qSa, qSb, qSc, i64_w, i32_w]
     rfl
    refine pure_ (i := 41) (N := some 87) (v := undef) (a' := ?_) #[true, true, true, true, true, true, true, true, true, true, true, true, true, true, true, true, true, true, true, true, true, true, true, true, true, true, true, true, true, true, true, true, true, true, true, true, true, true, true, true, true, true, false, false, false, false] rfl rfl (any_of HT_.out (by kernel_rfl)) (fun _ _ _ h => h) (Or.inr ⟨by rfl, rfl⟩) ?_ ?_
    rotate_left
    ·simp only [Act.put, qSa, qSb, qSc, i64_w, i32_w]
     rfl
    refine pure_ (i := 42) (N := some 88) (v := undef) (a' := ?_) #[true, true, true, true, true, true, true, true, true, true, true, true, true, true, true, true, true, true, true, true, true, true, true, true, true, true, true, true, true, true, true, true, true, true, true, true, true, true, true, true, true, true, true, false, false, false] rfl rfl (any_of HT_.out (by kernel_rfl)) (fun _ _ _ h => h) (Or.inr ⟨by rfl, rfl⟩) ?_ ?_
    rotate_left
    ·simp only [Act.put, qSa, qSb, qSc, i64_w, i32_w]
     rfl
    refine pure_ (i := 43) (N := some 89) (v := undef) (a' := ?_) #[true, true, true, true, true, true, true, true, true, true, true, true, true, true, true, true, true, true, true, true, true, true, true, true, true, true, true, true, true, true, true, true, true, true, true, true, true, true, true, true, true, true, true, true, false, false] rfl rfl (any_of HT_.out (by kernel_rfl)) (fun _ _ _ h => h) (Or.inr ⟨by rfl, rfl⟩) ?_ ?_
    rotate_left
    ·simp only [Act.put, qSa, qSb, qSc, i64_w, i32_w]
     rfl
    refine pure_ (i := 44) (N := some 90) (v := undef) (a' := ?_) #[true, true, true, true, true, true, true, true, true, true, true, true, true, true, true, true, true, true, true, true, true, true, true, true, true, true, true, true, true, true, true, true, true, true, true, true, true, true, true, true, true, true, true, true, true, false] rfl rfl (any_of HT_.out (by kernel_rfl)) (fun _ _ _ h => h) (Or.inr ⟨by rfl, rfl⟩) ?_ ?_
    rotate_left
    ·simp only [Act.put, qSa, qSb, qSc, i64_w, i32_w]
     rfl
    refine tP0 45 91 (bm 46 70368744177663) ?_
    refine done_ (done_of HT_.out (by kernel_rfl)) ?_
    try go_wp2
    go_ret
    exact ⟨tE, tB⟩
   subst c33
   rw [if_pos rfl] at H
   by_cases c34 : 1 < ((rd_L1 l0_4 x41_2).length : Int)
   rotate_left
   ·rw [if_neg c34] at H
    exact absurd H (by simp)
   rw [if_pos c34] at H
   have c34b0 := decide_eq_true c34
   have c34b1 : decide (1 < (rd_L1 l0_4 x41_2).length) = true := decide_eq_true (by omega)
   clear c34
   obtain ⟨t439, A35, H⟩ := qBd H
   by_cases c36 : t439 = true
   rotate_left
   ·replace c36 := Bool.eq_false_iff.mpr c36
    subst c36
    rw [if_neg (show ¬ (false = true) by decide)] at H
    obtain rfl := Option.some.inj H
    have p435 : 0 ≤ (x41_2 : Int) := of_decide_eq_true tA
    have q435 : x41_2 < (l0_4.length : Int) := of_decide_eq_true tA
    obtain ⟨ad435, A435_0, c435_0, e435, hx435_0, hl435_0, hi435_0⟩ := at_L1 HR0_4.out x41_2 p435 q435
    cases e435
    replace hx435_0 := (HB.out.cell (World.block_lt_of_cell? w _ hx435_0)).trans hx435_0
    have HR435_0 := Aq.mk hi435_0
    have HC435_0 := Aq.mk hl435_0
    clear hi435_0 hl435_0
    replace p435 := eq_true p435
    replace q435 := eq_true q435
    try go_wp2
    have n0_ := Aq.mk (kQD BK431.out)
    have n1_ := Aq.mk (bQ1 HB.out)
    clear BK431
    clear HB
    have BK431 := n0_
    have HB := n1_
    clear n0_ n1_
    have p436 : 0 ≤ (0 : Int) := (by omega)
    have q436 : 0 < ((rd_L1 l0_4 x41_2).length : Int) := of_decide_eq_true tA
    obtain ⟨ad436, e436, hx436_0⟩ := Kd.at_int HR435_0.out 0 p436 q436
    have hw436_0 := hx436_0
    (try rw [show ((0 : Int)).toNat = 0 from rfl] at hw436_0)
    (try rw [show 0 * 1 = 0 from rfl] at hw436_0)
    (try rw [Addr.add_zero'] at hw436_0)
    cases e436
    have qi436 : (0 < (rd_L1 l0_4 x41_2).length) = True := eq_true (by omega)
    (try rw [show ((0 : Int)).toNat = 0 from rfl] at hx436_0)
    (try rw [Addr.add_zero'] at hx436_0)
    replace hx436_0 := (HB.out.cell (World.block_lt_of_cell? w _ hx436_0)).trans hx436_0
    replace p436 := eq_true p436
    replace q436 := eq_true q436
    have p438 : 0 ≤ (1 : Int) := (by omega)
    have q438 : 1 < ((rd_L1 l0_4 x41_2).length : Int) := of_decide_eq_true tA
    obtain ⟨ad438, e438, hx438_0⟩ := Kd.at_int HR435_0.out 1 p438 q438
    have hw438_0 := hx438_0
    (try rw [show ((1 : Int)).toNat = 1 from rfl] at hw438_0)
    (try rw [show 1 * 1 = 1 from rfl] at hw438_0)
    (try simp only [Nat.reduceMul, Nat.reduceEqDiff, Go.Addr.add, ↓reduceIte] at hw438_0)
    obtain rfl : ad436 = ad438 := (by injection e438)
    (try simp only [show (1 : Int).toNat = 1 from rfl, Nat.reduceMul, Nat.reduceEqDiff, Go.Addr.add, ↓reduceIte] at hx438_0)
    have qi438 : (1 < (rd_L1 l0_4 x41_2).length) = True := eq_true (by omega)
    (try rw [show ((1 : Int)).toNat = 1 from rfl] at hx438_0)
    replace hx438_0 := (HB.out.cell (World.block_lt_of_cell? w _ hx438_0)).trans hx438_0
    replace p438 := eq_true p438
    replace q438 := eq_true q438
    refine start_ (n := 46) (S := fun w' => w'.cell? ⟨gb431, 0, none⟩ = some (.int .i64 a0_0) ∧ w'.cell? ⟨gb431, 1, none⟩ = some (.int .i64 a0_1) ∧ w'.cell? ⟨gb431, 2, none⟩ = some (.int .i64 a0_2) ∧ w'.cell? ⟨gb431, 3, none⟩ = some (.int .i64 a0_3) ∧ w'.cell? ⟨gb431, 4, none⟩ = some (.slice (some ad435) l0_4.length c0_4) ∧ w'.cell? ⟨gb431, 5, none⟩ = some (.slice A0_5 l0_5.length c0_5) ∧ w'.cell? ad436 = some (.int .i64 (rd (rd_L1 l0_4 x41_2) 0)) ∧ w'.cell? ⟨ad436.block, ad436.off + 1, none⟩ = some (.int .i64 (rd (rd_L1 l0_4 x41_2) 1))) (ds := []) #[false, false, false, false, false, false, false, false, false, false, false, false, false, false, false, false, false, false, false, false, false, false, false, false, false, false, false, false, false, false, false, false, false, false, false, false, false, false, false, false, false, false, false, false, false, false] (by kernel_rfl) rfl rfl ⟨(kQC BK431.out 0).trans rfl, (kQC BK431.out 1).trans rfl, (kQC BK431.out 2).trans rfl, (kQC BK431.out 3).trans rfl, (kQC BK431.out 4).trans rfl, (kQC BK431.out 5).trans rfl, (tcw tB hw436_0), (tcw tB hw438_0)⟩ (fun hHeld => ?_); refine with_tabW impl_ValidNet.tab6 impl_ValidNet.bits6 (fun HT_ HW_ => ?_)
    generalize wr.drew = w56 at BK431 HB hx436_0 hx438_0 hHeld ⊢
    refine tP0 0 46 (bm 46 1) ?_
    refine tP0 1 47 (bm 46 3) ?_
    refine tP0 2 48 (bm 46 7) ?_
    refine tP0 3 49 (bm 46 15) ?_
    refine tP0 5 51 (bm 46 47) ?_
    refine tP0 6 52 (bm 46 111) ?_
    refine tT8 4 50 (bm 46 127) ?_
    refine tT8 7 53 (bm 46 255) ?_
    refine one_ (i := 8) (N := some 54) (bm 46 511) rfl rfl (one_of HT_.out (by kernel_rfl)) (by decide) (fun K hK => ?_)
    refine goes_ Try.func80 (by kernel_rfl) rfl #[.agg #[.int .i64 a0_0, .int .i64 a0_1, .int .i64 a0_2, .int .i64 a0_3, .slice (some ad435) l0_4.length c0_4, .slice A0_5 l0_5.length c0_5], .int .i64 (rd (rd_L1 l0_4 x41_2) 0)] (by rfl) rfl rfl tL ?_
    with_reducible refine (impl_Net_isNode.calls a0_0 a0_1 a0_2 a0_3 _ _ l0_4 _ _ l0_5 (rd (rd_L1 l0_4 x41_2) 0) true _ ?s1 ?s2 ?s3 ?s4 A32.out).mono ?_
    (case s1 => exact tC ((Kd.C_below HR0_4.out HB.out)))
    (case s2 => exact HC0_4.out)
    (case s3 => exact tC ((Kd.C_below HR0_5.out HB.out)))
    (case s4 => exact HC0_5.out)
    rintro e w57 ⟨rfl, hb⟩
    refine ⟨_, rfl, ?_⟩
    have n0_ := Aq.mk (tQ BK431.out hb)
    have n1_ := Aq.mk (bQT tB hb)
    clear BK431
    clear HB
    have BK431 := n0_
    have HB := n1_
    clear n0_ n1_
    (try clear hb)
    (try clear hb2)
    (try clear hk)
    (try clear hi)
    refine hK.out _ _ ⟨(kQC BK431.out 0).trans rfl, (kQC BK431.out 1).trans rfl, (kQC BK431.out 2).trans rfl, (kQC BK431.out 3).trans rfl, (kQC BK431.out 4).trans rfl, (kQC BK431.out 5).trans rfl, (tcw tB hw436_0), (tcw tB hw438_0)⟩ (fun hHeld => ?_)
    clear hK K
    refine tN 54 ?_
    refine tP0 9 55 (bm 46 1023) ?_
    refine tP0 10 56 (bm 46 2047) ?_
    refine tP0 11 57 (bm 46 4095) ?_
    refine tP0 13 59 (bm 46 12287) ?_
    refine tP0 14 60 (bm 46 28671) ?_
    refine tT8 12 58 (bm 46 32767) ?_
    refine tT8 15 61 (bm 46 65535) ?_
    refine one_ (i := 16) (N := some 62) (bm 46 131071) rfl rfl (one_of HT_.out (by kernel_rfl)) (by decide) (fun K hK => ?_)
    refine goes_ Try.func80 (by kernel_rfl) rfl #[.agg #[.int .i64 a0_0, .int .i64 a0_1, .int .i64 a0_2, .int .i64 a0_3, .slice (some ad435) l0_4.length c0_4, .slice A0_5 l0_5.length c0_5], .int .i64 (rd (rd_L1 l0_4 x41_2) 1)] (by rfl) rfl rfl tL ?_
    with_reducible refine (impl_Net_isNode.calls a0_0 a0_1 a0_2 a0_3 _ _ l0_4 _ _ l0_5 (rd (rd_L1 l0_4 x41_2) 1) false _ ?s1 ?s2 ?s3 ?s4 A35.out).mono ?_
    (case s1 => exact tC ((Kd.C_below HR0_4.out HB.out)))
    (case s2 => exact HC0_4.out)
    (case s3 => exact tC ((Kd.C_below HR0_5.out HB.out)))
    (case s4 => exact HC0_5.out)
    rintro e w58 ⟨rfl, hb⟩
    refine ⟨_, rfl, ?_⟩
    have n0_ := Aq.mk (tQ BK431.out hb)
    have n1_ := Aq.mk (bQT tB hb)
    clear BK431
    clear HB
    have BK431 := n0_
    have HB := n1_
    clear n0_ n1_
    (try clear hb)
    (try clear hb2)
    (try clear hk)
    (try clear hi)
    refine hK.out _ _ ⟨(kQC BK431.out 0).trans rfl, (kQC BK431.out 1).trans rfl, (kQC BK431.out 2).trans rfl, (kQC BK431.out 3).trans rfl, (kQC BK431.out 4).trans rfl, (kQC BK431.out 5).trans rfl, (tcw tB hw436_0), (tcw tB hw438_0)⟩ (fun hHeld => ?_)
    clear hK K
    refine tN 62 ?_
    refine tP0 17 63 (bm 46 262143) ?_
    refine tP0 18 64 (bm 46 524287) ?_
    refine tP0 19 65 (bm 46 1048575) ?_
    refine pure_ (i := 20) (N := some 66) (v := undef) (a' := ?_) #[true, true, true, true, true, true, true, true, true, true, true, true, true, true, true, true, true, true, true, true, true, false, false, false, false, false, false, false, false, false, false, false, false, false, false, false, false, false, false, false, false, false, false, false, false, false] rfl rfl (any_of HT_.out (by kernel_rfl)) (fun _ _ _ h => h) (Or.inr ⟨by rfl, rfl⟩) ?_ ?_
    rotate_left
    ·simp only [Act.put, qSa, qSb, qSc, i64_w, i32_w]
     rfl
    refine pure_ (i := 21) (N := some 67) (v := undef) (a' := ?_) #[true, true, true, true, true, true, true, true, true, true, true, true, true, true, true, true, true, true, true, true, true, true, false, false, false, false, false, false, false, false, false, false, false, false, false, false, false, false, false, false, false, false, false, false, false, false] rfl rfl (any_of HT_.out (by kernel_rfl)) (fun _ _ _ h => h) (Or.inr ⟨by rfl, rfl⟩) ?_ ?_
    rotate_left
    ·simp only [Act.put, qSa, qSb, qSc, i64_w, i32_w]
     rfl
    refine pure_ (i := 22) (N := some 68) (v := undef) (a' := ?_) #[true, true, true, true, true, true, true, true, true, true, true, true, true, true, true, true, true, true, true, true, true, true, true, false, false, false, false, false, false, false, false, false, false, false, false, false, false, false, false, false, false, false, false, false, false, false] rfl rfl (any_of HT_.out (by kernel_rfl)) (fun _ _ _ h => h) (Or.inr ⟨by rfl, rfl⟩) ?_ ?_
    rotate_left
    ·simp only [Act.put, qSa, qSb, qSc, i64_w, i32_w]
     rfl
    refine pure_ (i := 23) (N := some 69) (v := undef) (a' := ?_) #[true, true, true, true, true, true, true, true, true, true, true, true, true, true, true, true, true, true, true, true, true, true, true, true, false, false, false, false, false, false, false, false, false, false, false, false, false, false, false, false, false, false, false, false, false, false] rfl rfl (any_of HT_.out (by kernel_rfl)) (fun _ _ _ h => h) (Or.inr ⟨by rfl, rfl⟩) ?_ ?_
    rotate_left
    ·simp only [Act.put, qSa, qSb, qSc, i64_w, i32_w]
     rfl
    refine pure_ (i := 24) (N := some 70) (v := undef) (a' := ?_) #[true, true, true, true, true, true, true, true, true, true, true, true, true, true, true, true, true, true, true, true, true, true, true, true, true, false, false, false, false, false, false, false, false, false, false, false, false, false, false, false, false, false, false, false, false, false] rfl rfl (any_of HT_.out (by kernel_rfl)) (fun _ _ _ h => h) (Or.inr ⟨by rfl, rfl⟩) ?_ ?_
    rotate_left
    ·simp only [Act.put, qSa, qSb, qSc, i64_w, i32_w]
     rfl
    refine pure_ (i := 25) (N := some 71) (v := undef) (a' := ?_) #[true, true, true, true, true, true, true, true, true, true, true, true, true, true, true, true, true, true, true, true, true, true, true, true, true, true, false, false, false, false, false, false, false, false, false, false, false, false, false, false, false, false, false, false, false, false] rfl rfl (any_of HT_.out (by kernel_rfl)) (fun _ _ _ h => h) (Or.inr ⟨by rfl, rfl⟩) ?_ ?_
    rotate_left
    ·simp only [Act.put, qSa, qSb, qSc, i64_w, i32_w]
     rfl
    refine pure_ (i := 26) (N := some 72) (v := undef) (a' := ?_) #[true, true, true, true, true, true, true, true, true, true, true, true, true, true, true, true, true, true, true, true, true, true, true, true, true, true, true, false, false, false, false, false, false, false, false, false, false, false, false, false, false, false, false, false, false, false] rfl rfl (any_of HT_.out (by kernel_rfl)) (fun _ _ _ h => h) (Or.inr ⟨by rfl, rfl⟩) ?_ ?_
    rotate_left
    ·simp only [Act.put, qSa, qSb, qSc, i64_w, i32_w]
     rfl
    refine tP0 27 73 (bm 46 268435455) ?_
    refine tP0 28 74 (bm 46 536870911) ?_
    refine pure_ (i := 29) (N := some 75) (v := undef) (a' := ?_) #[true, true, true, true, true, true, true, true, true, true, true, true, true, true, true, true, true, true, true, true, true, true, true, true, true, true, true, true, true, true, false, false, false, false, false, false, false, false, false, false, false, false, false, false, false, false] rfl rfl (any_of HT_.out (by kernel_rfl)) (fun _ _ _ h => h) (Or.inr ⟨by rfl, rfl⟩) ?_ ?_
    rotate_left
    ·simp only [Act.put, qSa, qSb, qSc, i64_w, i32_w]
     rfl
    refine pure_ (i := 30) (N := some 76) (v := undef) (a' := ?_) #[true, true, true, true, true, true, true, true, true, true, true, true, true, true, true, true, true, true, true, true, true, true, true, true, true, true, true, true, true, true, true, false, false, false, false, false, false, false, false, false, false, false, false, false, false, false] rfl rfl (any_of HT_.out (by kernel_rfl)) (fun _ _ _ h => h) (Or.inr ⟨by rfl, rfl⟩) ?_ ?_
    rotate_left
    ·simp only [Act.put, qSa, qSb, qSc, i64_w, i32_w]
     rfl
    refine pure_ (i := 31) (N := some 77) (v := undef) (a' := ?_) #[true, true, true, true, true, true, true, true, true, true, true, true, true, true, true, true, true, true, true, true, true, true, true, true, true, true, true, true, true, true, true, true, false, false, false, false, false, false, false, false, false, false, false, false, false, false] rfl rfl (any_of HT_.out (by kernel_rfl)) (fun _ _ _ h => h) (Or.inr ⟨by rfl, rfl⟩) ?_ ?_
    rotate_left
    ·simp only [Act.put, qSa, qSb, qSc, i64_w, i32_w]
     rfl
    refine pure_ (i := 32) (N := some 78) (v := undef) (a' := ?_) #[true, true, true, true, true, true, true, true, true, true, true, true, true, true, true, true, true, true, true, true, true, true, true, true, true, true, true, true, true, true, true, true, true, false, false, false, false, false, false, false, false, false, false, false, false, false] rfl rfl (any_of HT_.out (by kernel_rfl)) (fun _ _ _ h => h) (Or.inr ⟨by rfl, rfl⟩) ?_ ?_
    rotate_left
    ·simp only [Act.put, qSa, qSb, qSc, i64_w, i32_w]
     rfl
    refine pure_ (i := 33) (N := some 79) (v := undef) (a' := ?_) #[true, true, true, true, true, true, true, true, true, true, true, true, true, true, true, true, true, true, true, true, true, true, true, true, true, true, true, true, true, true, true, true, true, true, false, false, false, false, false, false, false, false, false, false, false, false] rfl rfl (any_of HT_.out (by kernel_rfl)) (fun _ _ _ h => h) (Or.inr ⟨by rfl, rfl⟩) ?_ ?_
    rotate_left
    ·simp only [Act.put, qSa, qSb, qSc, i64_w, i32_w]
     rfl
    refine pure_ (i := 34) (N := some 80) (v := undef) (a' := ?_) #[true, true, true, true, true, true, true, true, true, true, true, true, true, true, true, true, true, true, true, true, true, true, true, true, true, true, true, true, true, true, true, true, true, true, true, false, false, false, false, false, false, false, false, false, false, false] rfl rfl (any_of HT_.out (by kernel_rfl)) (fun _ _ _ h => h) (Or.inr ⟨by rfl, rfl⟩) ?_ ?_
    rotate_left
    ·simp only [Act.put, qSa, qSb, qSc, i64_w, i32_w]
     rfl
    refine pure_ (i := 35) (N := some 81) (v := undef) (a' := ?_) #[true, true, true, true, true, true, true, true, true, true, true, true, true, true, true, true, true, true, true, true, true, true, true, true, true, true, true, true, true, true, true, true, true, true, true, true, false, false, false, false, false, false, false, false, false, false] rfl rfl (any_of HT_.out (by kernel_rfl)) (fun _ _ _ h => h) (Or.inr ⟨by rfl, rfl⟩) ?_ ?_
    rotate_left
    ·simp only [Act.put, qSa, qSb, qSc, i64_w, i32_w]
     rfl
    refine pure_ (i := 36) (N := some 82) (v := undef) (a' := ?_) #[true, true, true, true, true, true, true, true, true, true, true, true, true, true, true, true, true, true, true, true, true, true, true, true, true, true, true, true, true, true, true, true, true, true, true, true, true, false, false, false, false, false, false, false, false, false] rfl rfl (any_of HT_.out (by kernel_rfl)) (fun _ _ _ h => h) (Or.inr ⟨by rfl, rfl⟩) ?_ ?_
    rotate_left
    ·simp only [Act.put, qSa, qSb, qSc, i64_w, i32_w]
     rfl
    refine pure_ (i := 37) (N := some 83) (v := undef) (a' := ?_) #[true, true, true, true, true, true, true, true, true, true, true, true, true, true, true, true, true, true, true, true, true, true, true, true, true, true, true, true, true, true, true, true, true, true, true, true, true, true, false, false, false, false, false, false, false, false] rfl rfl (any_of HT_.out (by kernel_rfl)) (fun _ _ _ h => h) (Or.inr ⟨by rfl, rfl⟩) ?_ ?_
    rotate_left
    ·simp only [Act.put, qSa, qSb, qSc, i64_w, i32_w]
     rfl
    refine pure_ (i := 38) (N := some 84) (v := undef) (a' := ?_) #[true, true, true, true, true, true, true, true, true, true, true, true, true, true, true, true, true, true, true, true, true, true, true, true, true, true, true, true, true, true, true, true, true, true, true, true, true, true, true, false, false, false, false, false, false, false] rfl rfl (any_of HT_.out (by kernel_rfl)) (fun _ _ _ h => h) (Or.inr ⟨by rfl, rfl⟩) ?_ ?_
    rotate_left
    ·simp only [Act.put, qSa, qSb, qSc, i64_w, i32_w]
     rfl
    refine pure_ (i := 39) (N := some 85) (v := undef) (a' := ?_) #[true, true, true, true, true, true, true, true, true, true, true, true, true, true, true, true, true, true, true, true, true, true, true, true, true, true, true, true, true, true, true, true, true, true, true, true, true, true, true, true, false, false, false, false, false, false] rfl rfl (any_of HT_.out (by kernel_rfl)) (fun _ _ _ h => h) (Or.inr ⟨by rfl, rfl⟩) ?_ ?_
    rotate_left
    ·simp only [Act.put, qSa, qSb, qSc, i64_w, i32_w]
     rfl
    refine pure_ (i := 40) (N := some 86) (v := undef) (a' := ?_) #[true, true, true, true, true, true, true, true, true, true, true, true, true, true, true, true, true, true, true, true, true, true, true, true, true, true, true, true, true, true, true, true, true, true, true, true, true, true, true, true, true, false, false, false, false, false] rfl rfl (any_of HT_.out (by kernel_rfl)) (fun _ _ _ h => h) (Or.inr ⟨by rfl, rfl⟩) ?_ ?_
    rotate_left
    ·simp only [Act.put, qSa, qSb, qSc, i64_w, i32_w]
     rfl
    refine pure_ (i := 41) (N := some 87) (v := undef) (a' := ?_) #[true, true, true, true, true, true, true, true, true, true, true, true, true, true, true, true, true, true, true, true, true, true, true, true, true, true, true, true, true, true, true, true, true, true, true, true, true, true, true, true, true, true, false, false, false, false] rfl rfl (any_of HT_.out (by kernel_rfl)) (fun _ _ _ h => h) (Or.inr ⟨by rfl, rfl⟩) ?_ ?_
    rotate_left
    ·simp only [Act.put, qSa, qSb, qSc, i64_w, i32_w]
     rfl
    refine pure_ (i := 42) (N := some 88) (v := undef) (a' := ?_) #[true, true, true, true, true, true, true, true, true, true, true, true, true, true, true, true, true, true, true, true, true, true, true, true, true, true, true, true, true, true, true, true, true, true, true, true, true, true, true, true, true, true, true, false, false, false] rfl rfl (any_of HT_.out (by kernel_rfl)) (fun _ _ _ h => h) (Or.inr ⟨by rfl, rfl⟩) ?_ ?_
    rotate_left
    ·simp only [Act.put, qSa, qSb, qSc, i64_w, i32_w]
     rfl
    refine pure_ (i := 43) (N := some 89) (v := undef) (a' := ?_) #[true, true, true, true, true, true, true, true, true, true, true, true, true, true, true, true, true, true, true, true, true, true, true, true, true, true, true, true, true, true, true, true, true, true, true, true, true, true, true, true, true, true, true, true, false, false] rfl rfl (any_of HT_.out (by kernel_rfl)) (fun _ _ _ h => h) (Or.inr ⟨by rfl, rfl⟩) ?_ ?_
    rotate_left
    ·simp only [Act.put, qSa, qSb, qSc, i64_w, i32_w]
     rfl
    refine pure_ (i := 44) (N := some 90) (v := undef) (a' := ?_) #[true, true, true, true, true, true, true, true, true, true, true, true, true, true, true, true, true, true, true, true, true, true, true, true, true, true, true, true, true, true, true, true, true, true, true, true, true, true, true, true, true, true, true, true, true, false] rfl rfl (any_of HT_.out (by kernel_rfl)) (fun _ _ _ h => h) (Or.inr ⟨by rfl, rfl⟩) ?_ ?_
    rotate_left
    ·simp only [Act.put, qSa, qSb, qSc, i64_w, i32_w]
     rfl
    refine tP0 45 91 (bm 46 70368744177663) ?_
    refine done_ (done_of HT_.out (by kernel_rfl)) ?_
    try go_wp2
    go_ret
    exact ⟨tE, tB⟩
   subst c36
   rw [if_pos rfl] at H
   by_cases c37 : (rd (rd_L1 l0_4 x41_2) 0) ≥ (rd (rd_L1 l0_4 x41_2) 1)
   ·rw [if_pos c37] at H
    have c37b0 := decide_eq_true c37
    clear c37
    obtain rfl := Option.some.inj H
    have p435 : 0 ≤ (x41_2 : Int) := of_decide_eq_true tA
    have q435 : x41_2 < (l0_4.length : Int) := of_decide_eq_true tA
    obtain ⟨ad435, A435_0, c435_0, e435, hx435_0, hl435_0, hi435_0⟩ := at_L1 HR0_4.out x41_2 p435 q435
    cases e435
    replace hx435_0 := (HB.out.cell (World.block_lt_of_cell? w _ hx435_0)).trans hx435_0
    have HR435_0 := Aq.mk hi435_0
    have HC435_0 := Aq.mk hl435_0
    clear hi435_0 hl435_0
    replace p435 := eq_true p435
    replace q435 := eq_true q435
    try go_wp2
    have n0_ := Aq.mk (kQD BK431.out)
    have n1_ := Aq.mk (bQ1 HB.out)
    clear BK431
    clear HB
    have BK431 := n0_
    have HB := n1_
    clear n0_ n1_
    have p436 : 0 ≤ (0 : Int) := (by omega)
    have q436 : 0 < ((rd_L1 l0_4 x41_2).length : Int) := of_decide_eq_true tA
    obtain ⟨ad436, e436, hx436_0⟩ := Kd.at_int HR435_0.out 0 p436 q436
    have hw436_0 := hx436_0
    (try rw [show ((0 : Int)).toNat = 0 from rfl] at hw436_0)
    (try rw [show 0 * 1 = 0 from rfl] at hw436_0)
    (try rw [Addr.add_zero'] at hw436_0)
    cases e436
    have qi436 : (0 < (rd_L1 l0_4 x41_2).length) = True := eq_true (by omega)
    (try rw [show ((0 : Int)).toNat = 0 from rfl] at hx436_0)
    (try rw [Addr.add_zero'] at hx436_0)
    replace hx436_0 := (HB.out.cell (World.block_lt_of_cell? w _ hx436_0)).trans hx436_0
    replace p436 := eq_true p436
    replace q436 := eq_true q436
    have p438 : 0 ≤ (1 : Int) := (by omega)
    have q438 : 1 < ((rd_L1 l0_4 x41_2).length : Int) := of_decide_eq_true tA
    obtain ⟨ad438, e438, hx438_0⟩ := Kd.at_int HR435_0.out 1 p438 q438
    have hw438_0 := hx438_0
    (try rw [show ((1 : Int)).toNat = 1 from rfl] at hw438_0)
    (try rw [show 1 * 1 = 1 from rfl] at hw438_0)
    (try simp only [Nat.reduceMul, Nat.reduceEqDiff, Go.Addr.add, ↓reduceIte] at hw438_0)
    obtain rfl : ad436 = ad438 := (by injection e438)
    (try simp only [show (1 : Int).toNat = 1 from rfl, Nat.reduceMul, Nat.reduceEqDiff, Go.Addr.add, ↓reduceIte] at hx438_0)
    have qi438 : (1 < (rd_L1 l0_4 x41_2).length) = True := eq_true (by omega)
    (try rw [show ((1 : Int)).toNat = 1 from rfl] at hx438_0)
    replace hx438_0 := (HB.out.cell (World.block_lt_of_cell? w _ hx438_0)).trans hx438_0
    replace p438 := eq_true p438
    replace q438 := eq_true q438
    have p440 : 0 ≤ (0 : Int) := (by omega)
    have q440 : 0 < ((rd_L1 l0_4 x41_2).length : Int) := of_decide_eq_true tA
    obtain ⟨ad440, e440, hx440_0⟩ := Kd.at_int HR435_0.out 0 p440 q440
    have hw440_0 := hx440_0
    (try rw [show ((0 : Int)).toNat = 0 from rfl] at hw440_0)
    (try rw [show 0 * 1 = 0 from rfl] at hw440_0)
    (try rw [Addr.add_zero'] at hw440_0)
    obtain rfl : ad436 = ad440 := (by injection e440)
    have qi440 : (0 < (rd_L1 l0_4 x41_2).length) = True := eq_true (by omega)
    (try rw [show ((0 : Int)).toNat = 0 from rfl] at hx440_0)
    (try rw [Addr.add_zero'] at hx440_0)
    replace hx440_0 := (HB.out.cell (World.block_lt_of_cell? w _ hx440_0)).trans hx440_0
    replace p440 := eq_true p440
    replace q440 := eq_true q440
    have p441 : 0 ≤ (1 : Int) := (by omega)
    have q441 : 1 < ((rd_L1 l0_4 x41_2).length : Int) := of_decide_eq_true tA
    obtain ⟨ad441, e441, hx441_0⟩ := Kd.at_int HR435_0.out 1 p441 q441
    have hw441_0 := hx441_0
    (try rw [show ((1 : Int)).toNat = 1 from rfl] at hw441_0)
    (try rw [show 1 * 1 = 1 from rfl] at hw441_0)
    (try simp only [Nat.reduceMul, Nat.reduceEqDiff, Go.Addr.add, ↓reduceIte] at hw441_0)
    obtain rfl : ad436 = ad441 := (by injection e441)
    (try simp only [show (1 : Int).toNat = 1 from rfl, Nat.reduceMul, Nat.reduceEqDiff, Go.Addr.add, ↓reduceIte] at hx441_0)
    have qi441 : (1 < (rd_L1 l0_4 x41_2).length) = True := eq_true (by omega)
    (try rw [show ((1 : Int)).toNat = 1 from rfl] at hx441_0)
    replace hx441_0 := (HB.out.cell (World.block_lt_of_cell? w _ hx441_0)).trans hx441_0
    replace p441 := eq_true p441
    replace q441 := eq_true q441
    refine start_ (n := 46) (S := fun w' => w'.cell? ⟨gb431, 0, none⟩ = some (.int .i64 a0_0) ∧ w'.cell? ⟨gb431, 1, none⟩ = some (.int .i64 a0_1) ∧ w'.cell? ⟨gb431, 2, none⟩ = some (.int .i64 a0_2) ∧ w'.cell? ⟨gb431, 3, none⟩ = some (.int .i64 a0_3) ∧ w'.cell? ⟨gb431, 4, none⟩ = some (.slice (some ad435) l0_4.length c0_4) ∧ w'.cell? ⟨gb431, 5, none⟩ = some (.slice A0_5 l0_5.length c0_5) ∧ w'.cell? ad436 = some (.int .i64 (rd (rd_L1 l0_4 x41_2) 0)) ∧ w'.cell? ⟨ad436.block, ad436.off + 1, none⟩ = some (.int .i64 (rd (rd_L1 l0_4 x41_2) 1)) ∧ w'.cell? ad436 = some (.int .i64 (rd (rd_L1 l0_4 x41_2) 0)) ∧ w'.cell? ⟨ad436.block, ad436.off + 1, none⟩ = some (.int .i64 (rd (rd_L1 l0_4 x41_2) 1))) (ds := []) #[false, false, false, false, false, false, false, false, false, false, false, false, false, false, false, false, false, false, false, false, false, false, false, false, false, false, false, false, false, false, false, false, false, false, false, false, false, false, false, false, false, false, false, false, false, false] (by kernel_rfl) rfl rfl ⟨(kQC BK431.out 0).trans rfl, (kQC BK431.out 1).trans rfl, (kQC BK431.out 2).trans rfl, (kQC BK431.out 3).trans rfl, (kQC BK431.out 4).trans rfl, (kQC BK431.out 5).trans rfl, (tcw tB hw436_0), (tcw tB hw438_0), (tcw tB hw440_0), (tcw tB hw441_0)⟩ (fun hHeld => ?_); refine with_tabW impl_ValidNet.tab6 impl_ValidNet.bits6 (fun HT_ HW_ => ?_)
    generalize wr.drew = w38 at BK431 HB hx436_0 hx438_0 hx440_0 hx441_0 hHeld ⊢
    refine tP0 0 46 (bm 46 1) ?_
    refine tP0 1 47 (bm 46 3) ?_
    refine tP0 2 48 (bm 46 7) ?_
    refine tP0 3 49 (bm 46 15) ?_
    refine tP0 5 51 (bm 46 47) ?_
    refine tP0 6 52 (bm 46 111) ?_
    refine tT10 4 50 (bm 46 127) ?_
    refine tT10 7 53 (bm 46 255) ?_
    refine one_ (i := 8) (N := some 54) (bm 46 511) rfl rfl (one_of HT_.out (by kernel_rfl)) (by decide) (fun K hK => ?_)
    refine goes_ Try.func80 (by kernel_rfl) rfl #[.agg #[.int .i64 a0_0, .int .i64 a0_1, .int .i64 a0_2, .int .i64 a0_3, .slice (some ad435) l0_4.length c0_4, .slice A0_5 l0_5.length c0_5], .int .i64 (rd (rd_L1 l0_4 x41_2) 0)] (by rfl) rfl rfl tL ?_
    with_reducible refine (impl_Net_isNode.calls a0_0 a0_1 a0_2 a0_3 _ _ l0_4 _ _ l0_5 (rd (rd_L1 l0_4 x41_2) 0) true _ ?s1 ?s2 ?s3 ?s4 A32.out).mono ?_
    (case s1 => exact tC ((Kd.C_below HR0_4.out HB.out)))
    (case s2 => exact HC0_4.out)
    (case s3 => exact tC ((Kd.C_below HR0_5.out HB.out)))
    (case s4 => exact HC0_5.out)
    rintro e w39 ⟨rfl, hb⟩
    refine ⟨_, rfl, ?_⟩
    have n0_ := Aq.mk (tQ BK431.out hb)
    have n1_ := Aq.mk (bQT tB hb)
    clear BK431
    clear HB
    have BK431 := n0_
    have HB := n1_
    clear n0_ n1_
    (try clear hb)
    (try clear hb2)
    (try clear hk)
    (try clear hi)
    refine hK.out _ _ ⟨(kQC BK431.out 0).trans rfl, (kQC BK431.out 1).trans rfl, (kQC BK431.out 2).trans rfl, (kQC BK431.out 3).trans rfl, (kQC BK431.out 4).trans rfl, (kQC BK431.out 5).trans rfl, (tcw tB hw436_0), (tcw tB hw438_0), (tcw tB hw440_0), (tcw tB hw441_0)⟩ (fun hHeld => ?_)
    clear hK K
    refine tN 54 ?_
    refine tP0 9 55 (bm 46 1023) ?_
    refine tP0 10 56 (bm 46 2047) ?_
    refine tP0 11 57 (bm 46 4095) ?_
    refine tP0 13 59 (bm 46 12287) ?_
    refine tP0 14 60 (bm 46 28671) ?_
    refine tT10 12 58 (bm 46 32767) ?_
    refine tT10 15 61 (bm 46 65535) ?_
    refine one_ (i := 16) (N := some 62) (bm 46 131071) rfl rfl (one_of HT_.out (by kernel_rfl)) (by decide) (fun K hK => ?_)
    refine goes_ Try.func80 (by kernel_rfl) rfl #[.agg #[.int .i64 a0_0, .int .i64 a0_1, .int .i64 a0_2, .int .i64 a0_3, .slice (some ad435) l0_4.length c0_4, .slice A0_5 l0_5.length c0_5], .int .i64 (rd (rd_L1 l0_4 x41_2) 1)] (by rfl) rfl rfl tL ?_
    with_reducible refine (impl_Net_isNode.calls a0_0 a0_1 a0_2 a0_3 _ _ l0_4 _ _ l0_5 (rd (rd_L1 l0_4 x41_2) 1) true _ ?s1 ?s2 ?s3 ?s4 A35.out).mono ?_
    (case s1 => exact tC ((Kd.C_below HR0_4.out HB.out)))
    (case s2 => exact HC0_4.out)
    (case s3 => exact tC ((Kd.C_below HR0_5.out HB.out)))
    (case s4 => exact HC0_5.out)
    rintro e w40 ⟨rfl, hb⟩
    refine ⟨_, rfl, ?_⟩
    have n0_ := Aq.mk (tQ BK431.out hb)
    have n1_ := Aq.mk (bQT tB hb)
    clear BK431
    clear HB
    have BK431 := n0_
    have HB := n1_
    clear n0_ n1_
    (try clear hb)
    (try clear hb2)
    (try clear hk)
    (try clear hi)
    refine hK.out _ _ ⟨(kQC BK431.out 0).trans rfl, (kQC BK431.out 1).trans rfl, (kQC BK431.out 2).trans rfl, (kQC BK431.out 3).trans rfl, (kQC BK431.out 4).trans rfl, (kQC BK431.out 5).trans rfl, (tcw tB hw436_0), (tcw tB hw438_0), (tcw tB hw440_0), (tcw tB hw441_0)⟩ (fun hHeld => ?_)
    clear hK K
    refine tN 62 ?_
    refine tP0 17 63 (bm 46 262143) ?_
    refine tP0 18 64 (bm 46 524287) ?_
    refine tP0 19 65 (bm 46 1048575) ?_
    refine tP0 20 66 (bm 46 2097151) ?_
    refine tP0 21 67 (bm 46 4194303) ?_
    refine tP0 23 69 (bm 46 12582911) ?_
    refine tP0 24 70 (bm 46 29360127) ?_
    refine tT10 22 68 (bm 46 33554431) ?_
    refine tT10 25 71 (bm 46 67108863) ?_
    refine tP0 26 72 (bm 46 134217727) ?_
    refine tP0 27 73 (bm 46 268435455) ?_
    refine tP0 28 74 (bm 46 536870911) ?_
    refine pure_ (i := 29) (N := some 75) (v := undef) (a' := ?_) #[true, true, true, true, true, true, true, true, true, true, true, true, true, true, true, true, true, true, true, true, true, true, true, true, true, true, true, true, true, true, false, false, false, false, false, false, false, false, false, false, false, false, false, false, false, false] rfl rfl (any_of HT_.out (by kernel_rfl)) (fun _ _ _ h => h) (Or.inr ⟨by rfl, rfl⟩) ?_ ?_
    rotate_left
    ·simp only [Act.put, qSa, qSb, qSc, i64_w, i32_w]
     rfl
    refine pure_ (i := 30) (N := some 76) (v := undef) (a' := ?_) #[true, true, true, true, true, true, true, true, true, true, true, true, true, true, true, true, true, true, true, true, true, true, true, true, true, true, true, true, true, true, true, false, false, false, false, false, false, false, false, false, false, false, false, false, false, false] rfl rfl (any_of HT_.out (by kernel_rfl)) (fun _ _ _ h => h) (Or.inr ⟨by rfl, rfl⟩) ?_ ?_
    rotate_left
    ·simp only [Act.put, qSa, qSb, qSc, i64_w, i32_w]
     rfl
    refine pure_ (i := 31) (N := some 77) (v := undef) (a' := ?_) #[true, true, true, true, true, true, true, true, true, true, true, true, true, true, true, true, true, true, true, true, true, true, true, true, true, true, true, true, true, true, true, true, false, false, false, false, false, false, false, false, false, false, false, false, false, false] rfl rfl (any_of HT_.out (by kernel_rfl)) (fun _ _ _ h => h) (Or.inr ⟨by rfl, rfl⟩) ?_ ?_
    rotate_left
    ·simp only [Act.put, qSa, qSb, qSc, i64_w, i32_w]
     rfl
    refine pure_ (i := 32) (N := some 78) (v := undef) (a' := ?_) #[true, true, true, true, true, true, true, true, true, true, true, true, true, true, true, true, true, true, true, true, true, true, true, true, true, true, true, true, true, true, true, true, true, false, false, false, false, false, false, false, false, false, false, false, false, false] rfl rfl (any_of HT_.out (by kernel_rfl)) (fun _ _ _ h => h) (Or.inr ⟨by rfl, rfl⟩) ?_ ?_
    rotate_left
    ·simp only [Act.put, qSa, qSb, qSc, i64_w, i32_w]
     rfl
    refine pure_ (i := 33) (N := some 79) (v := undef) (a' := ?_) #[true, true, true, true, true, true, true, true, true, true, true, true, true, true, true, true, true, true, true, true, true, true, true, true, true, true, true, true, true, true, true, true, true, true, false, false, false, false, false, false, false, false, false, false, false, false] rfl rfl (any_of HT_.out (by kernel_rfl)) (fun _ _ _ h => h) (Or.inr ⟨by rfl, rfl⟩) ?_ ?_
    rotate_left
    ·simp only [Act.put, qSa, qSb, qSc, i64_w, i32_w]
     rfl
    refine pure_ (i := 34) (N := some 80) (v := undef) (a' := ?_) #[true, true, true, true, true, true, true, true, true, true, true, true, true, true, true, true, true, true, true, true, true, true, true, true, true, true, true, true, true, true, true, true, true, true, true, false, false, false, false, false, false, false, false, false, false, false] rfl rfl (any_of HT_.out (by kernel_rfl)) (fun _ _ _ h => h) (Or.inr ⟨by rfl, rfl⟩) ?_ ?_
    rotate_left
    ·simp only [Act.put, qSa, qSb, qSc, i64_w, i32_w]
     rfl
    refine pure_ (i := 35) (N := some 81) (v := undef) (a' := ?_) #[true, true, true, true, true, true, true, true, true, true, true, true, true, true, true, true, true, true, true, true, true, true, true, true, true, true, true, true, true, true, true, true, true, true, true, true, false, false, false, false, false, false, false, false, false, false] rfl rfl (any_of HT_.out (by kernel_rfl)) (fun _ _ _ h => h) (Or.inr ⟨by rfl, rfl⟩) ?_ ?_
    rotate_left
    ·simp only [Act.put, qSa, qSb, qSc, i64_w, i32_w]
     rfl
    refine pure_ (i := 36) (N := some 82) (v := undef) (a' := ?_) #[true, true, true, true, true, true, true, true, true, true, true, true, true, true, true, true, true, true, true, true, true, true, true, true, true, true, true, true, true, true, true, true, true, true, true, true, true, false, false, false, false, false, false, false, false, false] rfl rfl (any_of HT_.out (by kernel_rfl)) (fun _ _ _ h => h) (Or.inr ⟨by rfl, rfl⟩) ?_ ?_
    rotate_left
    ·simp only [Act.put, qSa, qSb, qSc, i64_w, i32_w]
     rfl
    refine pure_ (i := 37) (N := some 83) (v := undef) (a' := ?_) #[true, true, true, true, true, true, true, true, true, true, true, true, true, true, true, true, true, true, true, true, true, true, true, true, true, true, true, true, true, true, true, true, true, true, true, true, true, true, false, false, false, false, false, false, false, false] rfl rfl (any_of HT_.out (by kernel_rfl)) (fun _ _ _ h => h) (Or.inr ⟨by rfl, rfl⟩) ?_ ?_
    rotate_left
    ·simp only [Act.put, qSa, qSb, qSc, i64_w, i32_w]
     rfl
    refine pure_ (i := 38) (N := some 84) (v := undef) (a' := ?_) #[true, true, true, true, true, true, true, true, true, true, true, true, true, true, true, true, true, true, true, true, true, true, true, true, true, true, true, true, true, true, true, true, true, true, true, true, true, true, true, false, false, false, false, false, false, false] rfl rfl (any_of HT_.out (by kernel_rfl)) (fun _ _ _ h => h) (Or.inr ⟨by rfl, rfl⟩) ?_ ?_
    rotate_left
    ·simp only [Act.put, qSa, qSb, qSc, i64_w, i32_w]
     rfl
    refine pure_ (i := 39) (N := some 85) (v := undef) (a' := ?_) #[true, true, true, true, true, true, true, true, true, true, true, true, true, true, true, true, true, true, true, true, true, true, true, true, true, true, true, true, true, true, true, true, true, true, true, true, true, true, true, true, false, false, false, false, false, false] rfl rfl (any_of HT_.out (by kernel_rfl)) (fun _ _ _ h => h) (Or.inr ⟨by rfl, rfl⟩) ?_ ?_
    rotate_left
    ·simp only [Act.put, qSa, qSb, qSc, i64_w, i32_w]
     rfl
    refine pure_ (i := 40) (N := some 86) (v := undef) (a' := ?_) #[true, true, true, true, true, true, true, true, true, true, true, true, true, true, true, true, true, true, true, true, true, true, true, true, true, true, true, true, true, true, true, true, true, true, true, true, true, true, true, true, true, false, false, false, false, false] rfl rfl (any_of HT_.out (by kernel_rfl)) (fun _ _ _ h => h) (Or.inr ⟨by rfl, rfl⟩) ?_ ?_
    rotate_left
    ·simp only [Act.put, qSa, qSb, qSc, i64_w, i32_w]
     rfl
    refine pure_ (i := 41) (N := some 87) (v := undef) (a' := ?_) #[true, true, true, true, true, true, true, true, true, true, true, true, true, true, true, true, true, true, true, true, true, true, true, true, true, true, true, true, true, true, true, true, true, true, true, true, true, true, true, true, true, true, false, false, false, false] rfl rfl (any_of HT_.out (by kernel_rfl)) (fun _ _ _ h => h) (Or.inr ⟨by rfl, rfl⟩) ?_ ?_
    rotate_left
    ·simp only [Act.put, qSa, qSb, qSc, i64_w, i32_w]
     rfl
    refine pure_ (i := 42) (N := some 88) (v := undef) (a' := ?_) #[true, true, true, true, true, true, true, true, true, true, true, true, true, true, true, true, true, true, true, true, true, true, true, true, true, true, true, true, true, true, true, true, true, true, true, true, true, true, true, true, true, true, true, false, false, false] rfl rfl (any_of HT_.out (by kernel_rfl)) (fun _ _ _ h => h) (Or.inr ⟨by rfl, rfl⟩) ?_ ?_
    rotate_left
    ·simp only [Act.put, qSa, qSb, qSc, i64_w, i32_w]
     rfl
    refine pure_ (i := 43) (N := some 89) (v := undef) (a' := ?_) #[true, true, true, true, true, true, true, true, true, true, true, true, true, true, true, true, true, true, true, true, true, true, true, true, true, true, true, true, true, true, true, true, true, true, true, true, true, true, true, true, true, true, true, true, false, false] rfl rfl (any_of HT_.out (by kernel_rfl)) (fun _ _ _ h => h) (Or.inr ⟨by rfl, rfl⟩) ?_ ?_
    rotate_left
    ·simp only [Act.put, qSa, qSb, qSc, i64_w, i32_w]
     rfl
    refine pure_ (i := 44) (N := some 90) (v := undef) (a' := ?_) #[true, true, true, true, true, true, true, true, true, true, true, true, true, true, true, true, true, true, true, true, true, true, true, true, true, true, true, true, true, true, true, true, true, true, true, true, true, true, true, true, true, true, true, true, true, false] rfl rfl (any_of HT_.out (by kernel_rfl)) (fun _ _ _ h => h) (Or.inr ⟨by rfl, rfl⟩) ?_ ?_
    rotate_left
    ·simp only [Act.put, qSa, qSb, qSc, i64_w, i32_w]
     rfl
    refine tP0 45 91 (bm 46 70368744177663) ?_
    refine done_ (done_of HT_.out (by kernel_rfl)) ?_
    try go_wp2
    go_ret
    exact ⟨tE, tB⟩
   rw [if_neg c37] at H
   have c37b0 := decide_eq_false c37
   clear c37
   by_cases c41 : x41_2 > 0
   rotate_left
   ·rw [if_neg c41] at H
    have c41b0 := decide_eq_false c41
    clear c41
    replace H' := Aq.mk H
    clear H
    have p435 : 0 ≤ (x41_2 : Int) := of_decide_eq_true tA
    have q435 : x41_2 < (l0_4.length : Int) := of_decide_eq_true tA
    obtain ⟨ad435, A435_0, c435_0, e435, hx435_0, hl435_0, hi435_0⟩ := at_L1 HR0_4.out x41_2 p435 q435
    cases e435
    replace hx435_0 := (HB.out.cell (World.block_lt_of_cell? w _ hx435_0)).trans hx435_0
    have HR435_0 := Aq.mk hi435_0
    have HC435_0 := Aq.mk hl435_0
    clear hi435_0 hl435_0
    replace p435 := eq_true p435
    replace q435 := eq_true q435
    try go_wp2
    have n0_ := Aq.mk (kQD BK431.out)
    have n1_ := Aq.mk (bQ1 HB.out)
    clear BK431
    clear HB
    have BK431 := n0_
    have HB := n1_
    clear n0_ n1_
    have p436 : 0 ≤ (0 : Int) := (by omega)
    have q436 : 0 < ((rd_L1 l0_4 x41_2).length : Int) := of_decide_eq_true tA
    obtain ⟨ad436, e436, hx436_0⟩ := Kd.at_int HR435_0.out 0 p436 q436
    have hw436_0 := hx436_0
    (try rw [show ((0 : Int)).toNat = 0 from rfl] at hw436_0)
    (try rw [show 0 * 1 = 0 from rfl] at hw436_0)
    (try rw [Addr.add_zero'] at hw436_0)
    cases e436
    have qi436 : (0 < (rd_L1 l0_4 x41_2).length) = True := eq_true (by omega)
    (try rw [show ((0 : Int)).toNat = 0 from rfl] at hx436_0)
    (try rw [Addr.add_zero'] at hx436_0)
    replace hx436_0 := (HB.out.cell (World.block_lt_of_cell? w _ hx436_0)).trans hx436_0
    replace p436 := eq_true p436
    replace q436 := eq_true q436
    have p438 : 0 ≤ (1 : Int) := (by omega)
    have q438 : 1 < ((rd_L1 l0_4 x41_2).length : Int) := of_decide_eq_true tA
    obtain ⟨ad438, e438, hx438_0⟩ := Kd.at_int HR435_0.out 1 p438 q438
    have hw438_0 := hx438_0
    (try rw [show ((1 : Int)).toNat = 1 from rfl] at hw438_0)
    (try rw [show 1 * 1 = 1 from rfl] at hw438_0)
    (try simp only [Nat.reduceMul, Nat.reduceEqDiff, Go.Addr.add, ↓reduceIte] at hw438_0)
    obtain rfl : ad436 = ad438 := (by injection e438)
    (try simp only [show (1 : Int).toNat = 1 from rfl, Nat.reduceMul, Nat.reduceEqDiff, Go.Addr.add, ↓reduceIte] at hx438_0)
    have qi438 : (1 < (rd_L1 l0_4 x41_2).length) = True := eq_true (by omega)
    (try rw [show ((1 : Int)).toNat = 1 from rfl] at hx438_0)
    replace hx438_0 := (HB.out.cell (World.block_lt_of_cell? w _ hx438_0)).trans hx438_0
    replace p438 := eq_true p438
    replace q438 := eq_true q438
    have p440 : 0 ≤ (0 : Int) := (by omega)
    have q440 : 0 < ((rd_L1 l0_4 x41_2).length : Int) := of_decide_eq_true tA
    obtain ⟨ad440, e440, hx440_0⟩ := Kd.at_int HR435_0.out 0 p440 q440
    have hw440_0 := hx440_0
    (try rw [show ((0 : Int)).toNat = 0 from rfl] at hw440_0)
    (try rw [show 0 * 1 = 0 from rfl] at hw440_0)
    (try rw [Addr.add_zero'] at hw440_0)
    obtain rfl : ad436 = ad440 := (by injection e440)
    have qi440 : (0 < (rd_L1 l0_4 x41_2).length) = True := eq_true (by omega)
    (try rw [show ((0 : Int)).toNat = 0 from rfl] at hx440_0)
    (try rw [Addr.add_zero'] at hx440_0)
    replace hx440_0 := (HB.out.cell (World.block_lt_of_cell? w _ hx440_0)).trans hx440_0
    replace p440 := eq_true p440
    replace q440 := eq_true q440
    have p441 : 0 ≤ (1 : Int) := (by omega)
    have q441 : 1 < ((rd_L1 l0_4 x41_2).length : Int) := of_decide_eq_true tA
    obtain ⟨ad441, e441, hx441_0⟩ := Kd.at_int HR435_0.out 1 p441 q441
    have hw441_0 := hx441_0
    (try rw [show ((1 : Int)).toNat = 1 from rfl] at hw441_0)
    (try rw [show 1 * 1 = 1 from rfl] at hw441_0)
    (try simp only [Nat.reduceMul, Nat.reduceEqDiff, Go.Addr.add, ↓reduceIte] at hw441_0)
    obtain rfl : ad436 = ad441 := (by injection e441)
    (try simp only [show (1 : Int).toNat = 1 from rfl, Nat.reduceMul, Nat.reduceEqDiff, Go.Addr.add, ↓reduceIte] at hx441_0)
    have qi441 : (1 < (rd_L1 l0_4 x41_2).length) = True := eq_true (by omega)
    (try rw [show ((1 : Int)).toNat = 1 from rfl] at hx441_0)
    replace hx441_0 := (HB.out.cell (World.block_lt_of_cell? w _ hx441_0)).trans hx441_0
    replace p441 := eq_true p441
    replace q441 := eq_true q441
    refine start_ (n := 46) (S := fun w' => w'.cell? ⟨gb431, 0, none⟩ = some (.int .i64 a0_0) ∧ w'.cell? ⟨gb431, 1, none⟩ = some (.int .i64 a0_1) ∧ w'.cell? ⟨gb431, 2, none⟩ = some (.int .i64 a0_2) ∧ w'.cell? ⟨gb431, 3, none⟩ = some (.int .i64 a0_3) ∧ w'.cell? ⟨gb431, 4, none⟩ = some (.slice (some ad435) l0_4.length c0_4) ∧ w'.cell? ⟨gb431, 5, none⟩ = some (.slice A0_5 l0_5.length c0_5) ∧ w'.cell? ad436 = some (.int .i64 (rd (rd_L1 l0_4 x41_2) 0)) ∧ w'.cell? ⟨ad436.block, ad436.off + 1, none⟩ = some (.int .i64 (rd (rd_L1 l0_4 x41_2) 1)) ∧ w'.cell? ad436 = some (.int .i64 (rd (rd_L1 l0_4 x41_2) 0)) ∧ w'.cell? ⟨ad436.block, ad436.off + 1, none⟩ = some (.int .i64 (rd (rd_L1 l0_4 x41_2) 1))) (ds := []) #[false, false, false, false, false, false, false, false, false, false, false, false, false, false, false, false, false, false, false, false, false, false, false, false, false, false, false, false, false, false, false, false, false, false, false, false, false, false, false, false, false, false, false, false, false, false] (by kernel_rfl) rfl rfl ⟨(kQC BK431.out 0).trans rfl, (kQC BK431.out 1).trans rfl, (kQC BK431.out 2).trans rfl, (kQC BK431.out 3).trans rfl, (kQC BK431.out 4).trans rfl, (kQC BK431.out 5).trans rfl, (tcw tB hw436_0), (tcw tB hw438_0), (tcw tB hw440_0), (tcw tB hw441_0)⟩ (fun hHeld => ?_); refine with_tabW impl_ValidNet.tab6 impl_ValidNet.bits6 (fun HT_ HW_ => ?_)
    generalize wr.drew = w53 at BK431 HB hx436_0 hx438_0 hx440_0 hx441_0 hHeld ⊢
    refine tP0 0 46 (bm 46 1) ?_
    refine tP0 1 47 (bm 46 3) ?_
    refine tP0 2 48 (bm 46 7) ?_
    refine tP0 3 49 (bm 46 15) ?_
    refine tP0 5 51 (bm 46 47) ?_
    refine tP0 6 52 (bm 46 111) ?_
    refine tT10 4 50 (bm 46 127) ?_
    refine tT10 7 53 (bm 46 255) ?_
    refine one_ (i := 8) (N := some 54) (bm 46 511) rfl rfl (one_of HT_.out (by kernel_rfl)) (by decide) (fun K hK => ?_)
    refine goes_ Try.func80 (by kernel_rfl) rfl #[.agg #[.int .i64 a0_0, .int .i64 a0_1, .int .i64 a0_2, .int .i64 a0_3, .slice (some ad435) l0_4.length c0_4, .slice A0_5 l0_5.length c0_5], .int .i64 (rd (rd_L1 l0_4 x41_2) 0)] (by rfl) rfl rfl tL ?_
    with_reducible refine (impl_Net_isNode.calls a0_0 a0_1 a0_2 a0_3 _ _ l0_4 _ _ l0_5 (rd (rd_L1 l0_4 x41_2) 0) true _ ?s1 ?s2 ?s3 ?s4 A32.out).mono ?_
    (case s1 => exact tC ((Kd.C_below HR0_4.out HB.out)))
    (case s2 => exact HC0_4.out)
    (case s3 => exact tC ((Kd.C_below HR0_5.out HB.out)))
    (case s4 => exact HC0_5.out)
    rintro e w54 ⟨rfl, hb⟩
    refine ⟨_, rfl, ?_⟩
    have n0_ := Aq.mk (tQ BK431.out hb)
    have n1_ := Aq.mk (bQT tB hb)
    clear BK431
    clear HB
    have BK431 := n0_
    have HB := n1_
    clear n0_ n1_
    (try clear hb)
    (try clear hb2)
    (try clear hk)
    (try clear hi)
    refine hK.out _ _ ⟨(kQC BK431.out 0).trans rfl, (kQC BK431.out 1).trans rfl, (kQC BK431.out 2).trans rfl, (kQC BK431.out 3).trans rfl, (kQC BK431.out 4).trans rfl, (kQC BK431.out 5).trans rfl, (tcw tB hw436_0), (tcw tB hw438_0), (tcw tB hw440_0), (tcw tB hw441_0)⟩ (fun hHeld => ?_)
    clear hK K
    refine tN 54 ?_
    refine tP0 9 55 (bm 46 1023) ?_
    refine tP0 10 56 (bm 46 2047) ?_
    refine tP0 11 57 (bm 46 4095) ?_
    refine tP0 13 59 (bm 46 12287) ?_
    refine tP0 14 60 (bm 46 28671) ?_
    refine tT10 12 58 (bm 46 32767) ?_
    refine tT10 15 61 (bm 46 65535) ?_
    refine one_ (i := 16) (N := some 62) (bm 46 131071) rfl rfl (one_of HT_.out (by kernel_rfl)) (by decide) (fun K hK => ?_)
    refine goes_ Try.func80 (by kernel_rfl) rfl #[.agg #[.int .i64 a0_0, .int .i64 a0_1, .int .i64 a0_2, .int .i64 a0_3, .slice (some ad435) l0_4.length c0_4, .slice A0_5 l0_5.length c0_5], .int .i64 (rd (rd_L1 l0_4 x41_2) 1)] (by rfl) rfl rfl tL ?_
    with_reducible refine (impl_Net_isNode.calls a0_0 a0_1 a0_2 a0_3 _ _ l0_4 _ _ l0_5 (rd (rd_L1 l0_4 x41_2) 1) true _ ?s1 ?s2 ?s3 ?s4 A35.out).mono ?_
    (case s1 => exact tC ((Kd.C_below HR0_4.out HB.out)))
    (case s2 => exact HC0_4.out)
    (case s3 => exact tC ((Kd.C_below HR0_5.out HB.out)))
    (case s4 => exact HC0_5.out)
    rintro e w55 ⟨rfl, hb⟩
    refine ⟨_, rfl, ?_⟩
    have n0_ := Aq.mk (tQ BK431.out hb)
    have n1_ := Aq.mk (bQT tB hb)
    clear BK431
    clear HB
    have BK431 := n0_
    have HB := n1_
    clear n0_ n1_
    (try clear hb)
    (try clear hb2)
    (try clear hk)
    (try clear hi)
    refine hK.out _ _ ⟨(kQC BK431.out 0).trans rfl, (kQC BK431.out 1).trans rfl, (kQC BK431.out 2).trans rfl, (kQC BK431.out 3).trans rfl, (kQC BK431.out 4).trans rfl, (kQC BK431.out 5).trans rfl, (tcw tB hw436_0), (tcw tB hw438_0), (tcw tB hw440_0), (tcw tB hw441_0)⟩ (fun hHeld => ?_)
    clear hK K
    refine tN 62 ?_
    refine tP0 17 63 (bm 46 262143) ?_
    refine tP0 18 64 (bm 46 524287) ?_
    refine tP0 19 65 (bm 46 1048575) ?_
    refine tP0 20 66 (bm 46 2097151) ?_
    refine tP0 21 67 (bm 46 4194303) ?_
    refine tP0 23 69 (bm 46 12582911) ?_
    refine tP0 24 70 (bm 46 29360127) ?_
    refine tT10 22 68 (bm 46 33554431) ?_
    refine tT10 25 71 (bm 46 67108863) ?_
    refine tP0 26 72 (bm 46 134217727) ?_
    refine tP0 27 73 (bm 46 268435455) ?_
    refine tP0 28 74 (bm 46 536870911) ?_
    refine tP0 29 75 (bm 46 1073741823) ?_
    refine tP0 30 76 (bm 46 2147483647) ?_
    refine tP0 31 77 (bm 46 4294967295) ?_
    refine pure_ (i := 32) (N := some 78) (v := undef) (a' := ?_) #[true, true, true, true, true, true, true, true, true, true, true, true, true, true, true, true, true, true, true, true, true, true, true, true, true, true, true, true, true, true, true, true, true, false, false, false, false, false, false, false, false, false, false, false, false, false] rfl rfl (any_of HT_.out (by kernel_rfl)) (fun _ _ _ h => h) (Or.inr ⟨by rfl, rfl⟩) ?_ ?_
    rotate_left
    ·simp only [Act.put, qSa, qSb, qSc, i64_w, i32_w]
     rfl
    refine pure_ (i := 33) (N := some 79) (v := undef) (a' := ?_) #[true, true, true, true, true, true, true, true, true, true, true, true, true, true, true, true, true, true, true, true, true, true, true, true, true, true, true, true, true, true, true, true, true, true, false, false, false, false, false, false, false, false, false, false, false, false] rfl rfl (any_of HT_.out (by kernel_rfl)) (fun _ _ _ h => h) (Or.inr ⟨by rfl, rfl⟩) ?_ ?_
    rotate_left
    ·simp only [Act.put, qSa, qSb, qSc, i64_w, i32_w]
     rfl
    refine pure_ (i := 34) (N := some 80) (v := undef) (a' := ?_) #[true, true, true, true, true, true, true, true, true, true, true, true, true, true, true, true, true, true, true, true, true, true, true, true, true, true, true, true, true, true, true, true, true, true, true, false, false, false, false, false, false, false, false, false, false, false] rfl rfl (any_of HT_.out (by kernel_rfl)) (fun _ _ _ h => h) (Or.inr ⟨by rfl, rfl⟩) ?_ ?_
    rotate_left
    ·simp only [Act.put, qSa, qSb, qSc, i64_w, i32_w]
     rfl
    refine pure_ (i := 35) (N := some 81) (v := undef) (a' := ?_) #[true, true, true, true, true, true, true, true, true, true, true, true, true, true, true, true, true, true, true, true, true, true, true, true, true, true, true, true, true, true, true, true, true, true, true, true, false, false, false, false, false, false, false, false, false, false] rfl rfl (any_of HT_.out (by kernel_rfl)) (fun _ _ _ h => h) (Or.inr ⟨by rfl, rfl⟩) ?_ ?_
    rotate_left
    ·simp only [Act.put, qSa, qSb, qSc, i64_w, i32_w]
     rfl
    refine pure_ (i := 36) (N := some 82) (v := undef) (a' := ?_) #[true, true, true, true, true, true, true, true, true, true, true, true, true, true, true, true, true, true, true, true, true, true, true, true, true, true, true, true, true, true, true, true, true, true, true, true, true, false, false, false, false, false, false, false, false, false] rfl rfl (any_of HT_.out (by kernel_rfl)) (fun _ _ _ h => h) (Or.inr ⟨by rfl, rfl⟩) ?_ ?_
    rotate_left
    ·simp only [Act.put, qSa, qSb, qSc, i64_w, i32_w]
     rfl
    refine pure_ (i := 37) (N := some 83) (v := undef) (a' := ?_) #[true, true, true, true, true, true, true, true, true, true, true, true, true, true, true, true, true, true, true, true, true, true, true, true, true, true, true, true, true, true, true, true, true, true, true, true, true, true, false, false, false, false, false, false, false, false] rfl rfl (any_of HT_.out (by kernel_rfl)) (fun _ _ _ h => h) (Or.inr ⟨by rfl, rfl⟩) ?_ ?_
    rotate_left
    ·simp only [Act.put, qSa, qSb, qSc, i64_w, i32_w]
     rfl
    refine pure_ (i := 38) (N := some 84) (v := undef) (a' := ?_) #[true, true, true, true, true, true, true, true, true, true, true, true, true, true, true, true, true, true, true, true, true, true, true, true, true, true, true, true, true, true, true, true, true, true, true, true, true, true, true, false, false, false, false, false, false, false] rfl rfl (any_of HT_.out (by kernel_rfl)) (fun _ _ _ h => h) (Or.inr ⟨by rfl, rfl⟩) ?_ ?_
    rotate_left
    ·simp only [Act.put, qSa, qSb, qSc, i64_w, i32_w]
     rfl
    refine pure_ (i := 39) (N := some 85) (v := undef) (a' := ?_) #[true, true, true, true, true, true, true, true, true, true, true, true, true, true, true, true, true, true, true, true, true, true, true, true, true, true, true, true, true, true, true, true, true, true, true, true, true, true, true, true, false, false, false, false, false, false] rfl rfl (any_of HT_.out (by kernel_rfl)) (fun _ _ _ h => h) (Or.inr ⟨by rfl, rfl⟩) ?_ ?_
    rotate_left
    ·simp only [Act.put, qSa, qSb, qSc, i64_w, i32_w]
     rfl
    refine pure_ (i := 40) (N := some 86) (v := undef) (a' := ?_) #[true, true, true, true, true, true, true, true, true, true, true, true, true, true, true, true, true, true, true, true, true, true, true, true, true, true, true, true, true, true, true, true, true, true, true, true, true, true, true, true, true, false, false, false, false, false] rfl rfl (any_of HT_.out (by kernel_rfl)) (fun _ _ _ h => h) (Or.inr ⟨by rfl, rfl⟩) ?_ ?_
    rotate_left
    ·simp only [Act.put, qSa, qSb, qSc, i64_w, i32_w]
     rfl
    refine pure_ (i := 41) (N := some 87) (v := undef) (a' := ?_) #[true, true, true, true, true, true, true, true, true, true, true, true, true, true, true, true, true, true, true, true, true, true, true, true, true, true, true, true, true, true, true, true, true, true, true, true, true, true, true, true, true, true, false, false, false, false] rfl rfl (any_of HT_.out (by kernel_rfl)) (fun _ _ _ h => h) (Or.inr ⟨by rfl, rfl⟩) ?_ ?_
    rotate_left
    ·simp only [Act.put, qSa, qSb, qSc, i64_w, i32_w]
     rfl
    refine pure_ (i := 42) (N := some 88) (v := undef) (a' := ?_) #[true, true, true, true, true, true, true, true, true, true, true, true, true, true, true, true, true, true, true, true, true, true, true, true, true, true, true, true, true, true, true, true, true, true, true, true, true, true, true, true, true, true, true, false, false, false] rfl rfl (any_of HT_.out (by kernel_rfl)) (fun _ _ _ h => h) (Or.inr ⟨by rfl, rfl⟩) ?_ ?_
    rotate_left
    ·simp only [Act.put, qSa, qSb, qSc, i64_w, i32_w]
     rfl
    refine pure_ (i := 43) (N := some 89) (v := undef) (a' := ?_) #[true, true, true, true, true, true, true, true, true, true, true, true, true, true, true, true, true, true, true, true, true, true, true, true, true, true, true, true, true, true, true, true, true, true, true, true, true, true, true, true, true, true, true, true, false, false] rfl rfl (any_of HT_.out (by kernel_rfl)) (fun _ _ _ h => h) (Or.inr ⟨by rfl, rfl⟩) ?_ ?_
    rotate_left
    ·simp only [Act.put, qSa, qSb, qSc, i64_w, i32_w]
     rfl
    refine tP0 44 90 (bm 46 35184372088831) ?_
    refine tP0 45 91 (bm 46 70368744177663) ?_
    refine done_ (done_of HT_.out (by kernel_rfl)) ?_
    try go_wp2
    go_roundg k2
    case measure => have := HJ1.out; have := HK2.out; omega
    case rel => exact ⟨(wrap64 (x41_2 + 1)), tS, H', ⟨by have := HJ1.out; have := HK2.out; omega⟩, ⟨tG BK431.out⟩, ⟨tB⟩⟩
   rw [if_pos c41] at H
   have c41b0 := decide_eq_true c41
   clear c41
   obtain ⟨ji42, hji42⟩ : ∃ j_ : Int, (wrap64 (x41_2 - 1)) = j_ := ⟨_, rfl⟩
   first | rw [hji42] at H | simp only [hji42] at H | skip
   (try rw [hji42] at A32)
   (try rw [hji42] at A35)
   have hji42w : (IntKind.i64.wrap (x41_2 - 1)) = ji42 := (i64_w _).trans hji42
   by_cases c43 : 0 ≤ (ji42)
   rotate_left
   ·rw [if_neg c43] at H
    exact absurd H (by simp)
   rw [if_pos c43] at H
   have c43b0 := decide_eq_true c43
   clear c43
   by_cases c44 : (ji42) < (l0_4.length : Int)
   rotate_left
   ·rw [if_neg c44] at H
    exact absurd H (by simp)
   rw [if_pos c44] at H
   have c44b0 := decide_eq_true c44
   clear c44
   by_cases c45 : 0 < ((rd_L1 l0_4 (ji42)).length : Int)
   rotate_left
   ·rw [if_neg c45] at H
    exact absurd H (by simp)
   rw [if_pos c45] at H
   have c45b0 := decide_eq_true c45
   have c45b1 : decide (0 < (rd_L1 l0_4 (ji42)).length) = true := decide_eq_true (by omega)
   clear c45
   by_cases c46 : (rd (rd_L1 l0_4 x41_2) 0) < (rd (rd_L1 l0_4 (ji42)) 0)
   ·rw [if_pos c46] at H
    have c46b0 := decide_eq_true c46
    clear c46
    obtain rfl := Option.some.inj H
    have p435 : 0 ≤ (x41_2 : Int) := of_decide_eq_true tA
    have q435 : x41_2 < (l0_4.length : Int) := of_decide_eq_true tA
    obtain ⟨ad435, A435_0, c435_0, e435, hx435_0, hl435_0, hi435_0⟩ := at_L1 HR0_4.out x41_2 p435 q435
    cases e435
    replace hx435_0 := (HB.out.cell (World.block_lt_of_cell? w _ hx435_0)).trans hx435_0
    have HR435_0 := Aq.mk hi435_0
    have HC435_0 := Aq.mk hl435_0
    clear hi435_0 hl435_0
    replace p435 := eq_true p435
    replace q435 := eq_true q435
    try go_wp2
    have n0_ := Aq.mk (kQD BK431.out)
    have n1_ := Aq.mk (bQ1 HB.out)
    clear BK431
    clear HB
    have BK431 := n0_
    have HB := n1_
    clear n0_ n1_
    have p436 : 0 ≤ (0 : Int) := (by omega)
    have q436 : 0 < ((rd_L1 l0_4 x41_2).length : Int) := of_decide_eq_true tA
    obtain ⟨ad436, e436, hx436_0⟩ := Kd.at_int HR435_0.out 0 p436 q436
    have hw436_0 := hx436_0
    (try rw [show ((0 : Int)).toNat = 0 from rfl] at hw436_0)
    (try rw [show 0 * 1 = 0 from rfl] at hw436_0)
    (try rw [Addr.add_zero'] at hw436_0)
    cases e436
    have qi436 : (0 < (rd_L1 l0_4 x41_2).length) = True := eq_true (by omega)
    (try rw [show ((0 : Int)).toNat = 0 from rfl] at hx436_0)
    (try rw [Addr.add_zero'] at hx436_0)
    replace hx436_0 := (HB.out.cell (World.block_lt_of_cell? w _ hx436_0)).trans hx436_0
    replace p436 := eq_true p436
    replace q436 := eq_true q436
    have p438 : 0 ≤ (1 : Int) := (by omega)
    have q438 : 1 < ((rd_L1 l0_4 x41_2).length : Int) := of_decide_eq_true tA
    obtain ⟨ad438, e438, hx438_0⟩ := Kd.at_int HR435_0.out 1 p438 q438
    have hw438_0 := hx438_0
    (try rw [show ((1 : Int)).toNat = 1 from rfl] at hw438_0)
    (try rw [show 1 * 1 = 1 from rfl] at hw438_0)
    (try simp only [Nat.reduceMul, Nat.reduceEqDiff, Go.Addr.add, ↓reduceIte] at hw438_0)
    obtain rfl : ad436 = ad438 := (by injection e438)
    (try simp only [show (1 : Int).toNat = 1 from rfl, Nat.reduceMul, Nat.reduceEqDiff, Go.Addr.add, ↓reduceIte] at hx438_0)
    have qi438 : (1 < (rd_L1 l0_4 x41_2).length) = True := eq_true (by omega)
    (try rw [show ((1 : Int)).toNat = 1 from rfl] at hx438_0)
    replace hx438_0 := (HB.out.cell (World.block_lt_of_cell? w _ hx438_0)).trans hx438_0
    replace p438 := eq_true p438
    replace q438 := eq_true q438
    have p440 : 0 ≤ (0 : Int) := (by omega)
    have q440 : 0 < ((rd_L1 l0_4 x41_2).length : Int) := of_decide_eq_true tA
    obtain ⟨ad440, e440, hx440_0⟩ := Kd.at_int HR435_0.out 0 p440 q440
    have hw440_0 := hx440_0
    (try rw [show ((0 : Int)).toNat = 0 from rfl] at hw440_0)
    (try rw [show 0 * 1 = 0 from rfl] at hw440_0)
    (try rw [Addr.add_zero'] at hw440_0)
    obtain rfl : ad436 = ad440 := (by injection e440)
    have qi440 : (0 < (rd_L1 l0_4 x41_2).length) = True := eq_true (by omega)
    (try rw [show ((0 : Int)).toNat = 0 from rfl] at hx440_0)
    (try rw [Addr.add_zero'] at hx440_0)
    replace hx440_0 := (HB.out.cell (World.block_lt_of_cell? w _ hx440_0)).trans hx440_0
    replace p440 := eq_true p440
    replace q440 := eq_true q440
    have p441 : 0 ≤ (1 : Int) := (by omega)
    have q441 : 1 < ((rd_L1 l0_4 x41_2).length : Int) := of_decide_eq_true tA
    obtain ⟨ad441, e441, hx441_0⟩ := Kd.at_int HR435_0.out 1 p441 q441
    have hw441_0 := hx441_0
    (try rw [show ((1 : Int)).toNat = 1 from rfl] at hw441_0)
    (try rw [show 1 * 1 = 1 from rfl] at hw441_0)
    (try simp only [Nat.reduceMul, Nat.reduceEqDiff, Go.Addr.add, ↓reduceIte] at hw441_0)
    obtain rfl : ad436 = ad441 := (by injection e441)
    (try simp only [show (1 : Int).toNat = 1 from rfl, Nat.reduceMul, Nat.reduceEqDiff, Go.Addr.add, ↓reduceIte] at hx441_0)
    have qi441 : (1 < (rd_L1 l0_4 x41_2).length) = True := eq_true (by omega)
    (try rw [show ((1 : Int)).toNat = 1 from rfl] at hx441_0)
    replace hx441_0 := (HB.out.cell (World.block_lt_of_cell? w _ hx441_0)).trans hx441_0
    replace p441 := eq_true p441
    replace q441 := eq_true q441
    have p442 : 0 ≤ (0 : Int) := (by omega)
    have q442 : 0 < ((rd_L1 l0_4 x41_2).length : Int) := of_decide_eq_true tA
    obtain ⟨ad442, e442, hx442_0⟩ := Kd.at_int HR435_0.out 0 p442 q442
    have hw442_0 := hx442_0
    (try rw [show ((0 : Int)).toNat = 0 from rfl] at hw442_0)
    (try rw [show 0 * 1 = 0 from rfl] at hw442_0)
    (try rw [Addr.add_zero'] at hw442_0)
    obtain rfl : ad436 = ad442 := (by injection e442)
    have qi442 : (0 < (rd_L1 l0_4 x41_2).length) = True := eq_true (by omega)
    (try rw [show ((0 : Int)).toNat = 0 from rfl] at hx442_0)
    (try rw [Addr.add_zero'] at hx442_0)
    replace hx442_0 := (HB.out.cell (World.block_lt_of_cell? w _ hx442_0)).trans hx442_0
    replace p442 := eq_true p442
    replace q442 := eq_true q442
    have p443 : 0 ≤ ((ji42) : Int) := of_decide_eq_true tA
    have q443 : (ji42) < (l0_4.length : Int) := of_decide_eq_true tA
    obtain ⟨ad443, A443_0, c443_0, e443, hx443_0, hl443_0, hi443_0⟩ := at_L1 HR0_4.out (ji42) p443 q443
    have hw443_0 := hx443_0
    obtain rfl : ad435 = ad443 := (by injection e443)
    replace hx443_0 := (HB.out.cell (World.block_lt_of_cell? w _ hx443_0)).trans hx443_0
    have HR443_0 := Aq.mk hi443_0
    have HC443_0 := Aq.mk hl443_0
    clear hi443_0 hl443_0
    replace p443 := eq_true p443
    replace q443 := eq_true q443
    have p444 : 0 ≤ (0 : Int) := (by omega)
    have q444 : 0 < ((rd_L1 l0_4 (ji42)).length : Int) := of_decide_eq_true tA
    obtain ⟨ad444, e444, hx444_0⟩ := Kd.at_int HR443_0.out 0 p444 q444
    have hw444_0 := hx444_0
    (try rw [show ((0 : Int)).toNat = 0 from rfl] at hw444_0)
    (try rw [show 0 * 1 = 0 from rfl] at hw444_0)
    (try rw [Addr.add_zero'] at hw444_0)
    cases e444
    have qi444 : (0 < (rd_L1 l0_4 (ji42)).length) = True := eq_true (by omega)
    (try rw [show ((0 : Int)).toNat = 0 from rfl] at hx444_0)
    (try rw [Addr.add_zero'] at hx444_0)
    replace hx444_0 := (HB.out.cell (World.block_lt_of_cell? w _ hx444_0)).trans hx444_0
    replace p444 := eq_true p444
    replace q444 := eq_true q444
    refine start_ (n := 46) (S := fun w' => w'.cell? ⟨gb431, 0, none⟩ = some (.int .i64 a0_0) ∧ w'.cell? ⟨gb431, 1, none⟩ = some (.int .i64 a0_1) ∧ w'.cell? ⟨gb431, 2, none⟩ = some (.int .i64 a0_2) ∧ w'.cell? ⟨gb431, 3, none⟩ = some (.int .i64 a0_3) ∧ w'.cell? ⟨gb431, 4, none⟩ = some (.slice (some ad435) l0_4.length c0_4) ∧ w'.cell? ⟨gb431, 5, none⟩ = some (.slice A0_5 l0_5.length c0_5) ∧ w'.cell? ad436 = some (.int .i64 (rd (rd_L1 l0_4 x41_2) 0)) ∧ w'.cell? ⟨ad436.block, ad436.off + 1, none⟩ = some (.int .i64 (rd (rd_L1 l0_4 x41_2) 1)) ∧ w'.cell? ad436 = some (.int .i64 (rd (rd_L1 l0_4 x41_2) 0)) ∧ w'.cell? ⟨ad436.block, ad436.off + 1, none⟩ = some (.int .i64 (rd (rd_L1 l0_4 x41_2) 1)) ∧ w'.cell? ad436 = some (.int .i64 (rd (rd_L1 l0_4 x41_2) 0)) ∧ w'.cell? (ad435.add ((ji42)).toNat) = some (.slice (some ad444) (rd_L1 l0_4 (ji42)).length c443_0) ∧ w'.cell? ad444 = some (.int .i64 (rd (rd_L1 l0_4 (ji42)) 0))) (ds := []) #[false, false, false, false, false, false, false, false, false, false, false, false, false, false, false, false, false, false, false, false, false, false, false, false, false, false, false, false, false, false, false, false, false, false, false, false, false, false, false, false, false, false, false, false, false, false] (by kernel_rfl) rfl rfl ⟨(kQC BK431.out 0).trans rfl, (kQC BK431.out 1).trans rfl, (kQC BK431.out 2).trans rfl, (kQC BK431.out 3).trans rfl, (kQC BK431.out 4).trans rfl, (kQC BK431.out 5).trans rfl, (tcw tB hw436_0), (tcw tB hw438_0), (tcw tB hw440_0), (tcw tB hw441_0), (tcw tB hw442_0), (tcw tB hw443_0), (tcw tB hw444_0)⟩ (fun hHeld => ?_); refine with_tabW impl_ValidNet.tab6 impl_ValidNet.bits6 (fun HT_ HW_ => ?_)
    generalize wr.drew = w47 at BK431 HB HR443_0 hx436_0 hx438_0 hx440_0 hx441_0 hx442_0 hx443_0 hx444_0 hHeld ⊢
    refine tP0 0 46 (bm 46 1) ?_
    refine tP0 1 47 (bm 46 3) ?_
    refine tP0 2 48 (bm 46 7) ?_
    refine tP0 3 49 (bm 46 15) ?_
    refine tP0 5 51 (bm 46 47) ?_
    refine tP0 6 52 (bm 46 111) ?_
    refine tT13 4 50 (bm 46 127) ?_
    refine tT13 7 53 (bm 46 255) ?_
    refine one_ (i := 8) (N := some 54) (bm 46 511) rfl rfl (one_of HT_.out (by kernel_rfl)) (by decide) (fun K hK => ?_)
    refine goes_ Try.func80 (by kernel_rfl) rfl #[.agg #[.int .i64 a0_0, .int .i64 a0_1, .int .i64 a0_2, .int .i64 a0_3, .slice (some ad435) l0_4.length c0_4, .slice A0_5 l0_5.length c0_5], .int .i64 (rd (rd_L1 l0_4 x41_2) 0)] (by rfl) rfl rfl tL ?_
    with_reducible refine (impl_Net_isNode.calls a0_0 a0_1 a0_2 a0_3 _ _ l0_4 _ _ l0_5 (rd (rd_L1 l0_4 x41_2) 0) true _ ?s1 ?s2 ?s3 ?s4 A32.out).mono ?_
    (case s1 => exact tC ((Kd.C_below HR0_4.out HB.out)))
    (case s2 => exact HC0_4.out)
    (case s3 => exact tC ((Kd.C_below HR0_5.out HB.out)))
    (case s4 => exact HC0_5.out)
    rintro e w48 ⟨rfl, hb⟩
    refine ⟨_, rfl, ?_⟩
    have n0_ := Aq.mk (tQ BK431.out hb)
    have n1_ := Aq.mk (bQT tB hb)
    clear BK431
    clear HB
    have BK431 := n0_
    have HB := n1_
    clear n0_ n1_
    (try clear hb)
    (try clear hb2)
    (try clear hk)
    (try clear hi)
    refine hK.out _ _ ⟨(kQC BK431.out 0).trans rfl, (kQC BK431.out 1).trans rfl, (kQC BK431.out 2).trans rfl, (kQC BK431.out 3).trans rfl, (kQC BK431.out 4).trans rfl, (kQC BK431.out 5).trans rfl, (tcw tB hw436_0), (tcw tB hw438_0), (tcw tB hw440_0), (tcw tB hw441_0), (tcw tB hw442_0), (tcw tB hw443_0), (tcw tB hw444_0)⟩ (fun hHeld => ?_)
    clear hK K
    refine tN 54 ?_
    refine tP0 9 55 (bm 46 1023) ?_
    refine tP0 10 56 (bm 46 2047) ?_
    refine tP0 11 57 (bm 46 4095) ?_
    refine tP0 13 59 (bm 46 12287) ?_
    refine tP0 14 60 (bm 46 28671) ?_
    refine tT13 12 58 (bm 46 32767) ?_
    refine tT13 15 61 (bm 46 65535) ?_
    refine one_ (i := 16) (N := some 62) (bm 46 131071) rfl rfl (one_of HT_.out (by kernel_rfl)) (by decide) (fun K hK => ?_)
    refine goes_ Try.func80 (by kernel_rfl) rfl #[.agg #[.int .i64 a0_0, .int .i64 a0_1, .int .i64 a0_2, .int .i64 a0_3, .slice (some ad435) l0_4.length c0_4, .slice A0_5 l0_5.length c0_5], .int .i64 (rd (rd_L1 l0_4 x41_2) 1)] (by rfl) rfl rfl tL ?_
    with_reducible refine (impl_Net_isNode.calls a0_0 a0_1 a0_2 a0_3 _ _ l0_4 _ _ l0_5 (rd (rd_L1 l0_4 x41_2) 1) true _ ?s1 ?s2 ?s3 ?s4 A35.out).mono ?_
    (case s1 => exact tC ((Kd.C_below HR0_4.out HB.out)))
    (case s2 => exact HC0_4.out)
    (case s3 => exact tC ((Kd.C_below HR0_5.out HB.out)))
    (case s4 => exact HC0_5.out)
    rintro e w49 ⟨rfl, hb⟩
    refine ⟨_, rfl, ?_⟩
    have n0_ := Aq.mk (tQ BK431.out hb)
    have n1_ := Aq.mk (bQT tB hb)
    clear BK431
    clear HB
    have BK431 := n0_
    have HB := n1_
    clear n0_ n1_
    (try clear hb)
    (try clear hb2)
    (try clear hk)
    (try clear hi)
    refine hK.out _ _ ⟨(kQC BK431.out 0).trans rfl, (kQC BK431.out 1).trans rfl, (kQC BK431.out 2).trans rfl, (kQC BK431.out 3).trans rfl, (kQC BK431.out 4).trans rfl, (kQC BK431.out 5).trans rfl, (tcw tB hw436_0), (tcw tB hw438_0), (tcw tB hw440_0), (tcw tB hw441_0), (tcw tB hw442_0), (tcw tB hw443_0), (tcw tB hw444_0)⟩ (fun hHeld => ?_)
    clear hK K
    refine tN 62 ?_
    refine tP0 17 63 (bm 46 262143) ?_
    refine tP0 18 64 (bm 46 524287) ?_
    refine tP0 19 65 (bm 46 1048575) ?_
    refine tP0 20 66 (bm 46 2097151) ?_
    refine tP0 21 67 (bm 46 4194303) ?_
    refine tP0 23 69 (bm 46 12582911) ?_
    refine tP0 24 70 (bm 46 29360127) ?_
    refine tT13 22 68 (bm 46 33554431) ?_
    refine tT13 25 71 (bm 46 67108863) ?_
    refine tP0 26 72 (bm 46 134217727) ?_
    refine tP0 27 73 (bm 46 268435455) ?_
    refine tP0 28 74 (bm 46 536870911) ?_
    refine tP0 29 75 (bm 46 1073741823) ?_
    refine tP0 30 76 (bm 46 2147483647) ?_
    refine tP0 31 77 (bm 46 4294967295) ?_
    refine tP0 32 78 (bm 46 8589934591) ?_
    refine tP0 33 79 (bm 46 17179869183) ?_
    refine tP0 35 81 (bm 46 51539607551) ?_
    refine tP0 37 83 (bm 46 188978561023) ?_
    refine tP0 38 84 (bm 46 463856467967) ?_
    refine tT13 34 80 (bm 46 481036337151) ?_
    refine tT13 36 82 (bm 46 549755813887) ?_
    refine tP0 39 85 (bm 46 1099511627775) ?_
    refine tT13 40 86 (bm 46 2199023255551) ?_
    refine tP0 41 87 (bm 46 4398046511103) ?_
    refine tT13 42 88 (bm 46 8796093022207) ?_
    refine tP0 43 89 (bm 46 17592186044415) ?_
    refine tP0 44 90 (bm 46 35184372088831) ?_
    refine tP0 45 91 (bm 46 70368744177663) ?_
    refine done_ (done_of HT_.out (by kernel_rfl)) ?_
    try go_wp2
    go_ret
    exact ⟨by first | rfl | (simp [errW_none, errW_some] <;> rfl) | (simp only [← hji42]; first | rfl | (simp [errW_none, errW_some] <;> rfl)) | (simp [*, errW_none, errW_some] <;> rfl), tB⟩
   rw [if_neg c46] at H
   have c46b0 := decide_eq_false c46
   clear c46
   replace H' := Aq.mk H
   clear H
   have p435 : 0 ≤ (x41_2 : Int) := of_decide_eq_true tA
   have q435 : x41_2 < (l0_4.length : Int) := of_decide_eq_true tA
   obtain ⟨ad435, A435_0, c435_0, e435, hx435_0, hl435_0, hi435_0⟩ := at_L1 HR0_4.out x41_2 p435 q435
   cases e435
   replace hx435_0 := (HB.out.cell (World.block_lt_of_cell? w _ hx435_0)).trans hx435_0
   have HR435_0 := Aq.mk hi435_0
   have HC435_0 := Aq.mk hl435_0
   clear hi435_0 hl435_0
   replace p435 := eq_true p435
   replace q435 := eq_true q435
   try go_wp2
   have n0_ := Aq.mk (kQD BK431.out)
   have n1_ := Aq.mk (bQ1 HB.out)
   clear BK431
   clear HB
   have BK431 := n0_
   have HB := n1_
   clear n0_ n1_
   have p436 : 0 ≤ (0 : Int) := (by omega)
   have q436 : 0 < ((rd_L1 l0_4 x41_2).length : Int) := of_decide_eq_true tA
   obtain ⟨ad436, e436, hx436_0⟩ := Kd.at_int HR435_0.out 0 p436 q436
   have hw436_0 := hx436_0
   (try rw [show ((0 : Int)).toNat = 0 from rfl] at hw436_0)
   (try rw [show 0 * 1 = 0 from rfl] at hw436_0)
   (try rw [Addr.add_zero'] at hw436_0)
   cases e436
   have qi436 : (0 < (rd_L1 l0_4 x41_2).length) = True := eq_true (by omega)
   (try rw [show ((0 : Int)).toNat = 0 from rfl] at hx436_0)
   (try rw [Addr.add_zero'] at hx436_0)
   replace hx436_0 := (HB.out.cell (World.block_lt_of_cell? w _ hx436_0)).trans hx436_0
   replace p436 := eq_true p436
   replace q436 := eq_true q436
   have p438 : 0 ≤ (1 : Int) := (by omega)
   have q438 : 1 < ((rd_L1 l0_4 x41_2).length : Int) := of_decide_eq_true tA
   obtain ⟨ad438, e438, hx438_0⟩ := Kd.at_int HR435_0.out 1 p438 q438
   have hw438_0 := hx438_0
   (try rw [show ((1 : Int)).toNat = 1 from rfl] at hw438_0)
   (try rw [show 1 * 1 = 1 from rfl] at hw438_0)
   (try simp only [Nat.reduceMul, Nat.reduceEqDiff, Go.Addr.add, ↓reduceIte] at hw438_0)
   obtain rfl : ad436 = ad438 := (by injection e438)
   (try simp only [show (1 : Int).toNat = 1 from rfl, Nat.reduceMul, Nat.reduceEqDiff, Go.Addr.add, ↓reduceIte] at hx438_0)
   have qi438 : (1 < (rd_L1 l0_4 x41_2).length) = True := eq_true (by omega)
   (try rw [show ((1 : Int)).toNat = 1 from rfl] at hx438_0)
   replace hx438_0 := (HB.out.cell (World.block_lt_of_cell? w _ hx438_0)).trans hx438_0
   replace p438 := eq_true p438
   replace q438 := eq_true q438
   have p440 : 0 ≤ (0 : Int) := (by omega)
   have q440 : 0 < ((rd_L1 l0_4 x41_2).length : Int) := of_decide_eq_true tA
   obtain ⟨ad440, e440, hx440_0⟩ := Kd.at_int HR435_0.out 0 p440 q440
   have hw440_0 := hx440_0
   (try rw [show ((0 : Int)).toNat = 0 from rfl] at hw440_0)
   (try rw [show 0 * 1 = 0 from rfl] at hw440_0)
   (try rw [Addr.add_zero'] at hw440_0)
   obtain rfl : ad436 = ad440 := (by injection e440)
   have qi440 : (0 < (rd_L1 l0_4 x41_2).length) = True := eq_true (by omega)
   (try rw [show ((0 : Int)).toNat = 0 from rfl] at hx440_0)
   (try rw [Addr.add_zero'] at hx440_0)
   replace hx440_0 := (HB.out.cell (World.block_lt_of_cell? w _ hx440_0)).trans hx440_0
   replace p440 := eq_true p440
   replace q440 := eq_true q440
   have p441 : 0 ≤ (1 : Int) := (by omega)
   have q441 : 1 < ((rd_L1 l0_4 x41_2).length : Int) := of_decide_eq_true tA
   obtain ⟨ad441, e441, hx441_0⟩ := Kd.at_int HR435_0.out 1 p441 q441
   have hw441_0 := hx441_0
   (try rw [show ((1 : Int)).toNat = 1 from rfl] at hw441_0)
   (try rw [show 1 * 1 = 1 from rfl] at hw441_0)
   (try simp only [Nat.reduceMul, Nat.reduceEqDiff, Go.Addr.add, ↓reduceIte] at hw441_0)
   obtain rfl : ad436 = ad441 := (by injection e441)
   (try simp only [show (1 : Int).toNat = 1 from rfl, Nat.reduceMul, Nat.reduceEqDiff, Go.Addr.add, ↓reduceIte] at hx441_0)
   have qi441 : (1 < (rd_L1 l0_4 x41_2).length) = True := eq_true (by omega)
   (try rw [show ((1 : Int)).toNat = 1 from rfl] at hx441_0)
   replace hx441_0 := (HB.out.cell (World.block_lt_of_cell? w _ hx441_0)).trans hx441_0
   replace p441 := eq_true p441
   replace q441 := eq_true q441
   have p442 : 0 ≤ (0 : Int) := (by omega)
   have q442 : 0 < ((rd_L1 l0_4 x41_2).length : Int) := of_decide_eq_true tA
   obtain ⟨ad442, e442, hx442_0⟩ := Kd.at_int HR435_0.out 0 p442 q442
   have hw442_0 := hx442_0
   (try rw [show ((0 : Int)).toNat = 0 from rfl] at hw442_0)
   (try rw [show 0 * 1 = 0 from rfl] at hw442_0)
   (try rw [Addr.add_zero'] at hw442_0)
   obtain rfl : ad436 = ad442 := (by injection e442)
   have qi442 : (0 < (rd_L1 l0_4 x41_2).length) = True := eq_true (by omega)
   (try rw [show ((0 : Int)).toNat = 0 from rfl] at hx442_0)
   (try rw [Addr.add_zero'] at hx442_0)
   replace hx442_0 := (HB.out.cell (World.block_lt_of_cell? w _ hx442_0)).trans hx442_0
   replace p442 := eq_true p442
   replace q442 := eq_true q442
   have p443 : 0 ≤ ((ji42) : Int) := of_decide_eq_true tA
   have q443 : (ji42) < (l0_4.length : Int) := of_decide_eq_true tA
   obtain ⟨ad443, A443_0, c443_0, e443, hx443_0, hl443_0, hi443_0⟩ := at_L1 HR0_4.out (ji42) p443 q443
   have hw443_0 := hx443_0
   obtain rfl : ad435 = ad443 := (by injection e443)
   replace hx443_0 := (HB.out.cell (World.block_lt_of_cell? w _ hx443_0)).trans hx443_0
   have HR443_0 := Aq.mk hi443_0
   have HC443_0 := Aq.mk hl443_0
   clear hi443_0 hl443_0
   replace p443 := eq_true p443
   replace q443 := eq_true q443
   have p444 : 0 ≤ (0 : Int) := (by omega)
   have q444 : 0 < ((rd_L1 l0_4 (ji42)).length : Int) := of_decide_eq_true tA
   obtain ⟨ad444, e444, hx444_0⟩ := Kd.at_int HR443_0.out 0 p444 q444
   have hw444_0 := hx444_0
   (try rw [show ((0 : Int)).toNat = 0 from rfl] at hw444_0)
   (try rw [show 0 * 1 = 0 from rfl] at hw444_0)
   (try rw [Addr.add_zero'] at hw444_0)
   cases e444
   have qi444 : (0 < (rd_L1 l0_4 (ji42)).length) = True := eq_true (by omega)
   (try rw [show ((0 : Int)).toNat = 0 from rfl] at hx444_0)
   (try rw [Addr.add_zero'] at hx444_0)
   replace hx444_0 := (HB.out.cell (World.block_lt_of_cell? w _ hx444_0)).trans hx444_0
   replace p444 := eq_true p444
   replace q444 := eq_true q444
   refine start_ (n := 46) (S := fun w' => w'.cell? ⟨gb431, 0, none⟩ = some (.int .i64 a0_0) ∧ w'.cell? ⟨gb431, 1, none⟩ = some (.int .i64 a0_1) ∧ w'.cell? ⟨gb431, 2, none⟩ = some (.int .i64 a0_2) ∧ w'.cell? ⟨gb431, 3, none⟩ = some (.int .i64 a0_3) ∧ w'.cell? ⟨gb431, 4, none⟩ = some (.slice (some ad435) l0_4.length c0_4) ∧ w'.cell? ⟨gb431, 5, none⟩ = some (.slice A0_5 l0_5.length c0_5) ∧ w'.cell? ad436 = some (.int .i64 (rd (rd_L1 l0_4 x41_2) 0)) ∧ w'.cell? ⟨ad436.block, ad436.off + 1, none⟩ = some (.int .i64 (rd (rd_L1 l0_4 x41_2) 1)) ∧ w'.cell? ad436 = some (.int .i64 (rd (rd_L1 l0_4 x41_2) 0)) ∧ w'.cell? ⟨ad436.block, ad436.off + 1, none⟩ = some (.int .i64 (rd (rd_L1 l0_4 x41_2) 1)) ∧ w'.cell? ad436 = some (.int .i64 (rd (rd_L1 l0_4 x41_2) 0)) ∧ w'.cell? (ad435.add ((ji42)).toNat) = some (.slice (some ad444) (rd_L1 l0_4 (ji42)).length c443_0) ∧ w'.cell? ad444 = some (.int .i64 (rd (rd_L1 l0_4 (ji42)) 0))) (ds := []) #[false, false, false, false, false, false, false, false, false, false, false, false, false, false, false, false, false, false, false, false, false, false, false, false, false, false, false, false, false, false, false, false, false, false, false, false, false, false, false, false, false, false, false, false, false, false] (by kernel_rfl) rfl rfl ⟨(kQC BK431.out 0).trans rfl, (kQC BK431.out 1).trans rfl, (kQC BK431.out 2).trans rfl, (kQC BK431.out 3).trans rfl, (kQC BK431.out 4).trans rfl, (kQC BK431.out 5).trans rfl, (tcw tB hw436_0), (tcw tB hw438_0), (tcw tB hw440_0), (tcw tB hw441_0), (tcw tB hw442_0), (tcw tB hw443_0), (tcw tB hw444_0)⟩ (fun hHeld => ?_); refine with_tabW impl_ValidNet.tab6 impl_ValidNet.bits6 (fun HT_ HW_ => ?_)
   generalize wr.drew = w50 at BK431 HB HR443_0 hx436_0 hx438_0 hx440_0 hx441_0 hx442_0 hx443_0 hx444_0 hHeld ⊢
   refine tP0 0 46 (bm 46 1) ?_
   refine tP0 1 47 (bm 46 3) ?_
   refine tP0 2 48 (bm 46 7) ?_
   refine tP0 3 49 (bm 46 15) ?_
   refine tP0 5 51 (bm 46 47) ?_
   refine tP0 6 52 (bm 46 111) ?_
   refine tT13 4 50 (bm 46 127) ?_
   refine tT13 7 53 (bm 46 255) ?_
   refine one_ (i := 8) (N := some 54) (bm 46 511) rfl rfl (one_of HT_.out (by kernel_rfl)) (by decide) (fun K hK => ?_)
   refine goes_ Try.func80 (by kernel_rfl) rfl #[.agg #[.int .i64 a0_0, .int .i64 a0_1, .int .i64 a0_2, .int .i64 a0_3, .slice (some ad435) l0_4.length c0_4, .slice A0_5 l0_5.length c0_5], .int .i64 (rd (rd_L1 l0_4 x41_2) 0)] (by rfl) rfl rfl tL ?_
   with_reducible refine (impl_Net_isNode.calls a0_0 a0_1 a0_2 a0_3 _ _ l0_4 _ _ l0_5 (rd (rd_L1 l0_4 x41_2) 0) true _ ?s1 ?s2 ?s3 ?s4 A32.out).mono ?_
   (case s1 => exact tC ((Kd.C_below HR0_4.out HB.out)))
   (case s2 => exact HC0_4.out)
   (case s3 => exact tC ((Kd.C_below HR0_5.out HB.out)))
   (case s4 => exact HC0_5.out)
   rintro e w51 ⟨rfl, hb⟩
   refine ⟨_, rfl, ?_⟩
   have n0_ := Aq.mk (tQ BK431.out hb)
   have n1_ := Aq.mk (bQT tB hb)
   clear BK431
   clear HB
   have BK431 := n0_
   have HB := n1_
   clear n0_ n1_
   (try clear hb)
   (try clear hb2)
   (try clear hk)
   (try clear hi)
   refine hK.out _ _ ⟨(kQC BK431.out 0).trans rfl, (kQC BK431.out 1).trans rfl, (kQC BK431.out 2).trans rfl, (kQC BK431.out 3).trans rfl, (kQC BK431.out 4).trans rfl, (kQC BK431.out 5).trans rfl, (tcw tB hw436_0), (tcw tB hw438_0), (tcw tB hw440_0), (tcw tB hw441_0), (tcw tB hw442_0), (tcw tB hw443_0), (tcw tB hw444_0)⟩ (fun hHeld => ?_)
   clear hK K
   refine tN 54 ?_
   refine tP0 9 55 (bm 46 1023) ?_
   refine tP0 10 56 (bm 46 2047) ?_
   refine tP0 11 57 (bm 46 4095) ?_
   refine tP0 13 59 (bm 46 12287) ?_
   refine tP0 14 60 (bm 46 28671) ?_
   refine tT13 12 58 (bm 46 32767) ?_
   refine tT13 15 61 (bm 46 65535) ?_
   refine one_ (i := 16) (N := some 62) (bm 46 131071) rfl rfl (one_of HT_.out (by kernel_rfl)) (by decide) (fun K hK => ?_)
   refine goes_ Try.func80 (by kernel_rfl) rfl #[.agg #[.int .i64 a0_0, .int .i64 a0_1, .int .i64 a0_2, .int .i64 a0_3, .slice (some ad435) l0_4.length c0_4, .slice A0_5 l0_5.length c0_5], .int .i64 (rd (rd_L1 l0_4 x41_2) 1)] (by rfl) rfl rfl tL ?_
   with_reducible refine (impl_Net_isNode.calls a0_0 a0_1 a0_2 a0_3 _ _ l0_4 _ _ l0_5 (rd (rd_L1 l0_4 x41_2) 1) true _ ?s1 ?s2 ?s3 ?s4 A35.out).mono ?_
   (case s1 => exact tC ((Kd.C_below HR0_4.out HB.out)))
   (case s2 => exact HC0_4.out)
   (case s3 => exact tC ((Kd.C_below HR0_5.out HB.out)))
   (case s4 => exact HC0_5.out)
   rintro e w52 ⟨rfl, hb⟩
   refine ⟨_, rfl, ?_⟩
   have n0_ := Aq.mk (tQ BK431.out hb)
   have n1_ := Aq.mk (bQT tB hb)
   clear BK431
   clear HB
   have BK431 := n0_
   have HB := n1_
   clear n0_ n1_
   (try clear hb)
   (try clear hb2)
   (try clear hk)
   (try clear hi)
   refine hK.out _ _ ⟨(kQC BK431.out 0).trans rfl, (kQC BK431.out 1).trans rfl, (kQC BK431.out 2).trans rfl, (kQC BK431.out 3).trans rfl, (kQC BK431.out 4).trans rfl, (kQC BK431.out 5).trans rfl, (tcw tB hw436_0), (tcw tB hw438_0), (tcw tB hw440_0), (tcw tB hw441_0), (tcw tB hw442_0), (tcw tB hw443_0), (tcw tB hw444_0)⟩ (fun hHeld => ?_)
   clear hK K
   refine tN 62 ?_
   refine tP0 17 63 (bm 46 262143) ?_
   refine tP0 18 64 (bm 46 524287) ?_
   refine tP0 19 65 (bm 46 1048575) ?_
   refine tP0 20 66 (bm 46 2097151) ?_
   refine tP0 21 67 (bm 46 4194303) ?_
   refine tP0 23 69 (bm 46 12582911) ?_
   refine tP0 24 70 (bm 46 29360127) ?_
   refine tT13 22 68 (bm 46 33554431) ?_
   refine tT13 25 71 (bm 46 67108863) ?_
   refine tP0 26 72 (bm 46 134217727) ?_
   refine tP0 27 73 (bm 46 268435455) ?_
   refine tP0 28 74 (bm 46 536870911) ?_
   refine tP0 29 75 (bm 46 1073741823) ?_
   refine tP0 30 76 (bm 46 2147483647) ?_
   refine tP0 31 77 (bm 46 4294967295) ?_
   refine tP0 32 78 (bm 46 8589934591) ?_
   refine tP0 33 79 (bm 46 17179869183) ?_
   refine tP0 35 81 (bm 46 51539607551) ?_
   refine tP0 37 83 (bm 46 188978561023) ?_
   refine tP0 38 84 (bm 46 463856467967) ?_
   refine tT13 34 80 (bm 46 481036337151) ?_
   refine tT13 36 82 (bm 46 549755813887) ?_
   refine tP0 39 85 (bm 46 1099511627775) ?_
   refine tT13 40 86 (bm 46 2199023255551) ?_
   refine tP0 41 87 (bm 46 4398046511103) ?_
   refine tT13 42 88 (bm 46 8796093022207) ?_
   refine tP0 43 89 (bm 46 17592186044415) ?_
   refine tP0 44 90 (bm 46 35184372088831) ?_
   refine tP0 45 91 (bm 46 70368744177663) ?_
   refine done_ (done_of HT_.out (by kernel_rfl)) ?_
   try go_wp2
   go_roundg k2
   case measure => have := HJ1.out; have := HK2.out; omega
   case rel => exact ⟨(wrap64 (x41_2 + 1)), tS, H', ⟨by have := HJ1.out; have := HK2.out; omega⟩, ⟨tG BK431.out⟩, ⟨tB⟩⟩
end Go.Proofs.Ytbalkaphibnpcaa.P
