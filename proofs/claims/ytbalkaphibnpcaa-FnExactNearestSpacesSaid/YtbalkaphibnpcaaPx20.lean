/- Functions of the program and what they tell, as the printing program wrote it. -/
import Derived.Test.YtbalkaphibnpcaaPx0
import Derived.Test.YtbalkaphibnpcaaPx1
import Derived.Test.YtbalkaphibnpcaaPx18
import Derived.Test.YtbalkaphibnpcaaPx19
namespace Go.Proofs.Ytbalkaphibnpcaa.P
open Go.Shelf Go.RowKit Go.Proofs.YtbalkaphibnpcaaW.PrintWords Go.Proofs.YtbalkaphibnpcaaW.PrintLast Go.Proofs.YtbalkaphibnpcaaW.PrintMore
attribute [local go_sem] max2_int min2_int max_two min_two max_three min_three max_four min_four
set_option linter.unusedVariables false
set_option linter.unusedSimpArgs false
set_option maxHeartbeats 8000000
set_option maxRecDepth 100000
mutual
def spec_l02Ok.j0 : Nat → Bool → Int → List Int → Option (Bool)
  | 0, _, _, _ => none
  | k + 1, x17, x41000, x41001 => if x17 = true then (some false) else (spec_l02Ok.l0 k 0 x41000 x41001)
def spec_l02Ok.l0 : Nat → Int → Int → List Int → Option (Bool)
  | 0, _, _, _ => none
  | k + 1, x3, x41000, x41001 => if x3 < (x41001.length : Int) then (if 0 ≤ x3 then (if 0 ≤ (IntKind.u64.wrap (x41000)) then ((spec_l00In.f (rd x41001 x3) 0 (wrap64 ((shl .i64 1 (IntKind.u64.wrap (x41000))) - 1))).bind fun t560 => (if t560 = true then (spec_l02Ok.l0 k (wrap64 (x3 + 1)) x41000 x41001) else (some false))) else (none)) else (none)) else (some true)
end
def spec_l02Ok.f (k : Nat) (a0_0 : Int) (l0_1 : List Int) : Option (Bool) := (spec_l00In.f a0_0 1 10).bind fun t558 => (if t558 = true then (spec_l02Ok.j0 k (decide ((l0_1.length : Int) > 10)) a0_0 l0_1) else (spec_l02Ok.j0 k true a0_0 l0_1))
theorem spec_l02Ok.mono_l : ∀ k, (∀ y0 y1 y2, LeO (spec_l02Ok.j0 k y0 y1 y2) (spec_l02Ok.j0 (k + 1) y0 y1 y2)) ∧ (∀ y0 y1 y2, LeO (spec_l02Ok.l0 k y0 y1 y2) (spec_l02Ok.l0 (k + 1) y0 y1 y2))
 | 0 => ⟨fun _ _ _ r h => by simp [spec_l02Ok.j0] at h, fun _ _ _ r h => by simp [spec_l02Ok.l0] at h⟩
 | k + 1 => by
  obtain ⟨ih0, ih1⟩ := spec_l02Ok.mono_l k
  refine ⟨?_, ?_⟩ <;> intros <;> first | unfold spec_l02Ok.j0 | unfold spec_l02Ok.l0
  all_goals repeat' first
   | (with_reducible first | apply ih0 | apply ih1 | exact LeO.refl _ | exact LeO.none _ | refine LeO.ite ?_ ?_ | refine LeO.bind ?_ (fun _ => ?_))
   | exact LeO.none _
   | refine LeO.ite ?_ ?_
   | refine LeO.bind ?_ (fun _ => ?_)
theorem spec_l02Ok.mono : ∀ a0 a1 k, LeO (spec_l02Ok.f k a0 a1) (spec_l02Ok.f (k + 1) a0 a1) := by
 intro a0 a1 k
 obtain ⟨ih0, ih1⟩ := spec_l02Ok.mono_l k
 unfold spec_l02Ok.f
 repeat' first
  | (with_reducible first | apply ih0 | apply ih1 | exact LeO.refl _ | exact LeO.none _ | refine LeO.ite ?_ ?_ | refine LeO.bind ?_ (fun _ => ?_))
  | exact LeO.none _
  | refine LeO.ite ?_ ?_
  | refine LeO.bind ?_ (fun _ => ?_)
theorem spec_l02Ok.calls (k : Nat) (g0_0 : Addr) (a0_0 : Int) (A0_1 : Option Addr) (c0_1 : Nat) (l0_1 : List Int) (r : Bool) (w : World) (hr0_1 : Kd.C (Kd.int .i64) w A0_1 l0_1.length l0_1) (hc0_1 : l0_1.length ≤ c0_1) (hb0_0 : AtC w g0_0 [.int .i64 a0_0, .slice A0_1 l0_1.length c0_1]) (h : spec_l02Ok.f k a0_0 l0_1 = some r) :
 Calls Try.prog 89 #[.pointer (some g0_0)] w fun e w' => e = .returned (.bool r) ∧ Dq w w' := by
 have HR0_1 := Aq.mk hr0_1
 have HC0_1 := Aq.mk hc0_1
 clear hr0_1 hc0_1
 have BK40 := Aq.mk hb0_0
 clear hb0_0
 have H : ((spec_l00In.f a0_0 1 10).bind fun t558 => (if t558 = true then (spec_l02Ok.j0 k (decide ((l0_1.length : Int) > 10)) a0_0 l0_1) else (spec_l02Ok.j0 k true a0_0 l0_1))) = some r := h
 clear h
 have HC2 := Aq.mk H
 clear H
 go_enter Try.func89, Try.ntmps89
 go_upto_region 1 with (fail)
 repeat (go_quiet (fail); go_upto_region 1 with (fail))
 go_cut [17] (fun v17 wc => ∃ (kq : Nat) (x17_1 : Bool), v17 = .bool x17_1 ∧ Aq (spec_l02Ok.j0 kq x17_1 a0_0 l0_1 = some r) ∧ Aq (kq ≤ k) ∧ Dq w wc)
 case first =>
  have H := HC2.out
  clear HC2
  obtain ⟨t558, A3, H⟩ := qBd H
  by_cases c4 : t558 = true
  ·subst c4
   rw [if_pos rfl] at H
   replace H' := Aq.mk H
   clear H
   have hcz5_0 : w.cell? g0_0 = some (.int .i64 a0_0) := AtC.cell0 BK40.out _ rfl
   have hcz5_1 : w.cell? ⟨g0_0.block, g0_0.off + 1, none⟩ = some (.slice A0_1 l0_1.length c0_1) := AtC.cell BK40.out 1 _ (by decide) rfl
   go_wp2_with (first | (go_at_call 62; (with_reducible refine (spec_l00In.calls a0_0 1 10 true _ A3.out).mono ?_); rintro e w' ⟨rfl, ⟨nd, rfl⟩⟩; (try exact tW)))
   repeat (go_quiet (first | (go_at_call 62; (with_reducible refine (spec_l00In.calls a0_0 1 10 true _ A3.out).mono ?_); rintro e w' ⟨rfl, ⟨nd, rfl⟩⟩; (try exact tW))); try go_wp2_with (first | (go_at_call 62; (with_reducible refine (spec_l00In.calls a0_0 1 10 true _ A3.out).mono ?_); rintro e w' ⟨rfl, ⟨nd, rfl⟩⟩; (try exact tW))))
   go_meet
   case rel => exact ⟨_, (decide ((l0_1.length : Int) > 10)), tS, H', ⟨tO⟩, tD⟩
  replace c4 := Bool.eq_false_iff.mpr c4
  subst c4
  rw [if_neg (show ¬ (false = true) by decide)] at H
  replace H' := Aq.mk H
  clear H
  have hcz6_0 : w.cell? g0_0 = some (.int .i64 a0_0) := AtC.cell0 BK40.out _ rfl
  have hcz6_1 : w.cell? ⟨g0_0.block, g0_0.off + 1, none⟩ = some (.slice A0_1 l0_1.length c0_1) := AtC.cell BK40.out 1 _ (by decide) rfl
  go_wp2_with (first | (go_at_call 62; (with_reducible refine (spec_l00In.calls a0_0 1 10 false _ A3.out).mono ?_); rintro e w' ⟨rfl, ⟨nd, rfl⟩⟩; (try exact tW)))
  repeat (go_quiet (first | (go_at_call 62; (with_reducible refine (spec_l00In.calls a0_0 1 10 false _ A3.out).mono ?_); rintro e w' ⟨rfl, ⟨nd, rfl⟩⟩; (try exact tW))); try go_wp2_with (first | (go_at_call 62; (with_reducible refine (spec_l00In.calls a0_0 1 10 false _ A3.out).mono ?_); rintro e w' ⟨rfl, ⟨nd, rfl⟩⟩; (try exact tW))))
  go_meet
  case rel => exact ⟨_, (true), tS, H', ⟨tO⟩, tD⟩
 clear HC2
 try clear c4
 try clear hcz5_0
 try clear hcz5_1
 try clear hcz6_0
 try clear hcz6_1
 obtain ⟨kq, x17_1, rfl, HA, HJ1, ⟨mc1, rfl⟩⟩ := hcut
 cases kq with
 | zero => exact absurd HA.out (by simp [spec_l02Ok.j0])
 | succ kj1 =>
  have H := HA.out
  clear HA
  simp only [spec_l02Ok.j0] at H
  by_cases c7 : x17_1 = true
  ·subst c7
   rw [if_pos rfl] at H
   obtain rfl := Option.some.inj H
   go_wp2
   repeat (go_quiet (fail); try go_wp2)
   go_ret
   exact ⟨tS, tD⟩
  replace c7 := Bool.eq_false_iff.mpr c7
  subst c7
  rw [if_neg (show ¬ (false = true) by decide)] at H
  replace H' := Aq.mk H
  clear H
  go_wp2
  repeat (go_quiet (fail); try go_wp2)
  go_loopg [3] kj1 (fun kq v3 w' => ∃ (x3_2 : Int), v3 = .int .i64 x3_2 ∧ Aq (spec_l02Ok.l0 kq x3_2 a0_0 l0_1 = some r) ∧ Aq (kq ≤ kj1) ∧ Dq w w')
  case atStart => exact ⟨(0), tS, H', ⟨Nat.le_refl _⟩, tD⟩
  clear H'
  try clear c4
  try clear c7
  try clear hcz5_0
  try clear hcz5_1
  try clear hcz6_0
  try clear hcz6_1
  obtain ⟨x3_2, rfl, HA, HK2, ⟨m2, rfl⟩⟩ := hrel
  cases gk with
  | zero => exact absurd HA.out (by simp [spec_l02Ok.l0])
  | succ k2 =>
   have H := HA.out
   clear HA
   simp only [spec_l02Ok.l0] at H
   by_cases c8 : x3_2 < (l0_1.length : Int)
   rotate_left
   ·rw [if_neg c8] at H
    have c8b0 := decide_eq_false c8
    clear c8
    obtain rfl := Option.some.inj H
    have hcz17_0 : w.cell? g0_0 = some (.int .i64 a0_0) := AtC.cell0 BK40.out _ rfl
    have hcz17_1 : w.cell? ⟨g0_0.block, g0_0.off + 1, none⟩ = some (.slice A0_1 l0_1.length c0_1) := AtC.cell BK40.out 1 _ (by decide) rfl
    go_wp2
    repeat (go_quiet (fail); try go_wp2)
    go_ret
    exact ⟨tS, tD⟩
   rw [if_pos c8] at H
   have c8b0 := decide_eq_true c8
   clear c8
   by_cases c9 : 0 ≤ x3_2
   rotate_left
   ·rw [if_neg c9] at H
    exact absurd H (by simp)
   rw [if_pos c9] at H
   have c9b0 := decide_eq_true c9
   clear c9
   obtain ⟨ji10, hji10⟩ : ∃ j_ : Int, (IntKind.u64.wrap (a0_0)) = j_ := ⟨_, rfl⟩
   first | rw [hji10] at H | simp only [hji10] at H | skip
   by_cases c11 : 0 ≤ (ji10)
   rotate_left
   ·rw [if_neg c11] at H
    exact absurd H (by simp)
   rw [if_pos c11] at H
   have c11b0 := eq_true c11
   have c11b1 := decide_eq_true c11
   clear c11
   obtain ⟨ji12, hji12⟩ : ∃ j_ : Int, (shl .i64 1 (ji10)) = j_ := ⟨_, rfl⟩
   first | rw [hji12] at H | simp only [hji12] at H | skip
   have hji12_ : (IntKind.i64.wrap (1 * 2 ^ min (ji10).toNat 64)) = ji12 := hji12
   have hji12z : (ji10) ≤ 64 → (IntKind.i64.wrap (1 * 2 ^ (ji10).toNat)) = ji12 := shl_small hji12
   have hji12u : (IntKind.i64.wrap (2 ^ min (ji10).toNat 64)) = ji12 := by have h_ := hji12_; rw [Int.one_mul] at h_; exact h_
   have hji12v : (ji10) ≤ 64 → (IntKind.i64.wrap (2 ^ (ji10).toNat)) = ji12 := fun hle_ => by have h_ := hji12z hle_; rw [Int.one_mul] at h_; exact h_
   have hji12y : (wrap64 (1 * 2 ^ min (ji10).toNat 64)) = ji12 := (i64_w _).symm.trans hji12_
   have hji12x : (ji10) ≤ 64 → (wrap64 (1 * 2 ^ (ji10).toNat)) = ji12 := fun h_ => (i64_w _).symm.trans (hji12z h_)
   obtain ⟨t560, A13, H⟩ := qBd H
   by_cases c14 : t560 = true
   ·subst c14
    rw [if_pos rfl] at H
    replace H' := Aq.mk H
    clear H
    have hcz15_0 : w.cell? g0_0 = some (.int .i64 a0_0) := AtC.cell0 BK40.out _ rfl
    have hcz15_1 : w.cell? ⟨g0_0.block, g0_0.off + 1, none⟩ = some (.slice A0_1 l0_1.length c0_1) := AtC.cell BK40.out 1 _ (by decide) rfl
    have p559 : 0 ≤ (x3_2 : Int) := of_decide_eq_true tA
    have q559 : x3_2 < (l0_1.length : Int) := of_decide_eq_true tA
    obtain ⟨ad559, e559, hx559_0⟩ := Kd.at_int HR0_1.out x3_2 p559 q559
    cases e559
    replace p559 := eq_true p559
    replace q559 := eq_true q559
    go_wp2_with (first | (go_at_call 62; (with_reducible refine (spec_l00In.calls (rd l0_1 x3_2) 0 (wrap64 ((ji12) - 1)) true _ A13.out).mono ?_); rintro e w' ⟨rfl, ⟨nd, rfl⟩⟩; (try exact tW)))
    repeat (go_quiet (first | (go_at_call 62; (with_reducible refine (spec_l00In.calls (rd l0_1 x3_2) 0 (wrap64 ((ji12) - 1)) true _ A13.out).mono ?_); rintro e w' ⟨rfl, ⟨nd, rfl⟩⟩; (try exact tW))); try go_wp2_with (first | (go_at_call 62; (with_reducible refine (spec_l00In.calls (rd l0_1 x3_2) 0 (wrap64 ((ji12) - 1)) true _ A13.out).mono ?_); rintro e w' ⟨rfl, ⟨nd, rfl⟩⟩; (try exact tW))))
    go_roundg k2
    case measure => have := HJ1.out; have := HK2.out; omega
    case rel => exact ⟨(wrap64 (x3_2 + 1)), tS, H', ⟨by have := HJ1.out; have := HK2.out; omega⟩, tD⟩
   replace c14 := Bool.eq_false_iff.mpr c14
   subst c14
   rw [if_neg (show ¬ (false = true) by decide)] at H
   obtain rfl := Option.some.inj H
   have hcz16_0 : w.cell? g0_0 = some (.int .i64 a0_0) := AtC.cell0 BK40.out _ rfl
   have hcz16_1 : w.cell? ⟨g0_0.block, g0_0.off + 1, none⟩ = some (.slice A0_1 l0_1.length c0_1) := AtC.cell BK40.out 1 _ (by decide) rfl
   have p559 : 0 ≤ (x3_2 : Int) := of_decide_eq_true tA
   have q559 : x3_2 < (l0_1.length : Int) := of_decide_eq_true tA
   obtain ⟨ad559, e559, hx559_0⟩ := Kd.at_int HR0_1.out x3_2 p559 q559
   cases e559
   replace p559 := eq_true p559
   replace q559 := eq_true q559
   go_wp2_with (first | (go_at_call 62; (with_reducible refine (spec_l00In.calls (rd l0_1 x3_2) 0 (wrap64 ((ji12) - 1)) false _ A13.out).mono ?_); rintro e w' ⟨rfl, ⟨nd, rfl⟩⟩; (try exact tW)))
   repeat (go_quiet (first | (go_at_call 62; (with_reducible refine (spec_l00In.calls (rd l0_1 x3_2) 0 (wrap64 ((ji12) - 1)) false _ A13.out).mono ?_); rintro e w' ⟨rfl, ⟨nd, rfl⟩⟩; (try exact tW))); try go_wp2_with (first | (go_at_call 62; (with_reducible refine (spec_l00In.calls (rd l0_1 x3_2) 0 (wrap64 ((ji12) - 1)) false _ A13.out).mono ?_); rintro e w' ⟨rfl, ⟨nd, rfl⟩⟩; (try exact tW))))
   go_ret
   exact ⟨by first | rfl | (simp; done) | (simp only [← hji10, ← hji12] <;> (first | rfl | simp)) | (simp [*]; done), tD⟩
def spec_l02Space.f (k : Nat) (a0_0 : Int) (l0_1 : List Int) : Option (Bool) := (spec_l02Ok.f k a0_0 l0_1).bind fun t561 => (if t561 = true then ((spec_l02Echelon.f k a0_0 l0_1).bind fun t562 => ((spec_l00Same.f k t562 l0_1).bind fun t565 => (some t565))) else (some false))
theorem spec_l02Space.mono : ∀ a0 a1 k, LeO (spec_l02Space.f k a0 a1) (spec_l02Space.f (k + 1) a0 a1) := by
 intro a0 a1 k
 unfold spec_l02Space.f
 repeat' first
  | (with_reducible first | apply spec_l00Same.mono | apply spec_l02Echelon.mono | apply spec_l02Ok.mono | exact LeO.refl _ | exact LeO.none _ | refine LeO.ite ?_ ?_ | refine LeO.bind ?_ (fun _ => ?_))
  | exact LeO.none _
  | refine LeO.ite ?_ ?_
  | refine LeO.bind ?_ (fun _ => ?_)
def spec_l02Space.T1 : Bool × List (List Nat × List Nat) := (true, [([], []), ([0], [0]), ([1, 1], [1]), ([2], [2]), ([3, 2], [2, 3]), ([4, 2], [2, 4]), ([5, 2], [2, 5]), ([2], [2]), ([7, 2], [2, 7]), ([8, 2], [2, 8]), ([9, 2], [2, 9]), ([6, 10, 2, 2], [2, 6, 10]), ([2], [2]), ([12, 2], [2, 12]), ([13, 2], [2, 13]), ([14, 2], [2, 14]), ([11, 15, 11, 2], [2, 11, 15]), ([2, 16], [2, 16]), ([17, 16, 0, 1, 2, 3, 4, 5, 6, 7, 8, 9, 10, 11, 12, 13, 14, 15, 16, 17], [17])])
def spec_l02Space.B1 : List Nat := [0, 1, 3, 7, 15, 31, 63, 7, 135, 391, 903, 2047, 7, 4103, 12295, 28679, 65535, 131071, 262143]
theorem spec_l02Space.tab1 : rtab .any (opsOf Try.f57 1) = spec_l02Space.T1 := by kernel_rfl
theorem spec_l02Space.bits1 : waitsOk spec_l02Space.T1.2 spec_l02Space.B1 = true := by kernel_rfl
theorem spec_l02Space.calls (k : Nat) (g0_0 : Addr) (a0_0 : Int) (A0_1 : Option Addr) (c0_1 : Nat) (l0_1 : List Int) (r : Bool) (w : World) (hr0_1 : Kd.C (Kd.int .i64) w A0_1 l0_1.length l0_1) (hc0_1 : l0_1.length ≤ c0_1) (hb0_0 : AtC w g0_0 [.int .i64 a0_0, .slice A0_1 l0_1.length c0_1]) (h : spec_l02Space.f k a0_0 l0_1 = some r) :
 Calls Try.prog 57 #[.pointer (some g0_0)] w fun e w' => e = .returned (.bool r) ∧ Below w.heap.size w w' := by
 have HR0_1 := Aq.mk hr0_1
 have HC0_1 := Aq.mk hc0_1
 clear hr0_1 hc0_1
 have BK40 := Aq.mk hb0_0
 clear hb0_0
 have HB := Aq.mk (Below.refl w.heap.size w)
 have H : ((spec_l02Ok.f k a0_0 l0_1).bind fun t561 => (if t561 = true then ((spec_l02Echelon.f k a0_0 l0_1).bind fun t562 => ((spec_l00Same.f k t562 l0_1).bind fun t565 => (some t565))) else (some false))) = some r := h
 clear h
 obtain ⟨t561, A2, H⟩ := qBd H
 by_cases c3 : t561 = true
 ·subst c3
  rw [if_pos rfl] at H
  obtain ⟨t562, A4, H⟩ := qBd H
  obtain ⟨t565, A5, H⟩ := qBd H
  obtain rfl := Option.some.inj H
  go_enter Try.func57, Try.ntmps57
  try go_wp2
  have n0_ := Aq.mk (bQ1 HB.out)
  clear HB
  have HB := n0_
  clear n0_
  refine start_ (n := 19) (S := fun w' => w'.cell? g0_0 = some (.int .i64 a0_0) ∧ w'.cell? ⟨g0_0.block, g0_0.off + 1, none⟩ = some (.slice A0_1 l0_1.length c0_1)) (ds := []) #[false, false, false, false, false, false, false, false, false, false, false, false, false, false, false, false, false, false, false] (by kernel_rfl) rfl rfl ⟨(tcw tB (AtC.cell0 BK40.out _ rfl)), (tcw tB (AtC.cell BK40.out 1 _ (by decide) rfl))⟩ (fun hHeld => ?_); refine with_tabW spec_l02Space.tab1 spec_l02Space.bits1 (fun HT_ HW_ => ?_)
  generalize w.drew = w6 at HB hHeld ⊢
  refine tP0 0 3 (bm 19 1) ?_
  refine one_ (i := 1) (N := some 4) (bm 19 3) rfl rfl (one_of HT_.out (by kernel_rfl)) (by decide) (fun K hK => ?_)
  refine goes_ Try.func89 (by kernel_rfl) rfl #[.pointer (some g0_0)] (by rfl) rfl rfl tL ?_
  with_reducible refine (spec_l02Ok.calls k (g0_0 : Addr) a0_0 A0_1 c0_1 l0_1 true _ ?s1 ?s2 ?s3 A2.out).mono ?_
  (case s1 => exact tC ((Kd.C_below HR0_1.out HB.out)))
  (case s2 => exact HC0_1.out)
  (case s3 => repeat (first | exact (AtC.below BK40.out HB.out) | (with_reducible refine AtC.alloc ?_ _) | (with_reducible refine AtC.drewN ?_ _) | (with_reducible refine AtC.drew ?_)))
  rintro e w' ⟨rfl, ⟨nd, rfl⟩⟩
  refine ⟨_, rfl, ?_⟩
  refine hK.out _ _ ⟨(tcw tB (AtC.cell0 BK40.out _ rfl)), (tcw tB (AtC.cell BK40.out 1 _ (by decide) rfl))⟩ (fun hHeld => ?_)
  clear hK K
  refine tN 4 ?_
  refine tP0 2 5 (bm 19 7) ?_
  refine tP0 3 6 (bm 19 15) ?_
  refine tP0 4 7 (bm 19 31) ?_
  refine tP0 5 8 (bm 19 63) ?_
  refine tP0 7 10 (bm 19 191) ?_
  refine tP0 8 11 (bm 19 447) ?_
  refine tP0 9 12 (bm 19 959) ?_
  refine tP0 12 15 (bm 19 5055) ?_
  refine tP0 13 16 (bm 19 13247) ?_
  refine tP0 14 17 (bm 19 29631) ?_
  refine tT2 6 9 (bm 19 29695) ?_
  refine tT2 10 13 (bm 19 30719) ?_
  refine tT2 15 18 (bm 19 63487) ?_
  refine one_ (i := 11) (N := some 14) (bm 19 65535) rfl rfl (one_of HT_.out (by kernel_rfl)) (by decide) (fun K hK => ?_)
  refine goes_ Try.func83 (by kernel_rfl) rfl #[.int .i64 a0_0, .slice A0_1 l0_1.length c0_1] (by rfl) rfl rfl tL ?_
  with_reducible refine (spec_l02Echelon.calls k a0_0 _ _ l0_1 t562 _ ?s1 ?s2 A4.out).mono ?_
  (case s1 => exact tC ((Kd.C_below HR0_1.out tB)))
  (case s2 => exact HC0_1.out)
  rintro e w7 ⟨v563, rfl, ho0, hb⟩
  refine ⟨_, rfl, ?_⟩
  have n0_ := Aq.mk (Kd.R_lower ho0 (bQZ tB))
  have n1_ := Aq.mk (bQT tB hb)
  clear HB
  have HO564 := n0_
  have HB := n1_
  clear n0_ n1_
  (try clear hb)
  (try clear hb2)
  (try clear hk)
  (try clear hi)
  (try clear ho0)
  obtain ⟨Ao8, co8, eo8⟩ := Kd.R_slice HO564.out
  (first | subst eo8 | (injection eo8 with f1_ f2_ f3_; have f4_ := f1_.symm; have f5_ := f3_.symm; clear f1_ f2_ f3_; subst f4_; subst f5_))
  refine hK.out _ _ ⟨(tcw tB (AtC.cell0 BK40.out _ rfl)), (tcw tB (AtC.cell BK40.out 1 _ (by decide) rfl))⟩ (fun hHeld => ?_)
  clear hK K
  refine tN 14 ?_
  refine one_ (i := 16) (N := some 19) (bm 19 131071) rfl rfl (one_of HT_.out (by kernel_rfl)) (by decide) (fun K hK => ?_)
  refine goes_ Try.func81 (by kernel_rfl) rfl #[.slice Ao8 t562.length co8, .slice A0_1 l0_1.length c0_1] (by rfl) rfl rfl tL ?_
  with_reducible refine (spec_l00Same.calls k _ _ t562 _ _ l0_1 t565 _ ?s1 ?s2 ?s3 ?s4 A5.out).mono ?_
  (case s1 => exact tC ((Kd.R_reads' HO564.out).2.2))
  (case s2 => exact (Kd.R_reads' HO564.out).2.1)
  (case s3 => exact tC ((Kd.C_below HR0_1.out HB.out)))
  (case s4 => exact HC0_1.out)
  rintro e w' ⟨rfl, ⟨nd, rfl⟩⟩
  refine ⟨_, rfl, ?_⟩
  refine hK.out _ _ ⟨(tcw tB (AtC.cell0 BK40.out _ rfl)), (tcw tB (AtC.cell BK40.out 1 _ (by decide) rfl))⟩ (fun hHeld => ?_)
  clear hK K
  refine tN 19 ?_
  refine tP0 17 20 (bm 19 262143) ?_
  refine tP0 18 2 (bm 19 524287) ?_
  refine done_ (done_of HT_.out (by kernel_rfl)) ?_
  try go_wp2
  go_ret
  exact ⟨tE, tB⟩
 replace c3 := Bool.eq_false_iff.mpr c3
 subst c3
 rw [if_neg (show ¬ (false = true) by decide)] at H
 obtain rfl := Option.some.inj H
 go_enter Try.func57, Try.ntmps57
 try go_wp2
 have n0_ := Aq.mk (bQ1 HB.out)
 clear HB
 have HB := n0_
 clear n0_
 refine start_ (n := 19) (S := fun w' => True) (ds := []) #[false, false, false, false, false, false, false, false, false, false, false, false, false, false, false, false, false, false, false] (by kernel_rfl) rfl rfl trivial (fun hHeld => ?_); refine with_tabW spec_l02Space.tab1 spec_l02Space.bits1 (fun HT_ HW_ => ?_)
 generalize w.drew = w9 at HB hHeld ⊢
 refine tP0 0 3 (bm 19 1) ?_
 refine one_ (i := 1) (N := some 4) (bm 19 3) rfl rfl (one_of HT_.out (by kernel_rfl)) (by decide) (fun K hK => ?_)
 refine goes_ Try.func89 (by kernel_rfl) rfl #[.pointer (some g0_0)] (by rfl) rfl rfl tL ?_
 with_reducible refine (spec_l02Ok.calls k (g0_0 : Addr) a0_0 A0_1 c0_1 l0_1 false _ ?s1 ?s2 ?s3 A2.out).mono ?_
 (case s1 => exact tC ((Kd.C_below HR0_1.out HB.out)))
 (case s2 => exact HC0_1.out)
 (case s3 => repeat (first | exact (AtC.below BK40.out HB.out) | (with_reducible refine AtC.alloc ?_ _) | (with_reducible refine AtC.drewN ?_ _) | (with_reducible refine AtC.drew ?_)))
 rintro e w' ⟨rfl, ⟨nd, rfl⟩⟩
 refine ⟨_, rfl, ?_⟩
 refine hK.out _ _ trivial (fun hHeld => ?_)
 clear hK K
 refine tN 4 ?_
 refine tP0 2 5 (bm 19 7) ?_
 refine pure_ (i := 3) (N := some 6) (v := undef) (a' := ?_) #[true, true, true, true, false, false, false, false, false, false, false, false, false, false, false, false, false, false, false] rfl rfl (any_of HT_.out (by kernel_rfl)) (fun _ _ _ h => h) (Or.inr ⟨by rfl, rfl⟩) ?_ ?_
 rotate_left
 ·simp only [Act.put, qSa, qSb, qSc, i64_w, i32_w]
  rfl
 refine pure_ (i := 4) (N := some 7) (v := undef) (a' := ?_) #[true, true, true, true, true, false, false, false, false, false, false, false, false, false, false, false, false, false, false] rfl rfl (any_of HT_.out (by kernel_rfl)) (fun _ _ _ h => h) (Or.inr ⟨by rfl, rfl⟩) ?_ ?_
 rotate_left
 ·simp only [Act.put, qSa, qSb, qSc, i64_w, i32_w]
  rfl
 refine pure_ (i := 5) (N := some 8) (v := undef) (a' := ?_) #[true, true, true, true, true, true, false, false, false, false, false, false, false, false, false, false, false, false, false] rfl rfl (any_of HT_.out (by kernel_rfl)) (fun _ _ _ h => h) (Or.inr ⟨by rfl, rfl⟩) ?_ ?_
 rotate_left
 ·simp only [Act.put, qSa, qSb, qSc, i64_w, i32_w]
  rfl
 refine pure_ (i := 6) (N := some 9) (v := undef) (a' := ?_) #[true, true, true, true, true, true, true, false, false, false, false, false, false, false, false, false, false, false, false] rfl rfl (any_of HT_.out (by kernel_rfl)) (fun _ _ _ h => h) (Or.inr ⟨by rfl, rfl⟩) ?_ ?_
 rotate_left
 ·simp only [Act.put, qSa, qSb, qSc, i64_w, i32_w]
  rfl
 refine pure_ (i := 7) (N := some 10) (v := undef) (a' := ?_) #[true, true, true, true, true, true, true, true, false, false, false, false, false, false, false, false, false, false, false] rfl rfl (any_of HT_.out (by kernel_rfl)) (fun _ _ _ h => h) (Or.inr ⟨by rfl, rfl⟩) ?_ ?_
 rotate_left
 ·simp only [Act.put, qSa, qSb, qSc, i64_w, i32_w]
  rfl
 refine pure_ (i := 8) (N := some 11) (v := undef) (a' := ?_) #[true, true, true, true, true, true, true, true, true, false, false, false, false, false, false, false, false, false, false] rfl rfl (any_of HT_.out (by kernel_rfl)) (fun _ _ _ h => h) (Or.inr ⟨by rfl, rfl⟩) ?_ ?_
 rotate_left
 ·simp only [Act.put, qSa, qSb, qSc, i64_w, i32_w]
  rfl
 refine pure_ (i := 9) (N := some 12) (v := undef) (a' := ?_) #[true, true, true, true, true, true, true, true, true, true, false, false, false, false, false, false, false, false, false] rfl rfl (any_of HT_.out (by kernel_rfl)) (fun _ _ _ h => h) (Or.inr ⟨by rfl, rfl⟩) ?_ ?_
 rotate_left
 ·simp only [Act.put, qSa, qSb, qSc, i64_w, i32_w]
  rfl
 refine pure_ (i := 10) (N := some 13) (v := undef) (a' := ?_) #[true, true, true, true, true, true, true, true, true, true, true, false, false, false, false, false, false, false, false] rfl rfl (any_of HT_.out (by kernel_rfl)) (fun _ _ _ h => h) (Or.inr ⟨by rfl, rfl⟩) ?_ ?_
 rotate_left
 ·simp only [Act.put, qSa, qSb, qSc, i64_w, i32_w]
  rfl
 refine pure_ (i := 11) (N := some 14) (v := undef) (a' := ?_) #[true, true, true, true, true, true, true, true, true, true, true, true, false, false, false, false, false, false, false] rfl rfl (any_of HT_.out (by kernel_rfl)) (fun _ _ _ h => h) (Or.inr ⟨by rfl, rfl⟩) ?_ ?_
 rotate_left
 ·simp only [Act.put, qSa, qSb, qSc, i64_w, i32_w]
  rfl
 refine pure_ (i := 12) (N := some 15) (v := undef) (a' := ?_) #[true, true, true, true, true, true, true, true, true, true, true, true, true, false, false, false, false, false, false] rfl rfl (any_of HT_.out (by kernel_rfl)) (fun _ _ _ h => h) (Or.inr ⟨by rfl, rfl⟩) ?_ ?_
 rotate_left
 ·simp only [Act.put, qSa, qSb, qSc, i64_w, i32_w]
  rfl
 refine pure_ (i := 13) (N := some 16) (v := undef) (a' := ?_) #[true, true, true, true, true, true, true, true, true, true, true, true, true, true, false, false, false, false, false] rfl rfl (any_of HT_.out (by kernel_rfl)) (fun _ _ _ h => h) (Or.inr ⟨by rfl, rfl⟩) ?_ ?_
 rotate_left
 ·simp only [Act.put, qSa, qSb, qSc, i64_w, i32_w]
  rfl
 refine pure_ (i := 14) (N := some 17) (v := undef) (a' := ?_) #[true, true, true, true, true, true, true, true, true, true, true, true, true, true, true, false, false, false, false] rfl rfl (any_of HT_.out (by kernel_rfl)) (fun _ _ _ h => h) (Or.inr ⟨by rfl, rfl⟩) ?_ ?_
 rotate_left
 ·simp only [Act.put, qSa, qSb, qSc, i64_w, i32_w]
  rfl
 refine pure_ (i := 15) (N := some 18) (v := undef) (a' := ?_) #[true, true, true, true, true, true, true, true, true, true, true, true, true, true, true, true, false, false, false] rfl rfl (any_of HT_.out (by kernel_rfl)) (fun _ _ _ h => h) (Or.inr ⟨by rfl, rfl⟩) ?_ ?_
 rotate_left
 ·simp only [Act.put, qSa, qSb, qSc, i64_w, i32_w]
  rfl
 refine pure_ (i := 16) (N := some 19) (v := undef) (a' := ?_) #[true, true, true, true, true, true, true, true, true, true, true, true, true, true, true, true, true, false, false] rfl rfl (any_of HT_.out (by kernel_rfl)) (fun _ _ _ h => h) (Or.inr ⟨by rfl, rfl⟩) ?_ ?_
 rotate_left
 ·simp only [Act.put, qSa, qSb, qSc, i64_w, i32_w]
  rfl
 refine tP0 17 20 (bm 19 262143) ?_
 refine tP0 18 2 (bm 19 524287) ?_
 refine done_ (done_of HT_.out (by kernel_rfl)) ?_
 try go_wp2
 go_ret
 exact ⟨tE, tB⟩
end Go.Proofs.Ytbalkaphibnpcaa.P
