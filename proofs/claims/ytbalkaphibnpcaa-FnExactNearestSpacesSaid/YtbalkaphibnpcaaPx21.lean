/- Functions of the program and what they tell, as the printing program wrote it. -/
import Derived.Test.YtbalkaphibnpcaaPx0
import Derived.Test.YtbalkaphibnpcaaPx1
import Derived.Test.YtbalkaphibnpcaaPx18
import Derived.Test.YtbalkaphibnpcaaPx20
namespace Go.Proofs.Ytbalkaphibnpcaa.P
open Go.Shelf Go.RowKit Go.Proofs.YtbalkaphibnpcaaW.PrintWords Go.Proofs.YtbalkaphibnpcaaW.PrintLast Go.Proofs.YtbalkaphibnpcaaW.PrintMore
attribute [local go_sem] max2_int min2_int max_two min_two max_three min_three max_four min_four
set_option linter.unusedVariables false
set_option linter.unusedSimpArgs false
set_option maxHeartbeats 8000000
set_option maxRecDepth 100000
mutual
def spec_l06Ok.l0 : Nat → List (S63) → Int → Option (Bool)
  | 0, _, _ => none
  | k + 1, x0, x3 => if x3 < (x0.length : Int) then (if 0 ≤ x3 then ((spec_l02Space.f k ((rd_T63 x0 x3).f0) ((rd_T63 x0 x3).f1)).bind fun t568 => (if t568 = true then (if 0 < (x0.length : Int) then (if ((rd_T63 x0 x3).f0) = ((rd_T63 x0 0).f0) then (spec_l06Ok.j1 k x0 x3 ((((rd_T63 x0 x3).f1).length : Int) != (((rd_T63 x0 0).f1).length : Int))) else (spec_l06Ok.j1 k x0 x3 true)) else (none)) else (spec_l06Ok.j1 k x0 x3 true))) else (none)) else (some true)
def spec_l06Ok.j1 : Nat → List (S63) → Int → Bool → Option (Bool)
  | 0, _, _, _ => none
  | k + 1, x0, x3, x45 => if x45 = true then (some false) else (spec_l06Ok.l1 k x0 x3 0)
def spec_l06Ok.l1 : Nat → List (S63) → Int → Int → Option (Bool)
  | 0, _, _, _ => none
  | k + 1, x0, x3, x4 => if x4 < x3 then (if 0 ≤ x3 then (if x3 < (x0.length : Int) then (if 0 ≤ x4 then (if x4 < (x0.length : Int) then ((spec_l00Same.f k ((rd_T63 x0 x3).f1) ((rd_T63 x0 x4).f1)).bind fun t575 => (if t575 = true then (some false) else (spec_l06Ok.l1 k x0 x3 (wrap64 (x4 + 1))))) else (none)) else (none)) else (none)) else (none)) else (spec_l06Ok.l0 k x0 (wrap64 (x3 + 1)))
end
def spec_l06Ok.f (k : Nat) (l0 : List (S63)) : Option (Bool) := (spec_l00In.f (l0.length : Int) 1 400).bind fun t566 => (if t566 = true then (spec_l06Ok.l0 k l0 0) else (some false))
theorem spec_l06Ok.mono_l : ∀ k, (∀ y0 y1, LeO (spec_l06Ok.l0 k y0 y1) (spec_l06Ok.l0 (k + 1) y0 y1)) ∧ (∀ y0 y1 y2, LeO (spec_l06Ok.j1 k y0 y1 y2) (spec_l06Ok.j1 (k + 1) y0 y1 y2)) ∧ (∀ y0 y1 y2, LeO (spec_l06Ok.l1 k y0 y1 y2) (spec_l06Ok.l1 (k + 1) y0 y1 y2))
 | 0 => ⟨fun _ _ r h => by simp [spec_l06Ok.l0] at h, fun _ _ _ r h => by simp [spec_l06Ok.j1] at h, fun _ _ _ r h => by simp [spec_l06Ok.l1] at h⟩
 | k + 1 => by
  obtain ⟨ih0, ih1, ih2⟩ := spec_l06Ok.mono_l k
  refine ⟨?_, ?_, ?_⟩ <;> intros <;> first | unfold spec_l06Ok.l0 | unfold spec_l06Ok.j1 | unfold spec_l06Ok.l1
  all_goals repeat' first
   | (with_reducible first | apply ih0 | apply ih1 | apply ih2 | apply spec_l00Same.mono | apply spec_l02Space.mono | exact LeO.refl _ | exact LeO.none _ | refine LeO.ite ?_ ?_ | refine LeO.bind ?_ (fun _ => ?_))
   | exact LeO.none _
   | refine LeO.ite ?_ ?_
   | refine LeO.bind ?_ (fun _ => ?_)
theorem spec_l06Ok.mono : ∀ a0 k, LeO (spec_l06Ok.f k a0) (spec_l06Ok.f (k + 1) a0) := by
 intro a0 k
 obtain ⟨ih0, ih1, ih2⟩ := spec_l06Ok.mono_l k
 unfold spec_l06Ok.f
 repeat' first
  | (with_reducible first | apply ih0 | apply ih1 | apply ih2 | apply spec_l00Same.mono | apply spec_l02Space.mono | exact LeO.refl _ | exact LeO.none _ | refine LeO.ite ?_ ?_ | refine LeO.bind ?_ (fun _ => ?_))
  | exact LeO.none _
  | refine LeO.ite ?_ ?_
  | refine LeO.bind ?_ (fun _ => ?_)
def spec_l06Ok.T6 : Bool × List (List Nat × List Nat) := (true, [([], []), ([], []), ([0, 1], [0, 1]), ([2], [2]), ([3], [3]), ([4, 3], [4]), ([5], [5]), ([5], [5]), ([6, 7, 5], [5, 6, 7]), ([8, 5], [5, 8]), ([9, 5], [5, 9]), ([5], [5]), ([11, 5], [5, 11]), ([12, 5], [5, 12]), ([13, 5], [5, 13]), ([10, 14, 5], [5, 10, 14]), ([5, 15], [5, 15]), ([16, 5], [16]), ([17], [17]), ([17], [17]), ([18, 19, 17], [17, 18, 19]), ([20, 17], [17, 20]), ([21, 17], [17, 21]), ([22, 17], [17, 22]), ([17], [17]), ([24, 17], [17, 24]), ([25, 17], [17, 25]), ([26, 17], [17, 26]), ([27, 17], [17, 27]), ([23, 28, 17], [17, 23, 28]), ([17, 29], [17, 29])])
def spec_l06Ok.B6 : List Nat := [0, 0, 3, 7, 15, 31, 63, 63, 255, 511, 1023, 63, 2111, 6207, 14399, 32767, 65535, 131071, 262143, 262143, 1048575, 2097151, 4194303, 8388607, 262143, 17039359, 50593791, 117702655, 251920383, 536870911, 1073741823]
theorem spec_l06Ok.tab6 : rtab .any (opsOf Try.f53 6) = spec_l06Ok.T6 := by kernel_rfl
theorem spec_l06Ok.bits6 : waitsOk spec_l06Ok.T6.2 spec_l06Ok.B6 = true := by kernel_rfl
def spec_l06Ok.T11 : Bool × List (List Nat × List Nat) := (true, [([], []), ([], []), ([0, 1], [0, 1]), ([2], [2]), ([3], [3]), ([], []), ([], []), ([5, 6], [5, 6]), ([7], [7]), ([8], [8]), ([4, 9], [4, 9])])
def spec_l06Ok.B11 : List Nat := [0, 0, 3, 7, 15, 0, 0, 96, 224, 480, 1023]
theorem spec_l06Ok.tab11 : rtab .any (opsOf Try.f53 11) = spec_l06Ok.T11 := by kernel_rfl
theorem spec_l06Ok.bits11 : waitsOk spec_l06Ok.T11.2 spec_l06Ok.B11 = true := by kernel_rfl
theorem spec_l06Ok.calls (k : Nat) (A0 : Option Addr) (c0 : Nat) (l0 : List (S63)) (r : Bool) (w : World) (hr0 : Kd.C k63 w A0 l0.length l0) (hc0 : l0.length ≤ c0) (h : spec_l06Ok.f k l0 = some r) :
 Calls Try.prog 53 #[.slice A0 l0.length c0] w fun e w' => e = .returned (.bool r) ∧ Below w.heap.size w w' := by
 have HR0 := Aq.mk hr0
 have HC0 := Aq.mk hc0
 clear hr0 hc0
 have HB := Aq.mk (Below.refl w.heap.size w)
 have H : ((spec_l00In.f (l0.length : Int) 1 400).bind fun t566 => (if t566 = true then (spec_l06Ok.l0 k l0 0) else (some false))) = some r := h
 clear h
 obtain ⟨t566, A2, H⟩ := qBd H
 by_cases c3 : t566 = true
 rotate_left
 ·replace c3 := Bool.eq_false_iff.mpr c3
  subst c3
  rw [if_neg (show ¬ (false = true) by decide)] at H
  obtain rfl := Option.some.inj H
  go_enter Try.func53, Try.ntmps53
  go_wp2_with (first | ((with_reducible refine gQc (f := 62) rfl ?_); refine goesL_ (some 7) rfl rfl Try.func62 (by kernel_rfl) rfl #[.int .i64 (l0.length : Int), .int .i64 1, .int .i64 400] rfl tL ?_; (with_reducible refine (spec_l00In.calls (l0.length : Int) 1 400 false _ A2.out).mono ?_); rintro e w' ⟨rfl, ⟨nd, rfl⟩⟩; refine ⟨_, rfl, ?_⟩))
  go_ret
  exact ⟨tE, tB⟩
 subst c3
 rw [if_pos rfl] at H
 replace H' := Aq.mk H
 clear H
 go_enter Try.func53, Try.ntmps53
 go_wp2_with (first | ((with_reducible refine gQc (f := 62) rfl ?_); refine goesL_ (some 7) rfl rfl Try.func62 (by kernel_rfl) rfl #[.int .i64 (l0.length : Int), .int .i64 1, .int .i64 400] rfl tL ?_; (with_reducible refine (spec_l00In.calls (l0.length : Int) 1 400 true _ A2.out).mono ?_); rintro e w' ⟨rfl, ⟨nd, rfl⟩⟩; refine ⟨_, rfl, ?_⟩))
 go_loopg [3] k (fun kq v3 w' => ∃ (x3_1 : Int), v3 = .int .i64 x3_1 ∧ Aq (spec_l06Ok.l0 kq l0 x3_1 = some r) ∧ Aq (kq ≤ k) ∧ Aq (Below w.heap.size w w'))
 case atStart => exact ⟨(0), tS, H', ⟨Nat.le_refl _⟩, ⟨tB⟩⟩
 clear H'
 try clear c3
 obtain ⟨x3_1, rfl, HA, HK1, HB⟩ := hrel
 cases gk with
 | zero => exact absurd HA.out (by simp [spec_l06Ok.l0])
 | succ k1 =>
  have H := HA.out
  clear HA
  simp only [spec_l06Ok.l0] at H
  by_cases c4 : x3_1 < (l0.length : Int)
  rotate_left
  ·rw [if_neg c4] at H
   have c4b0 := decide_eq_false c4
   clear c4
   obtain rfl := Option.some.inj H
   go_wp2
   go_ret
   exact ⟨tE, tB⟩
  rw [if_pos c4] at H
  have c4b0 := decide_eq_true c4
  clear c4
  have HC5 := Aq.mk H
  clear H
  go_upto_region 6 with (fail)
  go_cut [45] (fun v45 wc => ∃ (kq : Nat) (x45_4 : Bool), v45 = .bool x45_4 ∧ Aq (spec_l06Ok.j1 kq l0 x3_1 x45_4 = some r) ∧ Aq (kq ≤ k1) ∧ Aq (Below w.heap.size w wc))
  case first =>
   have H := HC5.out
   clear HC5
   by_cases c6 : 0 ≤ x3_1
   rotate_left
   ·rw [if_neg c6] at H
    exact absurd H (by simp)
   rw [if_pos c6] at H
   have c6b0 := decide_eq_true c6
   clear c6
   (first | rw [c6b0] | (simp only [i64_w, i32_w]; rw [c6b0]) | skip)
   obtain ⟨t568, A7, H⟩ := qBd H
   by_cases c8 : t568 = true
   rotate_left
   ·replace c8 := Bool.eq_false_iff.mpr c8
    subst c8
    rw [if_neg (show ¬ (false = true) by decide)] at H
    replace H' := Aq.mk H
    clear H
    try go_wp2
    have n0_ := Aq.mk (bQ1 HB.out)
    clear HB
    have HB := n0_
    clear n0_
    have p567 : 0 ≤ (x3_1 : Int) := of_decide_eq_true tA
    have q567 : x3_1 < (l0.length : Int) := of_decide_eq_true tA
    obtain ⟨ad567, A567_1, c567_1, e567, hx567_0, hx567_1, hl567_1, hi567_1⟩ := at_T63 HR0.out x3_1 p567 q567
    have hw567_1 := hx567_1
    have hw567_0 := hx567_0
    cases e567
    replace hx567_0 := (HB.out.cell (World.block_lt_of_cell? w _ hx567_0)).trans hx567_0
    replace hx567_1 := (HB.out.cell (World.block_lt_of_cell? w _ hx567_1)).trans hx567_1
    have HR567_1 := Aq.mk hi567_1
    have HC567_1 := Aq.mk hl567_1
    clear hi567_1 hl567_1
    replace p567 := eq_true p567
    replace q567 := eq_true q567
    refine start_ (n := 31) (S := fun w' => w'.cell? (ad567.add ((x3_1).toNat * 2)) = some (.int .i64 ((rd_T63 l0 x3_1).f0)) ∧ w'.cell? ⟨(ad567.add ((x3_1).toNat * 2)).block, (ad567.add ((x3_1).toNat * 2)).off + 1, none⟩ = some (.slice A567_1 ((rd_T63 l0 x3_1).f1).length c567_1)) (ds := []) #[false, false, false, false, false, false, false, false, false, false, false, false, false, false, false, false, false, false, false, false, false, false, false, false, false, false, false, false, false, false, false] (by kernel_rfl) rfl rfl ⟨(tcw tB hw567_0), (tcw tB hw567_1)⟩ (fun hHeld => ?_); refine with_tabW spec_l06Ok.tab6 spec_l06Ok.bits6 (fun HT_ HW_ => ?_)
    generalize wr.drew = w15 at HB HR567_1 hx567_0 hx567_1 hHeld ⊢
    refine tP0 0 15 (bm 31 1) ?_
    refine tP0 1 16 (bm 31 3) ?_
    refine tP0 2 17 (bm 31 7) ?_
    refine one_ (i := 3) (N := some 18) (bm 31 15) rfl rfl (one_of HT_.out (by kernel_rfl)) (by decide) (fun K hK => ?_)
    refine goes_ Try.func57 (by kernel_rfl) rfl #[.pointer (some (ad567.add (x3_1.toNat * 2)))] (by rfl) rfl rfl tL ?_
    with_reducible refine (spec_l02Space.calls k1 ((ad567.add (x3_1.toNat * 2)) : Addr) ((rd_T63 l0 x3_1).f0) A567_1 c567_1 ((rd_T63 l0 x3_1).f1) false _ ?s1 ?s2 ?s3 A7.out).mono ?_
    (case s1 => exact tC ((Kd.C_below HR567_1.out HB.out)))
    (case s2 => exact HC567_1.out)
    (case s3 => exact AtC.of2 hx567_0 hx567_1)
    rintro e w16 ⟨rfl, hb⟩
    refine ⟨_, rfl, ?_⟩
    have n0_ := Aq.mk (bQT tB hb)
    clear HB
    have HB := n0_
    clear n0_
    (try clear hb)
    (try clear hb2)
    (try clear hk)
    (try clear hi)
    refine hK.out _ _ ⟨(tcw tB hw567_0), (tcw tB hw567_1)⟩ (fun hHeld => ?_)
    clear hK K
    refine tN 18 ?_
    refine tP0 4 19 (bm 31 31) ?_
    refine tP0 5 20 (bm 31 63) ?_
    refine pure_ (i := 6) (N := some 21) (v := undef) (a' := ?_) #[true, true, true, true, true, true, true, false, false, false, false, false, false, false, false, false, false, false, false, false, false, false, false, false, false, false, false, false, false, false, false] rfl rfl (any_of HT_.out (by kernel_rfl)) (fun _ _ _ h => h) (Or.inr ⟨by rfl, rfl⟩) ?_ ?_
    rotate_left
    ·simp only [Act.put, qSa, qSb, qSc, i64_w, i32_w]
     rfl
    refine pure_ (i := 7) (N := some 22) (v := undef) (a' := ?_) #[true, true, true, true, true, true, true, true, false, false, false, false, false, false, false, false, false, false, false, false, false, false, false, false, false, false, false, false, false, false, false] rfl rfl (any_of HT_.out (by kernel_rfl)) (fun _ _ _ h => h) (Or.inr ⟨by rfl, rfl⟩) ?_ ?_
    rotate_left
    ·simp only [Act.put, qSa, qSb, qSc, i64_w, i32_w]
     rfl
    refine pure_ (i := 8) (N := some 23) (v := undef) (a' := ?_) #[true, true, true, true, true, true, true, true, true, false, false, false, false, false, false, false, false, false, false, false, false, false, false, false, false, false, false, false, false, false, false] rfl rfl (any_of HT_.out (by kernel_rfl)) (fun _ _ _ h => h) (Or.inr ⟨by rfl, rfl⟩) ?_ ?_
    rotate_left
    ·simp only [Act.put, qSa, qSb, qSc, i64_w, i32_w]
     rfl
    refine pure_ (i := 9) (N := some 24) (v := undef) (a' := ?_) #[true, true, true, true, true, true, true, true, true, true, false, false, false, false, false, false, false, false, false, false, false, false, false, false, false, false, false, false, false, false, false] rfl rfl (any_of HT_.out (by kernel_rfl)) (fun _ _ _ h => h) (Or.inr ⟨by rfl, rfl⟩) ?_ ?_
    rotate_left
    ·simp only [Act.put, qSa, qSb, qSc, i64_w, i32_w]
     rfl
    refine pure_ (i := 10) (N := some 25) (v := undef) (a' := ?_) #[true, true, true, true, true, true, true, true, true, true, true, false, false, false, false, false, false, false, false, false, false, false, false, false, false, false, false, false, false, false, false] rfl rfl (any_of HT_.out (by kernel_rfl)) (fun _ _ _ h => h) (Or.inr ⟨by rfl, rfl⟩) ?_ ?_
    rotate_left
    ·simp only [Act.put, qSa, qSb, qSc, i64_w, i32_w]
     rfl
    refine pure_ (i := 11) (N := some 26) (v := undef) (a' := ?_) #[true, true, true, true, true, true, true, true, true, true, true, true, false, false, false, false, false, false, false, false, false, false, false, false, false, false, false, false, false, false, false] rfl rfl (any_of HT_.out (by kernel_rfl)) (fun _ _ _ h => h) (Or.inr ⟨by rfl, rfl⟩) ?_ ?_
    rotate_left
    ·simp only [Act.put, qSa, qSb, qSc, i64_w, i32_w]
     rfl
    refine pure_ (i := 12) (N := some 27) (v := undef) (a' := ?_) #[true, true, true, true, true, true, true, true, true, true, true, true, true, false, false, false, false, false, false, false, false, false, false, false, false, false, false, false, false, false, false] rfl rfl (any_of HT_.out (by kernel_rfl)) (fun _ _ _ h => h) (Or.inr ⟨by rfl, rfl⟩) ?_ ?_
    rotate_left
    ·simp only [Act.put, qSa, qSb, qSc, i64_w, i32_w]
     rfl
    refine pure_ (i := 13) (N := some 28) (v := undef) (a' := ?_) #[true, true, true, true, true, true, true, true, true, true, true, true, true, true, false, false, false, false, false, false, false, false, false, false, false, false, false, false, false, false, false] rfl rfl (any_of HT_.out (by kernel_rfl)) (fun _ _ _ h => h) (Or.inr ⟨by rfl, rfl⟩) ?_ ?_
    rotate_left
    ·simp only [Act.put, qSa, qSb, qSc, i64_w, i32_w]
     rfl
    refine pure_ (i := 14) (N := some 29) (v := undef) (a' := ?_) #[true, true, true, true, true, true, true, true, true, true, true, true, true, true, true, false, false, false, false, false, false, false, false, false, false, false, false, false, false, false, false] rfl rfl (any_of HT_.out (by kernel_rfl)) (fun _ _ _ h => h) (Or.inr ⟨by rfl, rfl⟩) ?_ ?_
    rotate_left
    ·simp only [Act.put, qSa, qSb, qSc, i64_w, i32_w]
     rfl
    refine pure_ (i := 15) (N := some 30) (v := undef) (a' := ?_) #[true, true, true, true, true, true, true, true, true, true, true, true, true, true, true, true, false, false, false, false, false, false, false, false, false, false, false, false, false, false, false] rfl rfl (any_of HT_.out (by kernel_rfl)) (fun _ _ _ h => h) (Or.inr ⟨by rfl, rfl⟩) ?_ ?_
    rotate_left
    ·simp only [Act.put, qSa, qSb, qSc, i64_w, i32_w]
     rfl
    refine tP0 16 31 (bm 31 131071) ?_
    refine tP0 17 32 (bm 31 262143) ?_
    refine pure_ (i := 18) (N := some 33) (v := undef) (a' := ?_) #[true, true, true, true, true, true, true, true, true, true, true, true, true, true, true, true, true, true, true, false, false, false, false, false, false, false, false, false, false, false, false] rfl rfl (any_of HT_.out (by kernel_rfl)) (fun _ _ _ h => h) (Or.inr ⟨by rfl, rfl⟩) ?_ ?_
    rotate_left
    ·simp only [Act.put, qSa, qSb, qSc, i64_w, i32_w]
     rfl
    refine pure_ (i := 19) (N := some 34) (v := undef) (a' := ?_) #[true, true, true, true, true, true, true, true, true, true, true, true, true, true, true, true, true, true, true, true, false, false, false, false, false, false, false, false, false, false, false] rfl rfl (any_of HT_.out (by kernel_rfl)) (fun _ _ _ h => h) (Or.inr ⟨by rfl, rfl⟩) ?_ ?_
    rotate_left
    ·simp only [Act.put, qSa, qSb, qSc, i64_w, i32_w]
     rfl
    refine pure_ (i := 20) (N := some 35) (v := undef) (a' := ?_) #[true, true, true, true, true, true, true, true, true, true, true, true, true, true, true, true, true, true, true, true, true, false, false, false, false, false, false, false, false, false, false] rfl rfl (any_of HT_.out (by kernel_rfl)) (fun _ _ _ h => h) (Or.inr ⟨by rfl, rfl⟩) ?_ ?_
    rotate_left
    ·simp only [Act.put, qSa, qSb, qSc, i64_w, i32_w]
     rfl
    refine pure_ (i := 21) (N := some 36) (v := undef) (a' := ?_) #[true, true, true, true, true, true, true, true, true, true, true, true, true, true, true, true, true, true, true, true, true, true, false, false, false, false, false, false, false, false, false] rfl rfl (any_of HT_.out (by kernel_rfl)) (fun _ _ _ h => h) (Or.inr ⟨by rfl, rfl⟩) ?_ ?_
    rotate_left
    ·simp only [Act.put, qSa, qSb, qSc, i64_w, i32_w]
     rfl
    refine pure_ (i := 22) (N := some 37) (v := undef) (a' := ?_) #[true, true, true, true, true, true, true, true, true, true, true, true, true, true, true, true, true, true, true, true, true, true, true, false, false, false, false, false, false, false, false] rfl rfl (any_of HT_.out (by kernel_rfl)) (fun _ _ _ h => h) (Or.inr ⟨by rfl, rfl⟩) ?_ ?_
    rotate_left
    ·simp only [Act.put, qSa, qSb, qSc, i64_w, i32_w]
     rfl
    refine pure_ (i := 23) (N := some 38) (v := undef) (a' := ?_) #[true, true, true, true, true, true, true, true, true, true, true, true, true, true, true, true, true, true, true, true, true, true, true, true, false, false, false, false, false, false, false] rfl rfl (any_of HT_.out (by kernel_rfl)) (fun _ _ _ h => h) (Or.inr ⟨by rfl, rfl⟩) ?_ ?_
    rotate_left
    ·simp only [Act.put, qSa, qSb, qSc, i64_w, i32_w]
     rfl
    refine pure_ (i := 24) (N := some 39) (v := undef) (a' := ?_) #[true, true, true, true, true, true, true, true, true, true, true, true, true, true, true, true, true, true, true, true, true, true, true, true, true, false, false, false, false, false, false] rfl rfl (any_of HT_.out (by kernel_rfl)) (fun _ _ _ h => h) (Or.inr ⟨by rfl, rfl⟩) ?_ ?_
    rotate_left
    ·simp only [Act.put, qSa, qSb, qSc, i64_w, i32_w]
     rfl
    refine pure_ (i := 25) (N := some 40) (v := undef) (a' := ?_) #[true, true, true, true, true, true, true, true, true, true, true, true, true, true, true, true, true, true, true, true, true, true, true, true, true, true, false, false, false, false, false] rfl rfl (any_of HT_.out (by kernel_rfl)) (fun _ _ _ h => h) (Or.inr ⟨by rfl, rfl⟩) ?_ ?_
    rotate_left
    ·simp only [Act.put, qSa, qSb, qSc, i64_w, i32_w]
     rfl
    refine pure_ (i := 26) (N := some 41) (v := undef) (a' := ?_) #[true, true, true, true, true, true, true, true, true, true, true, true, true, true, true, true, true, true, true, true, true, true, true, true, true, true, true, false, false, false, false] rfl rfl (any_of HT_.out (by kernel_rfl)) (fun _ _ _ h => h) (Or.inr ⟨by rfl, rfl⟩) ?_ ?_
    rotate_left
    ·simp only [Act.put, qSa, qSb, qSc, i64_w, i32_w]
     rfl
    refine pure_ (i := 27) (N := some 42) (v := undef) (a' := ?_) #[true, true, true, true, true, true, true, true, true, true, true, true, true, true, true, true, true, true, true, true, true, true, true, true, true, true, true, true, false, false, false] rfl rfl (any_of HT_.out (by kernel_rfl)) (fun _ _ _ h => h) (Or.inr ⟨by rfl, rfl⟩) ?_ ?_
    rotate_left
    ·simp only [Act.put, qSa, qSb, qSc, i64_w, i32_w]
     rfl
    refine pure_ (i := 28) (N := some 43) (v := undef) (a' := ?_) #[true, true, true, true, true, true, true, true, true, true, true, true, true, true, true, true, true, true, true, true, true, true, true, true, true, true, true, true, true, false, false] rfl rfl (any_of HT_.out (by kernel_rfl)) (fun _ _ _ h => h) (Or.inr ⟨by rfl, rfl⟩) ?_ ?_
    rotate_left
    ·simp only [Act.put, qSa, qSb, qSc, i64_w, i32_w]
     rfl
    refine pure_ (i := 29) (N := some 44) (v := undef) (a' := ?_) #[true, true, true, true, true, true, true, true, true, true, true, true, true, true, true, true, true, true, true, true, true, true, true, true, true, true, true, true, true, true, false] rfl rfl (any_of HT_.out (by kernel_rfl)) (fun _ _ _ h => h) (Or.inr ⟨by rfl, rfl⟩) ?_ ?_
    rotate_left
    ·simp only [Act.put, qSa, qSb, qSc, i64_w, i32_w]
     rfl
    refine tP0 30 45 (bm 31 2147483647) ?_
    refine done_ (done_of HT_.out (by kernel_rfl)) ?_
    try go_wp2
    go_meet
    case rel => exact ⟨_, (true), tS, H', ⟨by have := HK1.out; first | omega | exact Nat.le_refl _⟩, ⟨tB⟩⟩
   subst c8
   rw [if_pos rfl] at H
   by_cases c9 : 0 < (l0.length : Int)
   rotate_left
   ·rw [if_neg c9] at H
    exact absurd H (by simp)
   rw [if_pos c9] at H
   have c9b0 := decide_eq_true c9
   have c9b1 : decide (0 < l0.length) = true := decide_eq_true (by omega)
   clear c9
   by_cases c10 : ((rd_T63 l0 x3_1).f0) = ((rd_T63 l0 0).f0)
   rotate_left
   ·rw [if_neg c10] at H
    have c10b0 := beq_eq_false_iff_ne.mpr c10
    have c10b1 := bne_iff_ne.mpr c10
    replace H' := Aq.mk H
    clear H
    try go_wp2
    have n0_ := Aq.mk (bQ1 HB.out)
    clear HB
    have HB := n0_
    clear n0_
    have p567 : 0 ≤ (x3_1 : Int) := of_decide_eq_true tA
    have q567 : x3_1 < (l0.length : Int) := of_decide_eq_true tA
    obtain ⟨ad567, A567_1, c567_1, e567, hx567_0, hx567_1, hl567_1, hi567_1⟩ := at_T63 HR0.out x3_1 p567 q567
    have hw567_1 := hx567_1
    have hw567_0 := hx567_0
    cases e567
    replace hx567_0 := (HB.out.cell (World.block_lt_of_cell? w _ hx567_0)).trans hx567_0
    replace hx567_1 := (HB.out.cell (World.block_lt_of_cell? w _ hx567_1)).trans hx567_1
    have HR567_1 := Aq.mk hi567_1
    have HC567_1 := Aq.mk hl567_1
    clear hi567_1 hl567_1
    replace p567 := eq_true p567
    replace q567 := eq_true q567
    have p569 : 0 ≤ (x3_1 : Int) := of_decide_eq_true tA
    have q569 : x3_1 < (l0.length : Int) := of_decide_eq_true tA
    obtain ⟨ad569, A569_1, c569_1, e569, hx569_0, hx569_1, hl569_1, hi569_1⟩ := at_T63 HR0.out x3_1 p569 q569
    have hw569_1 := hx569_1
    have hw569_0 := hx569_0
    obtain rfl : ad567 = ad569 := (by injection e569)
    replace hx569_0 := (HB.out.cell (World.block_lt_of_cell? w _ hx569_0)).trans hx569_0
    replace hx569_1 := (HB.out.cell (World.block_lt_of_cell? w _ hx569_1)).trans hx569_1
    have HR569_1 := Aq.mk hi569_1
    have HC569_1 := Aq.mk hl569_1
    clear hi569_1 hl569_1
    replace p569 := eq_true p569
    replace q569 := eq_true q569
    have p570 : 0 ≤ (0 : Int) := (by omega)
    have q570 : 0 < (l0.length : Int) := of_decide_eq_true tA
    obtain ⟨ad570, A570_1, c570_1, e570, hx570_0, hx570_1, hl570_1, hi570_1⟩ := at_T63 HR0.out 0 p570 q570
    have hw570_1 := hx570_1
    (try rw [show ((0 : Int)).toNat = 0 from rfl] at hw570_1)
    (try rw [show 0 * 2 = 0 from rfl] at hw570_1)
    (try rw [Addr.add_zero'] at hw570_1)
    have hw570_0 := hx570_0
    (try rw [show ((0 : Int)).toNat = 0 from rfl] at hw570_0)
    (try rw [show 0 * 2 = 0 from rfl] at hw570_0)
    (try rw [Addr.add_zero'] at hw570_0)
    obtain rfl : ad567 = ad570 := (by injection e570)
    have qi570 : (0 < l0.length) = True := eq_true (by omega)
    (try rw [show ((0 : Int)).toNat = 0 from rfl] at hx570_0)
    (try rw [show 0 * 2 = 0 from rfl] at hx570_0)
    (try rw [Addr.add_zero'] at hx570_0)
    (try rw [show ((0 : Int)).toNat = 0 from rfl] at hx570_1)
    (try rw [show 0 * 2 = 0 from rfl] at hx570_1)
    (try rw [Addr.add_zero'] at hx570_1)
    replace hx570_0 := (HB.out.cell (World.block_lt_of_cell? w _ hx570_0)).trans hx570_0
    replace hx570_1 := (HB.out.cell (World.block_lt_of_cell? w _ hx570_1)).trans hx570_1
    have HR570_1 := Aq.mk hi570_1
    have HC570_1 := Aq.mk hl570_1
    clear hi570_1 hl570_1
    replace p570 := eq_true p570
    replace q570 := eq_true q570
    refine start_ (n := 31) (S := fun w' => w'.cell? (ad567.add ((x3_1).toNat * 2)) = some (.int .i64 ((rd_T63 l0 x3_1).f0)) ∧ w'.cell? ⟨(ad567.add ((x3_1).toNat * 2)).block, (ad567.add ((x3_1).toNat * 2)).off + 1, none⟩ = some (.slice A567_1 ((rd_T63 l0 x3_1).f1).length c567_1) ∧ w'.cell? (ad567.add ((x3_1).toNat * 2)) = some (.int .i64 ((rd_T63 l0 x3_1).f0)) ∧ w'.cell? ⟨(ad567.add ((x3_1).toNat * 2)).block, (ad567.add ((x3_1).toNat * 2)).off + 1, none⟩ = some (.slice A569_1 ((rd_T63 l0 x3_1).f1).length c569_1) ∧ w'.cell? ad567 = some (.int .i64 ((rd_T63 l0 0).f0)) ∧ w'.cell? ⟨ad567.block, ad567.off + 1, none⟩ = some (.slice A570_1 ((rd_T63 l0 0).f1).length c570_1)) (ds := []) #[false, false, false, false, false, false, false, false, false, false, false, false, false, false, false, false, false, false, false, false, false, false, false, false, false, false, false, false, false, false, false] (by kernel_rfl) rfl rfl ⟨(tcw tB hw567_0), (tcw tB hw567_1), (tcw tB hw569_0), (tcw tB hw569_1), (tcw tB hw570_0), (tcw tB hw570_1)⟩ (fun hHeld => ?_); refine with_tabW spec_l06Ok.tab6 spec_l06Ok.bits6 (fun HT_ HW_ => ?_)
    generalize wr.drew = w13 at HB HR567_1 HR569_1 HR570_1 hx567_0 hx567_1 hx569_0 hx569_1 hx570_0 hx570_1 hHeld ⊢
    refine tP0 0 15 (bm 31 1) ?_
    refine tP0 1 16 (bm 31 3) ?_
    refine tP0 2 17 (bm 31 7) ?_
    refine one_ (i := 3) (N := some 18) (bm 31 15) rfl rfl (one_of HT_.out (by kernel_rfl)) (by decide) (fun K hK => ?_)
    refine goes_ Try.func57 (by kernel_rfl) rfl #[.pointer (some (ad567.add (x3_1.toNat * 2)))] (by rfl) rfl rfl tL ?_
    with_reducible refine (spec_l02Space.calls k1 ((ad567.add (x3_1.toNat * 2)) : Addr) ((rd_T63 l0 x3_1).f0) A567_1 c567_1 ((rd_T63 l0 x3_1).f1) true _ ?s1 ?s2 ?s3 A7.out).mono ?_
    (case s1 => exact tC ((Kd.C_below HR567_1.out HB.out)))
    (case s2 => exact HC567_1.out)
    (case s3 => exact AtC.of2 hx567_0 hx567_1)
    rintro e w14 ⟨rfl, hb⟩
    refine ⟨_, rfl, ?_⟩
    have n0_ := Aq.mk (bQT tB hb)
    clear HB
    have HB := n0_
    clear n0_
    (try clear hb)
    (try clear hb2)
    (try clear hk)
    (try clear hi)
    refine hK.out _ _ ⟨(tcw tB hw567_0), (tcw tB hw567_1), (tcw tB hw569_0), (tcw tB hw569_1), (tcw tB hw570_0), (tcw tB hw570_1)⟩ (fun hHeld => ?_)
    clear hK K
    refine tN 18 ?_
    refine tP0 4 19 (bm 31 31) ?_
    refine tP0 5 20 (bm 31 63) ?_
    refine tP0 6 21 (bm 31 127) ?_
    refine tP0 7 22 (bm 31 255) ?_
    refine tP0 8 23 (bm 31 511) ?_
    refine tP0 9 24 (bm 31 1023) ?_
    refine tP0 11 26 (bm 31 3071) ?_
    refine tP0 12 27 (bm 31 7167) ?_
    refine tP0 13 28 (bm 31 15359) ?_
    refine tT6 10 25 (bm 31 16383) ?_
    refine tT6 14 29 (bm 31 32767) ?_
    refine tP0 15 30 (bm 31 65535) ?_
    refine tP0 16 31 (bm 31 131071) ?_
    refine tP0 17 32 (bm 31 262143) ?_
    refine pure_ (i := 18) (N := some 33) (v := undef) (a' := ?_) #[true, true, true, true, true, true, true, true, true, true, true, true, true, true, true, true, true, true, true, false, false, false, false, false, false, false, false, false, false, false, false] rfl rfl (any_of HT_.out (by kernel_rfl)) (fun _ _ _ h => h) (Or.inr ⟨by rfl, rfl⟩) ?_ ?_
    rotate_left
    ·simp only [Act.put, qSa, qSb, qSc, i64_w, i32_w]
     rfl
    refine pure_ (i := 19) (N := some 34) (v := undef) (a' := ?_) #[true, true, true, true, true, true, true, true, true, true, true, true, true, true, true, true, true, true, true, true, false, false, false, false, false, false, false, false, false, false, false] rfl rfl (any_of HT_.out (by kernel_rfl)) (fun _ _ _ h => h) (Or.inr ⟨by rfl, rfl⟩) ?_ ?_
    rotate_left
    ·simp only [Act.put, qSa, qSb, qSc, i64_w, i32_w]
     rfl
    refine pure_ (i := 20) (N := some 35) (v := undef) (a' := ?_) #[true, true, true, true, true, true, true, true, true, true, true, true, true, true, true, true, true, true, true, true, true, false, false, false, false, false, false, false, false, false, false] rfl rfl (any_of HT_.out (by kernel_rfl)) (fun _ _ _ h => h) (Or.inr ⟨by rfl, rfl⟩) ?_ ?_
    rotate_left
    ·simp only [Act.put, qSa, qSb, qSc, i64_w, i32_w]
     rfl
    refine pure_ (i := 21) (N := some 36) (v := undef) (a' := ?_) #[true, true, true, true, true, true, true, true, true, true, true, true, true, true, true, true, true, true, true, true, true, true, false, false, false, false, false, false, false, false, false] rfl rfl (any_of HT_.out (by kernel_rfl)) (fun _ _ _ h => h) (Or.inr ⟨by rfl, rfl⟩) ?_ ?_
    rotate_left
    ·simp only [Act.put, qSa, qSb, qSc, i64_w, i32_w]
     rfl
    refine pure_ (i := 22) (N := some 37) (v := undef) (a' := ?_) #[true, true, true, true, true, true, true, true, true, true, true, true, true, true, true, true, true, true, true, true, true, true, true, false, false, false, false, false, false, false, false] rfl rfl (any_of HT_.out (by kernel_rfl)) (fun _ _ _ h => h) (Or.inr ⟨by rfl, rfl⟩) ?_ ?_
    rotate_left
    ·simp only [Act.put, qSa, qSb, qSc, i64_w, i32_w]
     rfl
    refine pure_ (i := 23) (N := some 38) (v := undef) (a' := ?_) #[true, true, true, true, true, true, true, true, true, true, true, true, true, true, true, true, true, true, true, true, true, true, true, true, false, false, false, false, false, false, false] rfl rfl (any_of HT_.out (by kernel_rfl)) (fun _ _ _ h => h) (Or.inr ⟨by rfl, rfl⟩) ?_ ?_
    rotate_left
    ·simp only [Act.put, qSa, qSb, qSc, i64_w, i32_w]
     rfl
    refine pure_ (i := 24) (N := some 39) (v := undef) (a' := ?_) #[true, true, true, true, true, true, true, true, true, true, true, true, true, true, true, true, true, true, true, true, true, true, true, true, true, false, false, false, false, false, false] rfl rfl (any_of HT_.out (by kernel_rfl)) (fun _ _ _ h => h) (Or.inr ⟨by rfl, rfl⟩) ?_ ?_
    rotate_left
    ·simp only [Act.put, qSa, qSb, qSc, i64_w, i32_w]
     rfl
    refine pure_ (i := 25) (N := some 40) (v := undef) (a' := ?_) #[true, true, true, true, true, true, true, true, true, true, true, true, true, true, true, true, true, true, true, true, true, true, true, true, true, true, false, false, false, false, false] rfl rfl (any_of HT_.out (by kernel_rfl)) (fun _ _ _ h => h) (Or.inr ⟨by rfl, rfl⟩) ?_ ?_
    rotate_left
    ·simp only [Act.put, qSa, qSb, qSc, i64_w, i32_w]
     rfl
    refine pure_ (i := 26) (N := some 41) (v := undef) (a' := ?_) #[true, true, true, true, true, true, true, true, true, true, true, true, true, true, true, true, true, true, true, true, true, true, true, true, true, true, true, false, false, false, false] rfl rfl (any_of HT_.out (by kernel_rfl)) (fun _ _ _ h => h) (Or.inr ⟨by rfl, rfl⟩) ?_ ?_
    rotate_left
    ·simp only [Act.put, qSa, qSb, qSc, i64_w, i32_w]
     rfl
    refine pure_ (i := 27) (N := some 42) (v := undef) (a' := ?_) #[true, true, true, true, true, true, true, true, true, true, true, true, true, true, true, true, true, true, true, true, true, true, true, true, true, true, true, true, false, false, false] rfl rfl (any_of HT_.out (by kernel_rfl)) (fun _ _ _ h => h) (Or.inr ⟨by rfl, rfl⟩) ?_ ?_
    rotate_left
    ·simp only [Act.put, qSa, qSb, qSc, i64_w, i32_w]
     rfl
    refine pure_ (i := 28) (N := some 43) (v := undef) (a' := ?_) #[true, true, true, true, true, true, true, true, true, true, true, true, true, true, true, true, true, true, true, true, true, true, true, true, true, true, true, true, true, false, false] rfl rfl (any_of HT_.out (by kernel_rfl)) (fun _ _ _ h => h) (Or.inr ⟨by rfl, rfl⟩) ?_ ?_
    rotate_left
    ·simp only [Act.put, qSa, qSb, qSc, i64_w, i32_w]
     rfl
    refine pure_ (i := 29) (N := some 44) (v := undef) (a' := ?_) #[true, true, true, true, true, true, true, true, true, true, true, true, true, true, true, true, true, true, true, true, true, true, true, true, true, true, true, true, true, true, false] rfl rfl (any_of HT_.out (by kernel_rfl)) (fun _ _ _ h => h) (Or.inr ⟨by rfl, rfl⟩) ?_ ?_
    rotate_left
    ·simp only [Act.put, qSa, qSb, qSc, i64_w, i32_w]
     rfl
    refine tP0 30 45 (bm 31 2147483647) ?_
    refine done_ (done_of HT_.out (by kernel_rfl)) ?_
    try go_wp2
    go_meet
    case rel => exact ⟨_, (true), tS, H', ⟨by have := HK1.out; first | omega | exact Nat.le_refl _⟩, ⟨tB⟩⟩
   rw [if_pos c10] at H
   have c10b0 := beq_iff_eq.mpr c10
   have c10b1 := bne_eq_false_iff_eq.mpr c10
   clear c10
   replace H' := Aq.mk H
   clear H
   try go_wp2
   have n0_ := Aq.mk (bQ1 HB.out)
   clear HB
   have HB := n0_
   clear n0_
   have p567 : 0 ≤ (x3_1 : Int) := of_decide_eq_true tA
   have q567 : x3_1 < (l0.length : Int) := of_decide_eq_true tA
   obtain ⟨ad567, A567_1, c567_1, e567, hx567_0, hx567_1, hl567_1, hi567_1⟩ := at_T63 HR0.out x3_1 p567 q567
   have hw567_1 := hx567_1
   have hw567_0 := hx567_0
   cases e567
   replace hx567_0 := (HB.out.cell (World.block_lt_of_cell? w _ hx567_0)).trans hx567_0
   replace hx567_1 := (HB.out.cell (World.block_lt_of_cell? w _ hx567_1)).trans hx567_1
   have HR567_1 := Aq.mk hi567_1
   have HC567_1 := Aq.mk hl567_1
   clear hi567_1 hl567_1
   replace p567 := eq_true p567
   replace q567 := eq_true q567
   have p569 : 0 ≤ (x3_1 : Int) := of_decide_eq_true tA
   have q569 : x3_1 < (l0.length : Int) := of_decide_eq_true tA
   obtain ⟨ad569, A569_1, c569_1, e569, hx569_0, hx569_1, hl569_1, hi569_1⟩ := at_T63 HR0.out x3_1 p569 q569
   have hw569_1 := hx569_1
   have hw569_0 := hx569_0
   obtain rfl : ad567 = ad569 := (by injection e569)
   replace hx569_0 := (HB.out.cell (World.block_lt_of_cell? w _ hx569_0)).trans hx569_0
   replace hx569_1 := (HB.out.cell (World.block_lt_of_cell? w _ hx569_1)).trans hx569_1
   have HR569_1 := Aq.mk hi569_1
   have HC569_1 := Aq.mk hl569_1
   clear hi569_1 hl569_1
   replace p569 := eq_true p569
   replace q569 := eq_true q569
   have p570 : 0 ≤ (0 : Int) := (by omega)
   have q570 : 0 < (l0.length : Int) := of_decide_eq_true tA
   obtain ⟨ad570, A570_1, c570_1, e570, hx570_0, hx570_1, hl570_1, hi570_1⟩ := at_T63 HR0.out 0 p570 q570
   have hw570_1 := hx570_1
   (try rw [show ((0 : Int)).toNat = 0 from rfl] at hw570_1)
   (try rw [show 0 * 2 = 0 from rfl] at hw570_1)
   (try rw [Addr.add_zero'] at hw570_1)
   have hw570_0 := hx570_0
   (try rw [show ((0 : Int)).toNat = 0 from rfl] at hw570_0)
   (try rw [show 0 * 2 = 0 from rfl] at hw570_0)
   (try rw [Addr.add_zero'] at hw570_0)
   obtain rfl : ad567 = ad570 := (by injection e570)
   have qi570 : (0 < l0.length) = True := eq_true (by omega)
   (try rw [show ((0 : Int)).toNat = 0 from rfl] at hx570_0)
   (try rw [show 0 * 2 = 0 from rfl] at hx570_0)
   (try rw [Addr.add_zero'] at hx570_0)
   (try rw [show ((0 : Int)).toNat = 0 from rfl] at hx570_1)
   (try rw [show 0 * 2 = 0 from rfl] at hx570_1)
   (try rw [Addr.add_zero'] at hx570_1)
   replace hx570_0 := (HB.out.cell (World.block_lt_of_cell? w _ hx570_0)).trans hx570_0
   replace hx570_1 := (HB.out.cell (World.block_lt_of_cell? w _ hx570_1)).trans hx570_1
   have HR570_1 := Aq.mk hi570_1
   have HC570_1 := Aq.mk hl570_1
   clear hi570_1 hl570_1
   replace p570 := eq_true p570
   replace q570 := eq_true q570
   have p571 : 0 ≤ (x3_1 : Int) := of_decide_eq_true tA
   have q571 : x3_1 < (l0.length : Int) := of_decide_eq_true tA
   obtain ⟨ad571, A571_1, c571_1, e571, hx571_0, hx571_1, hl571_1, hi571_1⟩ := at_T63 HR0.out x3_1 p571 q571
   have hw571_1 := hx571_1
   have hw571_0 := hx571_0
   obtain rfl : ad567 = ad571 := (by injection e571)
   replace hx571_0 := (HB.out.cell (World.block_lt_of_cell? w _ hx571_0)).trans hx571_0
   replace hx571_1 := (HB.out.cell (World.block_lt_of_cell? w _ hx571_1)).trans hx571_1
   have HR571_1 := Aq.mk hi571_1
   have HC571_1 := Aq.mk hl571_1
   clear hi571_1 hl571_1
   replace p571 := eq_true p571
   replace q571 := eq_true q571
   have ea_ := Option.some.inj (hx569_1.symm.trans hx571_1)
   injection ea_ with ea_ en_ ec_
   subst ea_
   subst ec_
   clear en_
   have p572 : 0 ≤ (0 : Int) := (by omega)
   have q572 : 0 < (l0.length : Int) := of_decide_eq_true tA
   obtain ⟨ad572, A572_1, c572_1, e572, hx572_0, hx572_1, hl572_1, hi572_1⟩ := at_T63 HR0.out 0 p572 q572
   have hw572_1 := hx572_1
   (try rw [show ((0 : Int)).toNat = 0 from rfl] at hw572_1)
   (try rw [show 0 * 2 = 0 from rfl] at hw572_1)
   (try rw [Addr.add_zero'] at hw572_1)
   have hw572_0 := hx572_0
   (try rw [show ((0 : Int)).toNat = 0 from rfl] at hw572_0)
   (try rw [show 0 * 2 = 0 from rfl] at hw572_0)
   (try rw [Addr.add_zero'] at hw572_0)
   obtain rfl : ad567 = ad572 := (by injection e572)
   have qi572 : (0 < l0.length) = True := eq_true (by omega)
   (try rw [show ((0 : Int)).toNat = 0 from rfl] at hx572_0)
   (try rw [show 0 * 2 = 0 from rfl] at hx572_0)
   (try rw [Addr.add_zero'] at hx572_0)
   (try rw [show ((0 : Int)).toNat = 0 from rfl] at hx572_1)
   (try rw [show 0 * 2 = 0 from rfl] at hx572_1)
   (try rw [Addr.add_zero'] at hx572_1)
   replace hx572_0 := (HB.out.cell (World.block_lt_of_cell? w _ hx572_0)).trans hx572_0
   replace hx572_1 := (HB.out.cell (World.block_lt_of_cell? w _ hx572_1)).trans hx572_1
   have HR572_1 := Aq.mk hi572_1
   have HC572_1 := Aq.mk hl572_1
   clear hi572_1 hl572_1
   replace p572 := eq_true p572
   replace q572 := eq_true q572
   have ea_ := Option.some.inj (hx570_1.symm.trans hx572_1)
   injection ea_ with ea_ en_ ec_
   subst ea_
   subst ec_
   clear en_
   refine start_ (n := 31) (S := fun w' => w'.cell? (ad567.add ((x3_1).toNat * 2)) = some (.int .i64 ((rd_T63 l0 x3_1).f0)) ∧ w'.cell? ⟨(ad567.add ((x3_1).toNat * 2)).block, (ad567.add ((x3_1).toNat * 2)).off + 1, none⟩ = some (.slice A567_1 ((rd_T63 l0 x3_1).f1).length c567_1) ∧ w'.cell? (ad567.add ((x3_1).toNat * 2)) = some (.int .i64 ((rd_T63 l0 x3_1).f0)) ∧ w'.cell? ⟨(ad567.add ((x3_1).toNat * 2)).block, (ad567.add ((x3_1).toNat * 2)).off + 1, none⟩ = some (.slice A569_1 ((rd_T63 l0 x3_1).f1).length c569_1) ∧ w'.cell? ad567 = some (.int .i64 ((rd_T63 l0 0).f0)) ∧ w'.cell? ⟨ad567.block, ad567.off + 1, none⟩ = some (.slice A570_1 ((rd_T63 l0 0).f1).length c570_1) ∧ w'.cell? (ad567.add ((x3_1).toNat * 2)) = some (.int .i64 ((rd_T63 l0 x3_1).f0)) ∧ w'.cell? ⟨(ad567.add ((x3_1).toNat * 2)).block, (ad567.add ((x3_1).toNat * 2)).off + 1, none⟩ = some (.slice A569_1 ((rd_T63 l0 x3_1).f1).length c569_1) ∧ w'.cell? ad567 = some (.int .i64 ((rd_T63 l0 0).f0)) ∧ w'.cell? ⟨ad567.block, ad567.off + 1, none⟩ = some (.slice A570_1 ((rd_T63 l0 0).f1).length c570_1)) (ds := []) #[false, false, false, false, false, false, false, false, false, false, false, false, false, false, false, false, false, false, false, false, false, false, false, false, false, false, false, false, false, false, false] (by kernel_rfl) rfl rfl ⟨(tcw tB hw567_0), (tcw tB hw567_1), (tcw tB hw569_0), (tcw tB hw569_1), (tcw tB hw570_0), (tcw tB hw570_1), (tcw tB hw571_0), (tcw tB hw571_1), (tcw tB hw572_0), (tcw tB hw572_1)⟩ (fun hHeld => ?_); refine with_tabW spec_l06Ok.tab6 spec_l06Ok.bits6 (fun HT_ HW_ => ?_)
   generalize wr.drew = w11 at HB HR567_1 HR569_1 HR570_1 HR571_1 HR572_1 hx567_0 hx567_1 hx569_0 hx569_1 hx570_0 hx570_1 hx571_0 hx571_1 hx572_0 hx572_1 hHeld ⊢
   refine tP0 0 15 (bm 31 1) ?_
   refine tP0 1 16 (bm 31 3) ?_
   refine tP0 2 17 (bm 31 7) ?_
   refine one_ (i := 3) (N := some 18) (bm 31 15) rfl rfl (one_of HT_.out (by kernel_rfl)) (by decide) (fun K hK => ?_)
   refine goes_ Try.func57 (by kernel_rfl) rfl #[.pointer (some (ad567.add (x3_1.toNat * 2)))] (by rfl) rfl rfl tL ?_
   with_reducible refine (spec_l02Space.calls k1 ((ad567.add (x3_1.toNat * 2)) : Addr) ((rd_T63 l0 x3_1).f0) A567_1 c567_1 ((rd_T63 l0 x3_1).f1) true _ ?s1 ?s2 ?s3 A7.out).mono ?_
   (case s1 => exact tC ((Kd.C_below HR567_1.out HB.out)))
   (case s2 => exact HC567_1.out)
   (case s3 => exact AtC.of2 hx567_0 hx567_1)
   rintro e w12 ⟨rfl, hb⟩
   refine ⟨_, rfl, ?_⟩
   have n0_ := Aq.mk (bQT tB hb)
   clear HB
   have HB := n0_
   clear n0_
   (try clear hb)
   (try clear hb2)
   (try clear hk)
   (try clear hi)
   refine hK.out _ _ ⟨(tcw tB hw567_0), (tcw tB hw567_1), (tcw tB hw569_0), (tcw tB hw569_1), (tcw tB hw570_0), (tcw tB hw570_1), (tcw tB hw571_0), (tcw tB hw571_1), (tcw tB hw572_0), (tcw tB hw572_1)⟩ (fun hHeld => ?_)
   clear hK K
   refine tN 18 ?_
   refine tP0 4 19 (bm 31 31) ?_
   refine tP0 5 20 (bm 31 63) ?_
   refine tP0 6 21 (bm 31 127) ?_
   refine tP0 7 22 (bm 31 255) ?_
   refine tP0 8 23 (bm 31 511) ?_
   refine tP0 9 24 (bm 31 1023) ?_
   refine tP0 11 26 (bm 31 3071) ?_
   refine tP0 12 27 (bm 31 7167) ?_
   refine tP0 13 28 (bm 31 15359) ?_
   refine tT10 10 25 (bm 31 16383) ?_
   refine tT10 14 29 (bm 31 32767) ?_
   refine tP0 15 30 (bm 31 65535) ?_
   refine tP0 16 31 (bm 31 131071) ?_
   refine tP0 17 32 (bm 31 262143) ?_
   refine tP0 18 33 (bm 31 524287) ?_
   refine tP0 19 34 (bm 31 1048575) ?_
   refine tP0 20 35 (bm 31 2097151) ?_
   refine tP0 21 36 (bm 31 4194303) ?_
   refine tP0 24 39 (bm 31 20971519) ?_
   refine tP0 25 40 (bm 31 54525951) ?_
   refine tP0 26 41 (bm 31 121634815) ?_
   refine tT10 22 37 (bm 31 125829119) ?_
   refine tP0 23 38 (bm 31 134217727) ?_
   refine tT10 27 42 (bm 31 268435455) ?_
   refine tP0 28 43 (bm 31 536870911) ?_
   refine tP0 29 44 (bm 31 1073741823) ?_
   refine tP0 30 45 (bm 31 2147483647) ?_
   refine done_ (done_of HT_.out (by kernel_rfl)) ?_
   try go_wp2
   go_meet
   case rel => exact ⟨_, (((((rd_T63 l0 x3_1).f1).length : Int) != (((rd_T63 l0 0).f1).length : Int))), tS, H', ⟨by have := HK1.out; first | omega | exact Nat.le_refl _⟩, ⟨tB⟩⟩
  clear HC5
  try clear c6
  try clear c8
  try clear c9
  try clear c10
  try clear c10b0
  try clear c10b1
  try clear hx567_0
  try clear hx567_1
  try clear hx569_0
  try clear hx569_1
  try clear hx570_0
  try clear hx570_1
  try clear p567
  try clear p569
  try clear p570
  try clear q567
  try clear q569
  try clear q570
  obtain ⟨kq, x45_4, rfl, HA, HJ4, HB⟩ := hcut
  cases kq with
  | zero => exact absurd HA.out (by simp [spec_l06Ok.j1])
  | succ kj4 =>
   have H := HA.out
   clear HA
   simp only [spec_l06Ok.j1] at H
   by_cases c17 : x45_4 = true
   ·subst c17
    rw [if_pos rfl] at H
    obtain rfl := Option.some.inj H
    go_wp2
    go_ret
    exact ⟨tE, tB⟩
   replace c17 := Bool.eq_false_iff.mpr c17
   subst c17
   rw [if_neg (show ¬ (false = true) by decide)] at H
   replace H' := Aq.mk H
   clear H
   go_wp2
   go_loopg [4] kj4 (fun kq v4 w' => ∃ (x4_3 : Int), v4 = .int .i64 x4_3 ∧ Aq (spec_l06Ok.l1 kq l0 x3_1 x4_3 = some r) ∧ Aq (kq ≤ kj4) ∧ Aq (Below w.heap.size w w'))
   case atStart => exact ⟨(0), tS, H', ⟨Nat.le_refl _⟩, ⟨tB⟩⟩
   clear H'
   try clear c6
   try clear c8
   try clear c9
   try clear c10
   try clear c10b0
   try clear c10b1
   try clear c17
   try clear hx567_0
   try clear hx567_1
   try clear hx569_0
   try clear hx569_1
   try clear hx570_0
   try clear hx570_1
   try clear p567
   try clear p569
   try clear p570
   try clear q567
   try clear q569
   try clear q570
   obtain ⟨x4_3, rfl, HA, HK3, HB⟩ := hrel
   cases gk with
   | zero => exact absurd HA.out (by simp [spec_l06Ok.l1])
   | succ k3 =>
    have H := HA.out
    clear HA
    simp only [spec_l06Ok.l1] at H
    by_cases c18 : x4_3 < x3_1
    rotate_left
    ·rw [if_neg c18] at H
     have c18b0 := decide_eq_false c18
     clear c18
     replace H' := Aq.mk H
     clear H
     go_wp2
     go_roundg k3
     case measure => have := HK1.out; have := HJ4.out; have := HK3.out; omega
     case rel => exact ⟨(wrap64 (x3_1 + 1)), tS, H', ⟨by have := HK1.out; have := HJ4.out; have := HK3.out; omega⟩, ⟨tB⟩⟩
    rw [if_pos c18] at H
    have c18b0 := decide_eq_true c18
    clear c18
    by_cases c19 : 0 ≤ x3_1
    rotate_left
    ·rw [if_neg c19] at H
     exact absurd H (by simp)
    rw [if_pos c19] at H
    have c19b0 := decide_eq_true c19
    clear c19
    by_cases c20 : x3_1 < (l0.length : Int)
    rotate_left
    ·rw [if_neg c20] at H
     exact absurd H (by simp)
    rw [if_pos c20] at H
    have c20b0 := decide_eq_true c20
    clear c20
    by_cases c21 : 0 ≤ x4_3
    rotate_left
    ·rw [if_neg c21] at H
     exact absurd H (by simp)
    rw [if_pos c21] at H
    have c21b0 := decide_eq_true c21
    clear c21
    by_cases c22 : x4_3 < (l0.length : Int)
    rotate_left
    ·rw [if_neg c22] at H
     exact absurd H (by simp)
    rw [if_pos c22] at H
    have c22b0 := decide_eq_true c22
    clear c22
    obtain ⟨t575, A23, H⟩ := qBd H
    by_cases c24 : t575 = true
    ·subst c24
     rw [if_pos rfl] at H
     obtain rfl := Option.some.inj H
     try go_wp2
     have n0_ := Aq.mk (bQ1 HB.out)
     clear HB
     have HB := n0_
     clear n0_
     have p573 : 0 ≤ (x3_1 : Int) := of_decide_eq_true tA
     have q573 : x3_1 < (l0.length : Int) := of_decide_eq_true tA
     obtain ⟨ad573, A573_1, c573_1, e573, hx573_0, hx573_1, hl573_1, hi573_1⟩ := at_T63 HR0.out x3_1 p573 q573
     have hw573_1 := hx573_1
     have hw573_0 := hx573_0
     cases e573
     replace hx573_0 := (HB.out.cell (World.block_lt_of_cell? w _ hx573_0)).trans hx573_0
     replace hx573_1 := (HB.out.cell (World.block_lt_of_cell? w _ hx573_1)).trans hx573_1
     have HR573_1 := Aq.mk hi573_1
     have HC573_1 := Aq.mk hl573_1
     clear hi573_1 hl573_1
     replace p573 := eq_true p573
     replace q573 := eq_true q573
     have p574 : 0 ≤ (x4_3 : Int) := of_decide_eq_true tA
     have q574 : x4_3 < (l0.length : Int) := of_decide_eq_true tA
     obtain ⟨ad574, A574_1, c574_1, e574, hx574_0, hx574_1, hl574_1, hi574_1⟩ := at_T63 HR0.out x4_3 p574 q574
     have hw574_1 := hx574_1
     have hw574_0 := hx574_0
     obtain rfl : ad573 = ad574 := (by injection e574)
     replace hx574_0 := (HB.out.cell (World.block_lt_of_cell? w _ hx574_0)).trans hx574_0
     replace hx574_1 := (HB.out.cell (World.block_lt_of_cell? w _ hx574_1)).trans hx574_1
     have HR574_1 := Aq.mk hi574_1
     have HC574_1 := Aq.mk hl574_1
     clear hi574_1 hl574_1
     replace p574 := eq_true p574
     replace q574 := eq_true q574
     refine start_ (n := 11) (S := fun w' => w'.cell? (ad573.add ((x3_1).toNat * 2)) = some (.int .i64 ((rd_T63 l0 x3_1).f0)) ∧ w'.cell? ⟨(ad573.add ((x3_1).toNat * 2)).block, (ad573.add ((x3_1).toNat * 2)).off + 1, none⟩ = some (.slice A573_1 ((rd_T63 l0 x3_1).f1).length c573_1) ∧ w'.cell? (ad573.add ((x4_3).toNat * 2)) = some (.int .i64 ((rd_T63 l0 x4_3).f0)) ∧ w'.cell? ⟨(ad573.add ((x4_3).toNat * 2)).block, (ad573.add ((x4_3).toNat * 2)).off + 1, none⟩ = some (.slice A574_1 ((rd_T63 l0 x4_3).f1).length c574_1)) (ds := []) #[false, false, false, false, false, false, false, false, false, false, false] (by kernel_rfl) rfl rfl ⟨(tcw tB hw573_0), (tcw tB hw573_1), (tcw tB hw574_0), (tcw tB hw574_1)⟩ (fun hHeld => ?_); refine with_tabW spec_l06Ok.tab11 spec_l06Ok.bits11 (fun HT_ HW_ => ?_)
     generalize wr.drew = w25 at HB HR573_1 HR574_1 hx573_0 hx573_1 hx574_0 hx574_1 hHeld ⊢
     refine tP0 0 51 (bm 11 1) ?_
     refine tP0 1 52 (bm 11 3) ?_
     refine tP0 2 53 (bm 11 7) ?_
     refine tP0 3 54 (bm 11 15) ?_
     refine tP0 5 56 (bm 11 47) ?_
     refine tP0 6 57 (bm 11 111) ?_
     refine tP0 7 58 (bm 11 239) ?_
     refine tP0 8 59 (bm 11 495) ?_
     refine tT4 4 55 (bm 11 511) ?_
     refine tT4 9 60 (bm 11 1023) ?_
     refine one_ (i := 10) (N := some 61) (bm 11 2047) rfl rfl (one_of HT_.out (by kernel_rfl)) (by decide) (fun K hK => ?_)
     refine goes_ Try.func81 (by kernel_rfl) rfl #[.slice A573_1 ((rd_T63 l0 x3_1).f1).length c573_1, .slice A574_1 ((rd_T63 l0 x4_3).f1).length c574_1] (by rfl) rfl rfl tL ?_
     with_reducible refine (spec_l00Same.calls k3 _ _ ((rd_T63 l0 x3_1).f1) _ _ ((rd_T63 l0 x4_3).f1) true _ ?s1 ?s2 ?s3 ?s4 A23.out).mono ?_
     (case s1 => exact tC ((Kd.C_below HR573_1.out HB.out)))
     (case s2 => exact HC573_1.out)
     (case s3 => exact tC ((Kd.C_below HR574_1.out HB.out)))
     (case s4 => exact HC574_1.out)
     rintro e w' ⟨rfl, ⟨nd, rfl⟩⟩
     refine ⟨_, rfl, ?_⟩
     refine hK.out _ _ ⟨(tcw tB hw573_0), (tcw tB hw573_1), (tcw tB hw574_0), (tcw tB hw574_1)⟩ (fun hHeld => ?_)
     clear hK K
     refine tN 61 ?_
     refine done_ (done_of HT_.out (by kernel_rfl)) ?_
     try go_wp2
     go_ret
     exact ⟨tE, tB⟩
    replace c24 := Bool.eq_false_iff.mpr c24
    subst c24
    rw [if_neg (show ¬ (false = true) by decide)] at H
    replace H' := Aq.mk H
    clear H
    try go_wp2
    have n0_ := Aq.mk (bQ1 HB.out)
    clear HB
    have HB := n0_
    clear n0_
    have p573 : 0 ≤ (x3_1 : Int) := of_decide_eq_true tA
    have q573 : x3_1 < (l0.length : Int) := of_decide_eq_true tA
    obtain ⟨ad573, A573_1, c573_1, e573, hx573_0, hx573_1, hl573_1, hi573_1⟩ := at_T63 HR0.out x3_1 p573 q573
    have hw573_1 := hx573_1
    have hw573_0 := hx573_0
    cases e573
    replace hx573_0 := (HB.out.cell (World.block_lt_of_cell? w _ hx573_0)).trans hx573_0
    replace hx573_1 := (HB.out.cell (World.block_lt_of_cell? w _ hx573_1)).trans hx573_1
    have HR573_1 := Aq.mk hi573_1
    have HC573_1 := Aq.mk hl573_1
    clear hi573_1 hl573_1
    replace p573 := eq_true p573
    replace q573 := eq_true q573
    have p574 : 0 ≤ (x4_3 : Int) := of_decide_eq_true tA
    have q574 : x4_3 < (l0.length : Int) := of_decide_eq_true tA
    obtain ⟨ad574, A574_1, c574_1, e574, hx574_0, hx574_1, hl574_1, hi574_1⟩ := at_T63 HR0.out x4_3 p574 q574
    have hw574_1 := hx574_1
    have hw574_0 := hx574_0
    obtain rfl : ad573 = ad574 := (by injection e574)
    replace hx574_0 := (HB.out.cell (World.block_lt_of_cell? w _ hx574_0)).trans hx574_0
    replace hx574_1 := (HB.out.cell (World.block_lt_of_cell? w _ hx574_1)).trans hx574_1
    have HR574_1 := Aq.mk hi574_1
    have HC574_1 := Aq.mk hl574_1
    clear hi574_1 hl574_1
    replace p574 := eq_true p574
    replace q574 := eq_true q574
    refine start_ (n := 11) (S := fun w' => w'.cell? (ad573.add ((x3_1).toNat * 2)) = some (.int .i64 ((rd_T63 l0 x3_1).f0)) ∧ w'.cell? ⟨(ad573.add ((x3_1).toNat * 2)).block, (ad573.add ((x3_1).toNat * 2)).off + 1, none⟩ = some (.slice A573_1 ((rd_T63 l0 x3_1).f1).length c573_1) ∧ w'.cell? (ad573.add ((x4_3).toNat * 2)) = some (.int .i64 ((rd_T63 l0 x4_3).f0)) ∧ w'.cell? ⟨(ad573.add ((x4_3).toNat * 2)).block, (ad573.add ((x4_3).toNat * 2)).off + 1, none⟩ = some (.slice A574_1 ((rd_T63 l0 x4_3).f1).length c574_1)) (ds := []) #[false, false, false, false, false, false, false, false, false, false, false] (by kernel_rfl) rfl rfl ⟨(tcw tB hw573_0), (tcw tB hw573_1), (tcw tB hw574_0), (tcw tB hw574_1)⟩ (fun hHeld => ?_); refine with_tabW spec_l06Ok.tab11 spec_l06Ok.bits11 (fun HT_ HW_ => ?_)
    generalize wr.drew = w26 at HB HR573_1 HR574_1 hx573_0 hx573_1 hx574_0 hx574_1 hHeld ⊢
    refine tP0 0 51 (bm 11 1) ?_
    refine tP0 1 52 (bm 11 3) ?_
    refine tP0 2 53 (bm 11 7) ?_
    refine tP0 3 54 (bm 11 15) ?_
    refine tP0 5 56 (bm 11 47) ?_
    refine tP0 6 57 (bm 11 111) ?_
    refine tP0 7 58 (bm 11 239) ?_
    refine tP0 8 59 (bm 11 495) ?_
    refine tT4 4 55 (bm 11 511) ?_
    refine tT4 9 60 (bm 11 1023) ?_
    refine one_ (i := 10) (N := some 61) (bm 11 2047) rfl rfl (one_of HT_.out (by kernel_rfl)) (by decide) (fun K hK => ?_)
    refine goes_ Try.func81 (by kernel_rfl) rfl #[.slice A573_1 ((rd_T63 l0 x3_1).f1).length c573_1, .slice A574_1 ((rd_T63 l0 x4_3).f1).length c574_1] (by rfl) rfl rfl tL ?_
    with_reducible refine (spec_l00Same.calls k3 _ _ ((rd_T63 l0 x3_1).f1) _ _ ((rd_T63 l0 x4_3).f1) false _ ?s1 ?s2 ?s3 ?s4 A23.out).mono ?_
    (case s1 => exact tC ((Kd.C_below HR573_1.out HB.out)))
    (case s2 => exact HC573_1.out)
    (case s3 => exact tC ((Kd.C_below HR574_1.out HB.out)))
    (case s4 => exact HC574_1.out)
    rintro e w' ⟨rfl, ⟨nd, rfl⟩⟩
    refine ⟨_, rfl, ?_⟩
    refine hK.out _ _ ⟨(tcw tB hw573_0), (tcw tB hw573_1), (tcw tB hw574_0), (tcw tB hw574_1)⟩ (fun hHeld => ?_)
    clear hK K
    refine tN 61 ?_
    refine done_ (done_of HT_.out (by kernel_rfl)) ?_
    try go_wp2
    go_roundg k3
    case measure => have := HK1.out; have := HJ4.out; have := HK3.out; omega
    case rel => exact ⟨(wrap64 (x4_3 + 1)), tS, H', ⟨by have := HK1.out; have := HJ4.out; have := HK3.out; omega⟩, ⟨tB⟩⟩
end Go.Proofs.Ytbalkaphibnpcaa.P
