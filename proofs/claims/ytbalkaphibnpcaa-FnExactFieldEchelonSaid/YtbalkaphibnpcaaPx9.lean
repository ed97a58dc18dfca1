/- Functions of the program and what they tell, as the printing program wrote it. -/
import Derived.Test.YtbalkaphibnpcaaPx0
import Derived.Test.YtbalkaphibnpcaaPx1
import Derived.Test.YtbalkaphibnpcaaPx5
import Derived.Test.YtbalkaphibnpcaaPx6
namespace Go.Proofs.Ytbalkaphibnpcaa.P
open Go.Shelf Go.RowKit Go.Proofs.YtbalkaphibnpcaaW.PrintWords Go.Proofs.YtbalkaphibnpcaaW.PrintLast Go.Proofs.YtbalkaphibnpcaaW.PrintMore
attribute [local go_sem] max2_int min2_int max_two min_two max_three min_three max_four min_four
set_option linter.unusedVariables false
set_option linter.unusedSimpArgs false
set_option maxHeartbeats 8000000
set_option maxRecDepth 100000
mutual
def spec_l04Rows.j0 : Nat → Int → List (List Int) → Bool → Int → Int → Option (Int)
  | 0, _, _, _, _, _ => none
  | k + 1, x1, x2, x18, x120000, x120001 => if x18 = true then (some 2) else (spec_l04Rows.l0 k x1 x2 0 x120000 x120001)
def spec_l04Rows.l0 : Nat → Int → List (List Int) → Int → Int → Int → Option (Int)
  | 0, _, _, _, _, _ => none
  | k + 1, x1, x2, x7, x120000, x120001 => if x7 < (x2.length : Int) then (if 0 ≤ x7 then (if ((rd_L1 x2 x7).length : Int) = x1 then ((spec_l04Elements.f k x120000 x120001 (rd_L1 x2 x7)).bind fun t124 => (if t124 = true then (spec_l04Rows.l0 k x1 x2 (wrap64 (x7 + 1)) x120000 x120001) else (some 2))) else (some 2)) else (none)) else (some 0)
end
def spec_l04Rows.f (k : Nat) (a0_0 : Int) (a0_1 : Int) (a1 : Int) (l2 : List (List Int)) : Option (Int) := (spec_l01Ok.f k a0_0 a0_1).bind fun t120 => (if t120 = true then ((spec_l00In.f a1 1 5).bind fun t121 => (if t121 = true then (spec_l04Rows.j0 k a1 l2 (decide ((l2.length : Int) > 10)) a0_0 a0_1) else (spec_l04Rows.j0 k a1 l2 true a0_0 a0_1))) else (some 1))
theorem spec_l04Rows.mono_l : ∀ k, (∀ y0 y1 y2 y3 y4, LeO (spec_l04Rows.j0 k y0 y1 y2 y3 y4) (spec_l04Rows.j0 (k + 1) y0 y1 y2 y3 y4)) ∧ (∀ y0 y1 y2 y3 y4, LeO (spec_l04Rows.l0 k y0 y1 y2 y3 y4) (spec_l04Rows.l0 (k + 1) y0 y1 y2 y3 y4))
 | 0 => ⟨fun _ _ _ _ _ r h => by simp [spec_l04Rows.j0] at h, fun _ _ _ _ _ r h => by simp [spec_l04Rows.l0] at h⟩
 | k + 1 => by
  obtain ⟨ih0, ih1⟩ := spec_l04Rows.mono_l k
  refine ⟨?_, ?_⟩ <;> intros <;> first | unfold spec_l04Rows.j0 | unfold spec_l04Rows.l0
  all_goals repeat' first
   | (with_reducible first | apply ih0 | apply ih1 | apply spec_l01Ok.mono | apply spec_l04Elements.mono | exact LeO.refl _ | exact LeO.none _ | refine LeO.ite ?_ ?_ | refine LeO.bind ?_ (fun _ => ?_))
   | exact LeO.none _
   | refine LeO.ite ?_ ?_
   | refine LeO.bind ?_ (fun _ => ?_)
theorem spec_l04Rows.mono : ∀ a0 a1 a2 a3 k, LeO (spec_l04Rows.f k a0 a1 a2 a3) (spec_l04Rows.f (k + 1) a0 a1 a2 a3) := by
 intro a0 a1 a2 a3 k
 obtain ⟨ih0, ih1⟩ := spec_l04Rows.mono_l k
 unfold spec_l04Rows.f
 repeat' first
  | (with_reducible first | apply ih0 | apply ih1 | apply spec_l01Ok.mono | apply spec_l04Elements.mono | exact LeO.refl _ | exact LeO.none _ | refine LeO.ite ?_ ?_ | refine LeO.bind ?_ (fun _ => ?_))
  | exact LeO.none _
  | refine LeO.ite ?_ ?_
  | refine LeO.bind ?_ (fun _ => ?_)
def spec_l04Rows.T8 : Bool × List (List Nat × List Nat) := (true, [([], []), ([], []), ([0, 1], [0, 1]), ([2], [2]), ([3], [3]), ([], []), ([4, 5], [4, 5]), ([6], [6]), ([7], [7]), ([7], [7]), ([7], [7]), ([9, 10, 7], [7, 9, 10]), ([11, 7], [7, 11]), ([8, 12, 7, 7], [7, 8, 12]), ([13, 7], [7, 13]), ([7, 14], [7, 14])])
def spec_l04Rows.B8 : List Nat := [0, 0, 3, 7, 15, 0, 63, 127, 255, 255, 255, 1791, 3839, 8191, 16383, 32767]
theorem spec_l04Rows.tab8 : rtab .any (opsOf Try.f41 8) = spec_l04Rows.T8 := by kernel_rfl
theorem spec_l04Rows.bits8 : waitsOk spec_l04Rows.T8.2 spec_l04Rows.B8 = true := by kernel_rfl
theorem spec_l04Rows.calls (k : Nat) (a0_0 : Int) (a0_1 : Int) (a1 : Int) (A2 : Option Addr) (c2 : Nat) (l2 : List (List Int)) (r : Int) (w : World) (hr2 : Kd.C (Kd.slice 2 (Kd.int .i64)) w A2 l2.length l2) (hc2 : l2.length ≤ c2) (h : spec_l04Rows.f k a0_0 a0_1 a1 l2 = some r) :
 Calls Try.prog 41 #[.agg #[.int .i64 a0_0, .int .i64 a0_1], .int .i64 a1, .slice A2 l2.length c2] w fun e w' => e = .returned (.int .i64 r) ∧ Below w.heap.size w w' := by
 have hu28 := Try.underlying28
 have HR2 := Aq.mk hr2
 have HC2 := Aq.mk hc2
 clear hr2 hc2
 have HB := Aq.mk (Below.refl w.heap.size w)
 have H : ((spec_l01Ok.f k a0_0 a0_1).bind fun t120 => (if t120 = true then ((spec_l00In.f a1 1 5).bind fun t121 => (if t121 = true then (spec_l04Rows.j0 k a1 l2 (decide ((l2.length : Int) > 10)) a0_0 a0_1) else (spec_l04Rows.j0 k a1 l2 true a0_0 a0_1))) else (some 1))) = some r := h
 clear h
 obtain ⟨t120, A4, H⟩ := qBd H
 by_cases c5 : t120 = true
 rotate_left
 ·replace c5 := Bool.eq_false_iff.mpr c5
  subst c5
  rw [if_neg (show ¬ (false = true) by decide)] at H
  obtain rfl := Option.some.inj H
  go_enter Try.func41, Try.ntmps41
  go_wp2_with (first | ((with_reducible refine gQd (N := 3) rfl ?_); (try (refine gate_guard (by rfl) ?_; dsimp only)); refine xQe ?hg (N := 3) ?hd (cs := #[.int .i64 a0_0, .int .i64 a0_1]) (t := 28) ?hr ?_; (case hd => rfl); (case hg => rfl); (case hr => exact tH); intro gb119 hg w23 hbox hb; refine qM4 (bQT tB hb) hbox (tZ w hg) (tZ w hg) ?_; clear HB; intro HB BK119 GW119 GE119; clear hb hbox hg; have hcz24_0 : w23.cell? ⟨gb119, 0, none⟩ = some (.int .i64 a0_0) := (kQC BK119.out 0).trans rfl; have hcz24_1 : w23.cell? ⟨gb119, 1, none⟩ = some (.int .i64 a0_1) := (kQC BK119.out 1).trans rfl; have hfz24_0 := kQF BK119.out 0; have hfz24_1 := kQF BK119.out 1) | ((with_reducible refine gQc (f := 61) rfl ?_); refine goesL_ (some 9) rfl rfl Try.func61 (by kernel_rfl) rfl #[.agg #[.int .i64 a0_0, .int .i64 a0_1]] rfl tL ?_; (with_reducible refine (spec_l01Ok.calls k a0_0 a0_1 false _ A4.out).mono ?_); rintro e w25 ⟨rfl, hb⟩; refine ⟨_, rfl, ?_⟩; refine qM2 (tQ BK119.out hb) (bQT tB hb) ?_; clear BK119 HB; intro BK119 HB; (try clear hb); (try clear hb2); (try clear hk); (try clear hi)))
  go_ret
  exact ⟨tE, tB⟩
 subst c5
 rw [if_pos rfl] at H
 have HC6 := Aq.mk H
 clear H
 go_enter Try.func41, Try.ntmps41
 go_upto_region 3 with (first | ((with_reducible refine gQd (N := 3) rfl ?_); (try (refine gate_guard (by rfl) ?_; dsimp only)); refine xQe ?hg (N := 3) ?hd (cs := #[.int .i64 a0_0, .int .i64 a0_1]) (t := 28) ?hr ?_; (case hd => rfl); (case hg => rfl); (case hr => exact tH); intro gb119 hg w7 hbox hb; refine qM4 (bQT tB hb) hbox (tZ w hg) (tZ w hg) ?_; clear HB; intro HB BK119 GW119 GE119; clear hb hbox hg; have hcz8_0 : w7.cell? ⟨gb119, 0, none⟩ = some (.int .i64 a0_0) := (kQC BK119.out 0).trans rfl; have hcz8_1 : w7.cell? ⟨gb119, 1, none⟩ = some (.int .i64 a0_1) := (kQC BK119.out 1).trans rfl; have hfz8_0 := kQF BK119.out 0; have hfz8_1 := kQF BK119.out 1) | ((with_reducible refine gQc (f := 61) rfl ?_); refine goesL_ (some 9) rfl rfl Try.func61 (by kernel_rfl) rfl #[.agg #[.int .i64 a0_0, .int .i64 a0_1]] rfl tL ?_; (with_reducible refine (spec_l01Ok.calls k a0_0 a0_1 true _ A4.out).mono ?_); rintro e w9 ⟨rfl, hb⟩; refine ⟨_, rfl, ?_⟩; refine qM2 (tQ BK119.out hb) (bQT tB hb) ?_; clear BK119 HB; intro BK119 HB; (try clear hb); (try clear hb2); (try clear hk); (try clear hi)))
 (try simp only [Act.put, qSa, qSb, qSc])
 go_cut [18] (fun v18 wc => ∃ (kq : Nat) (x18_5 : Bool), v18 = .bool x18_5 ∧ Aq (spec_l04Rows.j0 kq a1 l2 x18_5 a0_0 a0_1 = some r) ∧ Aq (kq ≤ k) ∧ Aq (wc.heap[gb119]? = some (.cells #[.int .i64 a0_0, .int .i64 a0_1] 28 (0, 0))) ∧ Aq (Below w.heap.size w wc))
 case first =>
  have H := HC6.out
  clear HC6
  obtain ⟨t121, A10, H⟩ := qBd H
  by_cases c11 : t121 = true
  ·subst c11
   rw [if_pos rfl] at H
   replace H' := Aq.mk H
   clear H
   go_wp2_with (first | ((with_reducible refine gQc (f := 62) rfl ?_); refine goesL_ (some 12) rfl rfl Try.func62 (by kernel_rfl) rfl #[.int .i64 a1, .int .i64 1, .int .i64 5] rfl tL ?_; (with_reducible refine (spec_l00In.calls a1 1 5 true _ A10.out).mono ?_); rintro e w' ⟨rfl, ⟨nd, rfl⟩⟩; refine ⟨_, rfl, ?_⟩))
   go_meet
   case rel => exact ⟨_, (decide ((l2.length : Int) > 10)), tS, H', ⟨tO⟩, ⟨tG BK119.out⟩, ⟨tB⟩⟩
  replace c11 := Bool.eq_false_iff.mpr c11
  subst c11
  rw [if_neg (show ¬ (false = true) by decide)] at H
  replace H' := Aq.mk H
  clear H
  go_wp2_with (first | ((with_reducible refine gQc (f := 62) rfl ?_); refine goesL_ (some 12) rfl rfl Try.func62 (by kernel_rfl) rfl #[.int .i64 a1, .int .i64 1, .int .i64 5] rfl tL ?_; (with_reducible refine (spec_l00In.calls a1 1 5 false _ A10.out).mono ?_); rintro e w' ⟨rfl, ⟨nd, rfl⟩⟩; refine ⟨_, rfl, ?_⟩))
  go_meet
  case rel => exact ⟨_, (true), tS, H', ⟨tO⟩, ⟨tG BK119.out⟩, ⟨tB⟩⟩
 clear HC6
 try clear c2
 try clear c5
 try clear c11
 try clear hcz8_0
 try clear hcz8_1
 try clear hfz8_0
 try clear hfz8_1
 obtain ⟨kq, x18_5, rfl, HA, HJ5, BK119, HB⟩ := hcut
 cases kq with
 | zero => exact absurd HA.out (by simp [spec_l04Rows.j0])
 | succ kj5 =>
  have H := HA.out
  clear HA
  simp only [spec_l04Rows.j0] at H
  by_cases c12 : x18_5 = true
  ·subst c12
   rw [if_pos rfl] at H
   obtain rfl := Option.some.inj H
   go_wp2
   go_ret
   exact ⟨tE, tB⟩
  replace c12 := Bool.eq_false_iff.mpr c12
  subst c12
  rw [if_neg (show ¬ (false = true) by decide)] at H
  replace H' := Aq.mk H
  clear H
  go_wp2
  go_loopg [7] kj5 (fun kq v7 w' => ∃ (x7_2 : Int), v7 = .int .i64 x7_2 ∧ Aq (spec_l04Rows.l0 kq a1 l2 x7_2 a0_0 a0_1 = some r) ∧ Aq (kq ≤ kj5) ∧ Aq (w'.heap[gb119]? = some (.cells #[.int .i64 a0_0, .int .i64 a0_1] 28 (0, 0))) ∧ Aq (Below w.heap.size w w'))
  case atStart => exact ⟨(0), tS, H', ⟨Nat.le_refl _⟩, ⟨tG BK119.out⟩, ⟨tB⟩⟩
  clear H'
  try clear c2
  try clear c5
  try clear c11
  try clear c12
  try clear hcz8_0
  try clear hcz8_1
  try clear hfz8_0
  try clear hfz8_1
  obtain ⟨x7_2, rfl, HA, HK2, BK119, HB⟩ := hrel
  cases gk with
  | zero => exact absurd HA.out (by simp [spec_l04Rows.l0])
  | succ k2 =>
   have H := HA.out
   clear HA
   simp only [spec_l04Rows.l0] at H
   by_cases c13 : x7_2 < (l2.length : Int)
   rotate_left
   ·rw [if_neg c13] at H
    have c13b0 := decide_eq_false c13
    clear c13
    obtain rfl := Option.some.inj H
    go_wp2
    go_ret
    exact ⟨tE, tB⟩
   rw [if_pos c13] at H
   have c13b0 := decide_eq_true c13
   clear c13
   by_cases c14 : 0 ≤ x7_2
   rotate_left
   ·rw [if_neg c14] at H
    exact absurd H (by simp)
   rw [if_pos c14] at H
   have c14b0 := decide_eq_true c14
   clear c14
   by_cases c15 : ((rd_L1 l2 x7_2).length : Int) = a1
   rotate_left
   ·rw [if_neg c15] at H
    have c15b0 := beq_eq_false_iff_ne.mpr c15
    have c15b1 := bne_iff_ne.mpr c15
    obtain rfl := Option.some.inj H
    try go_wp2
    have n0_ := Aq.mk (kQD BK119.out)
    have n1_ := Aq.mk (bQ1 HB.out)
    clear BK119
    clear HB
    have BK119 := n0_
    have HB := n1_
    clear n0_ n1_
    have p122 : 0 ≤ (x7_2 : Int) := of_decide_eq_true tA
    have q122 : x7_2 < (l2.length : Int) := of_decide_eq_true tA
    obtain ⟨ad122, A122_0, c122_0, e122, hx122_0, hl122_0, hi122_0⟩ := at_L1 HR2.out x7_2 p122 q122
    have hw122_0 := hx122_0
    cases e122
    replace hx122_0 := (HB.out.cell (World.block_lt_of_cell? w _ hx122_0)).trans hx122_0
    have HR122_0 := Aq.mk hi122_0
    have HC122_0 := Aq.mk hl122_0
    clear hi122_0 hl122_0
    replace p122 := eq_true p122
    replace q122 := eq_true q122
    refine start_ (n := 16) (S := fun w' => w'.cell? (ad122.add (x7_2).toNat) = some (.slice A122_0 (rd_L1 l2 x7_2).length c122_0)) (ds := []) #[false, false, false, false, false, false, false, false, false, false, false, false, false, false, false, false] (by kernel_rfl) rfl rfl ((tcw tB hw122_0)) (fun hHeld => ?_); refine with_tabW spec_l04Rows.tab8 spec_l04Rows.bits8 (fun HT_ HW_ => ?_)
    generalize wr.drew = w22 at BK119 HB HR122_0 hx122_0 hHeld ⊢
    refine tP0 0 25 (bm 16 1) ?_
    refine tP0 1 26 (bm 16 3) ?_
    refine tP0 2 27 (bm 16 7) ?_
    refine tP0 5 30 (bm 16 39) ?_
    refine take_ (i := 3) (N := some 28) (v := ?_) (a' := ?_) #[true, true, true, true, false, true, false, false, false, false, false, false, false, false, false, false] rfl rfl (take_ofW HT_.out HW_.out (by kernel_rfl)) (fun _ _ _ h => h) (Or.inl ⟨by rfl, ?_⟩) hHeld ?_ ?_
    rotate_left
    ·intro w' s0
     go_simp
     with_reducible rfl
    rotate_left
    ·simp only [Act.put, qSa, qSb, qSc, i64_w, i32_w]
     rfl
    refine tP0 4 29 (bm 16 63) ?_
    refine tP0 6 31 (bm 16 127) ?_
    refine tP0 7 32 (bm 16 255) ?_
    refine pure_ (i := 8) (N := some 33) (v := undef) (a' := ?_) #[true, true, true, true, true, true, true, true, true, false, false, false, false, false, false, false] rfl rfl (any_of HT_.out (by kernel_rfl)) (fun _ _ _ h => h) (Or.inr ⟨by rfl, rfl⟩) ?_ ?_
    rotate_left
    ·simp only [Act.put, qSa, qSb, qSc, i64_w, i32_w]
     rfl
    refine pure_ (i := 9) (N := some 34) (v := undef) (a' := ?_) #[true, true, true, true, true, true, true, true, true, true, false, false, false, false, false, false] rfl rfl (any_of HT_.out (by kernel_rfl)) (fun _ _ _ h => h) (Or.inr ⟨by rfl, rfl⟩) ?_ ?_
    rotate_left
    ·simp only [Act.put, qSa, qSb, qSc, i64_w, i32_w]
     rfl
    refine pure_ (i := 10) (N := some 35) (v := undef) (a' := ?_) #[true, true, true, true, true, true, true, true, true, true, true, false, false, false, false, false] rfl rfl (any_of HT_.out (by kernel_rfl)) (fun _ _ _ h => h) (Or.inr ⟨by rfl, rfl⟩) ?_ ?_
    rotate_left
    ·simp only [Act.put, qSa, qSb, qSc, i64_w, i32_w]
     rfl
    refine pure_ (i := 11) (N := some 36) (v := undef) (a' := ?_) #[true, true, true, true, true, true, true, true, true, true, true, true, false, false, false, false] rfl rfl (any_of HT_.out (by kernel_rfl)) (fun _ _ _ h => h) (Or.inr ⟨by rfl, rfl⟩) ?_ ?_
    rotate_left
    ·simp only [Act.put, qSa, qSb, qSc, i64_w, i32_w]
     rfl
    refine pure_ (i := 12) (N := some 37) (v := undef) (a' := ?_) #[true, true, true, true, true, true, true, true, true, true, true, true, true, false, false, false] rfl rfl (any_of HT_.out (by kernel_rfl)) (fun _ _ _ h => h) (Or.inr ⟨by rfl, rfl⟩) ?_ ?_
    rotate_left
    ·simp only [Act.put, qSa, qSb, qSc, i64_w, i32_w]
     rfl
    refine pure_ (i := 13) (N := some 38) (v := undef) (a' := ?_) #[true, true, true, true, true, true, true, true, true, true, true, true, true, true, false, false] rfl rfl (any_of HT_.out (by kernel_rfl)) (fun _ _ _ h => h) (Or.inr ⟨by rfl, rfl⟩) ?_ ?_
    rotate_left
    ·simp only [Act.put, qSa, qSb, qSc, i64_w, i32_w]
     rfl
    refine pure_ (i := 14) (N := some 39) (v := undef) (a' := ?_) #[true, true, true, true, true, true, true, true, true, true, true, true, true, true, true, false] rfl rfl (any_of HT_.out (by kernel_rfl)) (fun _ _ _ h => h) (Or.inr ⟨by rfl, rfl⟩) ?_ ?_
    rotate_left
    ·simp only [Act.put, qSa, qSb, qSc, i64_w, i32_w]
     rfl
    refine tP0 15 40 (bm 16 65535) ?_
    refine done_ (done_of HT_.out (by kernel_rfl)) ?_
    try go_wp2
    go_ret
    exact ⟨tE, tB⟩
   rw [if_pos c15] at H
   have c15b0 := beq_iff_eq.mpr c15
   have c15b1 := bne_eq_false_iff_eq.mpr c15
   clear c15
   obtain ⟨t124, A16, H⟩ := qBd H
   by_cases c17 : t124 = true
   ·subst c17
    rw [if_pos rfl] at H
    replace H' := Aq.mk H
    clear H
    try go_wp2
    have n0_ := Aq.mk (kQD BK119.out)
    have n1_ := Aq.mk (bQ1 HB.out)
    clear BK119
    clear HB
    have BK119 := n0_
    have HB := n1_
    clear n0_ n1_
    have p122 : 0 ≤ (x7_2 : Int) := of_decide_eq_true tA
    have q122 : x7_2 < (l2.length : Int) := of_decide_eq_true tA
    obtain ⟨ad122, A122_0, c122_0, e122, hx122_0, hl122_0, hi122_0⟩ := at_L1 HR2.out x7_2 p122 q122
    have hw122_0 := hx122_0
    cases e122
    replace hx122_0 := (HB.out.cell (World.block_lt_of_cell? w _ hx122_0)).trans hx122_0
    have HR122_0 := Aq.mk hi122_0
    have HC122_0 := Aq.mk hl122_0
    clear hi122_0 hl122_0
    replace p122 := eq_true p122
    replace q122 := eq_true q122
    have p123 : 0 ≤ (x7_2 : Int) := of_decide_eq_true tA
    have q123 : x7_2 < (l2.length : Int) := of_decide_eq_true tA
    obtain ⟨ad123, A123_0, c123_0, e123, hx123_0, hl123_0, hi123_0⟩ := at_L1 HR2.out x7_2 p123 q123
    have hw123_0 := hx123_0
    obtain rfl : ad122 = ad123 := (by injection e123)
    replace hx123_0 := (HB.out.cell (World.block_lt_of_cell? w _ hx123_0)).trans hx123_0
    have HR123_0 := Aq.mk hi123_0
    have HC123_0 := Aq.mk hl123_0
    clear hi123_0 hl123_0
    replace p123 := eq_true p123
    replace q123 := eq_true q123
    have ea_ := Option.some.inj (hx122_0.symm.trans hx123_0)
    injection ea_ with ea_ en_ ec_
    subst ea_
    subst ec_
    clear en_
    refine start_ (n := 16) (S := fun w' => w'.cell? ⟨gb119, 0, none⟩ = some (.int .i64 a0_0) ∧ w'.cell? ⟨gb119, 1, none⟩ = some (.int .i64 a0_1) ∧ w'.cell? (ad122.add (x7_2).toNat) = some (.slice A122_0 (rd_L1 l2 x7_2).length c122_0) ∧ w'.cell? (ad122.add (x7_2).toNat) = some (.slice A122_0 (rd_L1 l2 x7_2).length c122_0)) (ds := []) #[false, false, false, false, false, false, false, false, false, false, false, false, false, false, false, false] (by kernel_rfl) rfl rfl ⟨(kQC BK119.out 0).trans rfl, (kQC BK119.out 1).trans rfl, (tcw tB hw122_0), (tcw tB hw123_0)⟩ (fun hHeld => ?_); refine with_tabW spec_l04Rows.tab8 spec_l04Rows.bits8 (fun HT_ HW_ => ?_)
    generalize wr.drew = w18 at BK119 HB HR122_0 HR123_0 hx122_0 hx123_0 hHeld ⊢
    refine tP0 0 25 (bm 16 1) ?_
    refine tP0 1 26 (bm 16 3) ?_
    refine tP0 2 27 (bm 16 7) ?_
    refine tP0 5 30 (bm 16 39) ?_
    refine tT4 3 28 (bm 16 47) ?_
    refine tP0 4 29 (bm 16 63) ?_
    refine tP0 6 31 (bm 16 127) ?_
    refine tP0 7 32 (bm 16 255) ?_
    refine tP0 9 34 (bm 16 767) ?_
    refine tP0 10 35 (bm 16 1791) ?_
    refine tP0 11 36 (bm 16 3839) ?_
    refine tT4 8 33 (bm 16 4095) ?_
    refine tT4 12 37 (bm 16 8191) ?_
    refine one_ (i := 13) (N := some 38) (bm 16 16383) rfl rfl (one_of HT_.out (by kernel_rfl)) (by decide) (fun K hK => ?_)
    refine goes_ Try.func63 (by kernel_rfl) rfl #[.agg #[.int .i64 a0_0, .int .i64 a0_1], .slice A122_0 (rd_L1 l2 x7_2).length c122_0] (by rfl) rfl rfl tL ?_
    with_reducible refine (spec_l04Elements.calls k2 a0_0 a0_1 _ _ (rd_L1 l2 x7_2) true _ ?s1 ?s2 A16.out).mono ?_
    (case s1 => exact tC ((Kd.C_below HR123_0.out HB.out)))
    (case s2 => exact HC123_0.out)
    rintro e w19 ⟨rfl, hb⟩
    refine ⟨_, rfl, ?_⟩
    have n0_ := Aq.mk (tQ BK119.out hb)
    have n1_ := Aq.mk (bQT tB hb)
    clear BK119
    clear HB
    have BK119 := n0_
    have HB := n1_
    clear n0_ n1_
    (try clear hb)
    (try clear hb2)
    (try clear hk)
    (try clear hi)
    refine hK.out _ _ ⟨(kQC BK119.out 0).trans rfl, (kQC BK119.out 1).trans rfl, (tcw tB hw122_0), (tcw tB hw123_0)⟩ (fun hHeld => ?_)
    clear hK K
    refine tN 38 ?_
    refine tP0 14 39 (bm 16 32767) ?_
    refine tP0 15 40 (bm 16 65535) ?_
    refine done_ (done_of HT_.out (by kernel_rfl)) ?_
    try go_wp2
    go_roundg k2
    case measure => have := HJ5.out; have := HK2.out; omega
    case rel => exact ⟨(wrap64 (x7_2 + 1)), tS, H', ⟨by have := HJ5.out; have := HK2.out; omega⟩, ⟨tG BK119.out⟩, ⟨tB⟩⟩
   replace c17 := Bool.eq_false_iff.mpr c17
   subst c17
   rw [if_neg (show ¬ (false = true) by decide)] at H
   obtain rfl := Option.some.inj H
   try go_wp2
   have n0_ := Aq.mk (kQD BK119.out)
   have n1_ := Aq.mk (bQ1 HB.out)
   clear BK119
   clear HB
   have BK119 := n0_
   have HB := n1_
   clear n0_ n1_
   have p122 : 0 ≤ (x7_2 : Int) := of_decide_eq_true tA
   have q122 : x7_2 < (l2.length : Int) := of_decide_eq_true tA
   obtain ⟨ad122, A122_0, c122_0, e122, hx122_0, hl122_0, hi122_0⟩ := at_L1 HR2.out x7_2 p122 q122
   have hw122_0 := hx122_0
   cases e122
   replace hx122_0 := (HB.out.cell (World.block_lt_of_cell? w _ hx122_0)).trans hx122_0
   have HR122_0 := Aq.mk hi122_0
   have HC122_0 := Aq.mk hl122_0
   clear hi122_0 hl122_0
   replace p122 := eq_true p122
   replace q122 := eq_true q122
   have p123 : 0 ≤ (x7_2 : Int) := of_decide_eq_true tA
   have q123 : x7_2 < (l2.length : Int) := of_decide_eq_true tA
   obtain ⟨ad123, A123_0, c123_0, e123, hx123_0, hl123_0, hi123_0⟩ := at_L1 HR2.out x7_2 p123 q123
   have hw123_0 := hx123_0
   obtain rfl : ad122 = ad123 := (by injection e123)
   replace hx123_0 := (HB.out.cell (World.block_lt_of_cell? w _ hx123_0)).trans hx123_0
   have HR123_0 := Aq.mk hi123_0
   have HC123_0 := Aq.mk hl123_0
   clear hi123_0 hl123_0
   replace p123 := eq_true p123
   replace q123 := eq_true q123
   have ea_ := Option.some.inj (hx122_0.symm.trans hx123_0)
   injection ea_ with ea_ en_ ec_
   subst ea_
   subst ec_
   clear en_
   refine start_ (n := 16) (S := fun w' => w'.cell? ⟨gb119, 0, none⟩ = some (.int .i64 a0_0) ∧ w'.cell? ⟨gb119, 1, none⟩ = some (.int .i64 a0_1) ∧ w'.cell? (ad122.add (x7_2).toNat) = some (.slice A122_0 (rd_L1 l2 x7_2).length c122_0) ∧ w'.cell? (ad122.add (x7_2).toNat) = some (.slice A122_0 (rd_L1 l2 x7_2).length c122_0)) (ds := []) #[false, false, false, false, false, false, false, false, false, false, false, false, false, false, false, false] (by kernel_rfl) rfl rfl ⟨(kQC BK119.out 0).trans rfl, (kQC BK119.out 1).trans rfl, (tcw tB hw122_0), (tcw tB hw123_0)⟩ (fun hHeld => ?_); refine with_tabW spec_l04Rows.tab8 spec_l04Rows.bits8 (fun HT_ HW_ => ?_)
   generalize wr.drew = w20 at BK119 HB HR122_0 HR123_0 hx122_0 hx123_0 hHeld ⊢
   refine tP0 0 25 (bm 16 1) ?_
   refine tP0 1 26 (bm 16 3) ?_
   refine tP0 2 27 (bm 16 7) ?_
   refine tP0 5 30 (bm 16 39) ?_
   refine tT4 3 28 (bm 16 47) ?_
   refine tP0 4 29 (bm 16 63) ?_
   refine tP0 6 31 (bm 16 127) ?_
   refine tP0 7 32 (bm 16 255) ?_
   refine tP0 9 34 (bm 16 767) ?_
   refine tP0 10 35 (bm 16 1791) ?_
   refine tP0 11 36 (bm 16 3839) ?_
   refine tT4 8 33 (bm 16 4095) ?_
   refine tT4 12 37 (bm 16 8191) ?_
   refine one_ (i := 13) (N := some 38) (bm 16 16383) rfl rfl (one_of HT_.out (by kernel_rfl)) (by decide) (fun K hK => ?_)
   refine goes_ Try.func63 (by kernel_rfl) rfl #[.agg #[.int .i64 a0_0, .int .i64 a0_1], .slice A122_0 (rd_L1 l2 x7_2).length c122_0] (by rfl) rfl rfl tL ?_
   with_reducible refine (spec_l04Elements.calls k2 a0_0 a0_1 _ _ (rd_L1 l2 x7_2) false _ ?s1 ?s2 A16.out).mono ?_
   (case s1 => exact tC ((Kd.C_below HR123_0.out HB.out)))
   (case s2 => exact HC123_0.out)
   rintro e w21 ⟨rfl, hb⟩
   refine ⟨_, rfl, ?_⟩
   have n0_ := Aq.mk (tQ BK119.out hb)
   have n1_ := Aq.mk (bQT tB hb)
   clear BK119
   clear HB
   have BK119 := n0_
   have HB := n1_
   clear n0_ n1_
   (try clear hb)
   (try clear hb2)
   (try clear hk)
   (try clear hi)
   refine hK.out _ _ ⟨(kQC BK119.out 0).trans rfl, (kQC BK119.out 1).trans rfl, (tcw tB hw122_0), (tcw tB hw123_0)⟩ (fun hHeld => ?_)
   clear hK K
   refine tN 38 ?_
   refine tP0 14 39 (bm 16 32767) ?_
   refine tP0 15 40 (bm 16 65535) ?_
   refine done_ (done_of HT_.out (by kernel_rfl)) ?_
   try go_wp2
   go_ret
   exact ⟨tE, tB⟩
end Go.Proofs.Ytbalkaphibnpcaa.P
