/- Functions of the program and what they tell, as the printing program wrote it. -/
import Derived.Test.YtpigghpimgkilaaPx0
import Derived.Test.YtpigghpimgkilaaPx1
import Derived.Test.YtpigghpimgkilaaPx4
namespace Go.Proofs.Ytpigghpimgkilaa.P
open Go.Shelf Go.RowKit Go.Proofs.YtpigghpimgkilaaW.PrintWords Go.Proofs.YtpigghpimgkilaaW.PrintLast Go.Proofs.YtpigghpimgkilaaW.PrintMore
attribute [local go_sem] max2_int min2_int max_two min_two max_three min_three max_four min_four
set_option linter.unusedVariables false
set_option linter.unusedSimpArgs false
set_option maxHeartbeats 8000000
set_option maxRecDepth 100000
def spec_l01List.l0 : Nat → List Int → Int → Int → Int → Option (Int)
  | 0, _, _, _, _ => none
  | k + 1, x1, x5, x396000, x396001 => if x5 < (x1.length : Int) then (if 0 ≤ x5 then ((spec_l01Size.f x396000 x396001).bind fun t398 => ((spec_l00In.f (rd x1 x5) 0 (wrap64 (t398 - 1))).bind fun t399 => (if t399 = true then (spec_l01List.l0 k x1 (wrap64 (x5 + 1)) x396000 x396001) else (some 2)))) else (none)) else (some 0)
def spec_l01List.f (k : Nat) (a0_0 : Int) (a0_1 : Int) (l1 : List Int) : Option (Int) := (spec_l01Ok.f k a0_0 a0_1).bind fun t396 => (if t396 = true then (spec_l01List.l0 k l1 0 a0_0 a0_1) else (some 1))
theorem spec_l01List.mono_l : ∀ k, (∀ y0 y1 y2 y3, LeO (spec_l01List.l0 k y0 y1 y2 y3) (spec_l01List.l0 (k + 1) y0 y1 y2 y3))
 | 0 => fun _ _ _ _ r h => by simp [spec_l01List.l0] at h
 | k + 1 => by
  have ih0 := spec_l01List.mono_l k
  ·intro y0 y1 y2 y3
   unfold spec_l01List.l0
   repeat' first
   | (with_reducible first | apply ih0 | apply spec_l01Ok.mono | exact LeO.refl _ | exact LeO.none _ | refine LeO.ite ?_ ?_ | refine LeO.bind ?_ (fun _ => ?_))
   | exact LeO.none _
   | refine LeO.ite ?_ ?_
   | refine LeO.bind ?_ (fun _ => ?_)
theorem spec_l01List.mono : ∀ a0 a1 a2 k, LeO (spec_l01List.f k a0 a1 a2) (spec_l01List.f (k + 1) a0 a1 a2) := by
 intro a0 a1 a2 k
 have ih0 := spec_l01List.mono_l k
 unfold spec_l01List.f
 repeat' first
  | (with_reducible first | apply ih0 | apply spec_l01Ok.mono | exact LeO.refl _ | exact LeO.none _ | refine LeO.ite ?_ ?_ | refine LeO.bind ?_ (fun _ => ?_))
  | exact LeO.none _
  | refine LeO.ite ?_ ?_
  | refine LeO.bind ?_ (fun _ => ?_)
def spec_l01List.T6 : Bool × List (List Nat × List Nat) := (true, [([], []), ([], []), ([0, 1], [0, 1]), ([2], [2]), ([], []), ([4], [4]), ([5], [5]), ([3, 6, 5], [3, 6]), ([7], [7])])
def spec_l01List.B6 : List Nat := [0, 0, 3, 7, 0, 16, 48, 127, 255]
theorem spec_l01List.tab6 : rtab .any (opsOf Try.f34 6) = spec_l01List.T6 := by kernel_rfl
theorem spec_l01List.bits6 : waitsOk spec_l01List.T6.2 spec_l01List.B6 = true := by kernel_rfl
theorem spec_l01List.calls (k : Nat) (a0_0 : Int) (a0_1 : Int) (A1 : Option Addr) (c1 : Nat) (l1 : List Int) (r : Int) (w : World) (hr1 : Kd.C (Kd.int .i64) w A1 l1.length l1) (hc1 : l1.length ≤ c1) (h : spec_l01List.f k a0_0 a0_1 l1 = some r) :
 Calls Try.prog 34 #[.agg #[.int .i64 a0_0, .int .i64 a0_1], .slice A1 l1.length c1] w fun e w' => e = .returned (.int .i64 r) ∧ Below w.heap.size w w' := by
 have hu27 := Try.underlying27
 have HR1 := Aq.mk hr1
 have HC1 := Aq.mk hc1
 clear hr1 hc1
 have HB := Aq.mk (Below.refl w.heap.size w)
 have H : ((spec_l01Ok.f k a0_0 a0_1).bind fun t396 => (if t396 = true then (spec_l01List.l0 k l1 0 a0_0 a0_1) else (some 1))) = some r := h
 clear h
 obtain ⟨t396, A3, H⟩ := qBd H
 by_cases c4 : t396 = true
 rotate_left
 ·replace c4 := Bool.eq_false_iff.mpr c4
  subst c4
  rw [if_neg (show ¬ (false = true) by decide)] at H
  obtain rfl := Option.some.inj H
  go_enter Try.func34, Try.ntmps34
  go_wp2_with (first | ((with_reducible refine gQd (N := 2) rfl ?_); refine xQe ?hg (N := 2) ?hd (cs := #[.int .i64 a0_0, .int .i64 a0_1]) (t := 27) ?hr ?_; (case hd => rfl); (case hg => rfl); (case hr => exact tH); intro gb395 hg w17 hbox hb; refine qM4 (bQT tB hb) hbox (tZ w hg) (tZ w hg) ?_; clear HB; intro HB BK395 GW395 GE395; clear hb hbox hg; have hcz18_0 : w17.cell? ⟨gb395, 0, none⟩ = some (.int .i64 a0_0) := (kQC BK395.out 0).trans rfl; have hcz18_1 : w17.cell? ⟨gb395, 1, none⟩ = some (.int .i64 a0_1) := (kQC BK395.out 1).trans rfl; have hfz18_0 := kQF BK395.out 0; have hfz18_1 := kQF BK395.out 1) | ((with_reducible refine gQc (f := 48) rfl ?_); refine goesL_ (some 7) rfl rfl Try.func48 (by kernel_rfl) rfl #[.agg #[.int .i64 a0_0, .int .i64 a0_1]] rfl tL ?_; (with_reducible refine (spec_l01Ok.calls k a0_0 a0_1 false _ A3.out).mono ?_); rintro e w19 ⟨rfl, hb⟩; refine ⟨_, rfl, ?_⟩; refine qM2 (tQ BK395.out hb) (bQT tB hb) ?_; clear BK395 HB; intro BK395 HB; (try clear hb); (try clear hb2); (try clear hk); (try clear hi)))
  go_ret
  exact ⟨tE, tB⟩
 subst c4
 rw [if_pos rfl] at H
 replace H' := Aq.mk H
 clear H
 go_enter Try.func34, Try.ntmps34
 go_wp2_with (first | ((with_reducible refine gQd (N := 2) rfl ?_); refine xQe ?hg (N := 2) ?hd (cs := #[.int .i64 a0_0, .int .i64 a0_1]) (t := 27) ?hr ?_; (case hd => rfl); (case hg => rfl); (case hr => exact tH); intro gb395 hg w5 hbox hb; refine qM4 (bQT tB hb) hbox (tZ w hg) (tZ w hg) ?_; clear HB; intro HB BK395 GW395 GE395; clear hb hbox hg; have hcz6_0 : w5.cell? ⟨gb395, 0, none⟩ = some (.int .i64 a0_0) := (kQC BK395.out 0).trans rfl; have hcz6_1 : w5.cell? ⟨gb395, 1, none⟩ = some (.int .i64 a0_1) := (kQC BK395.out 1).trans rfl; have hfz6_0 := kQF BK395.out 0; have hfz6_1 := kQF BK395.out 1) | ((with_reducible refine gQc (f := 48) rfl ?_); refine goesL_ (some 7) rfl rfl Try.func48 (by kernel_rfl) rfl #[.agg #[.int .i64 a0_0, .int .i64 a0_1]] rfl tL ?_; (with_reducible refine (spec_l01Ok.calls k a0_0 a0_1 true _ A3.out).mono ?_); rintro e w7 ⟨rfl, hb⟩; refine ⟨_, rfl, ?_⟩; refine qM2 (tQ BK395.out hb) (bQT tB hb) ?_; clear BK395 HB; intro BK395 HB; (try clear hb); (try clear hb2); (try clear hk); (try clear hi)))
 go_loopg [5] k (fun kq v5 w' => ∃ (x5_1 : Int), v5 = .int .i64 x5_1 ∧ Aq (spec_l01List.l0 kq l1 x5_1 a0_0 a0_1 = some r) ∧ Aq (kq ≤ k) ∧ Aq (w'.heap[gb395]? = some (.cells #[.int .i64 a0_0, .int .i64 a0_1] 27 (0, 0))) ∧ Aq (Below w.heap.size w w'))
 case atStart => exact ⟨(0), tS, H', ⟨Nat.le_refl _⟩, ⟨tG BK395.out⟩, ⟨tB⟩⟩
 clear H'
 try clear c1
 try clear c4
 try clear hcz6_0
 try clear hcz6_1
 try clear hfz6_0
 try clear hfz6_1
 obtain ⟨x5_1, rfl, HA, HK1, BK395, HB⟩ := hrel
 cases gk with
 | zero => exact absurd HA.out (by simp [spec_l01List.l0])
 | succ k1 =>
  have H := HA.out
  clear HA
  simp only [spec_l01List.l0] at H
  by_cases c8 : x5_1 < (l1.length : Int)
  rotate_left
  ·rw [if_neg c8] at H
   have c8b0 := decide_eq_false c8
   clear c8
   obtain rfl := Option.some.inj H
   go_wp2
   go_ret
   exact ⟨tE, tB⟩
  rw [if_pos c8] at H
  have c8b0 := decide_eq_true c8
  clear c8
  by_cases c9 : 0 ≤ x5_1
  rotate_left
  ·rw [if_neg c9] at H
   exact absurd H (by simp)
  rw [if_pos c9] at H
  have c9b0 := decide_eq_true c9
  clear c9
  obtain ⟨t398, A10, H⟩ := qBd H
  obtain ⟨t399, A11, H⟩ := qBd H
  by_cases c12 : t399 = true
  ·subst c12
   rw [if_pos rfl] at H
   replace H' := Aq.mk H
   clear H
   try go_wp2
   have n0_ := Aq.mk (kQD BK395.out)
   have n1_ := Aq.mk (bQ1 HB.out)
   clear BK395
   clear HB
   have BK395 := n0_
   have HB := n1_
   clear n0_ n1_
   have p397 : 0 ≤ (x5_1 : Int) := of_decide_eq_true tA
   have q397 : x5_1 < (l1.length : Int) := of_decide_eq_true tA
   obtain ⟨ad397, e397, hx397_0⟩ := Kd.at_int HR1.out x5_1 p397 q397
   have hw397_0 := hx397_0
   cases e397
   replace hx397_0 := (HB.out.cell (World.block_lt_of_cell? w _ hx397_0)).trans hx397_0
   replace p397 := eq_true p397
   replace q397 := eq_true q397
   refine start_ (n := 9) (S := fun w' => w'.cell? ⟨gb395, 0, none⟩ = some (.int .i64 a0_0) ∧ w'.cell? ⟨gb395, 1, none⟩ = some (.int .i64 a0_1) ∧ w'.cell? (ad397.add (x5_1).toNat) = some (.int .i64 (rd l1 x5_1))) (ds := []) #[false, false, false, false, false, false, false, false, false] (by kernel_rfl) rfl rfl ⟨(kQC BK395.out 0).trans rfl, (kQC BK395.out 1).trans rfl, (tcw tB hw397_0)⟩ (fun hHeld => ?_); refine with_tabW spec_l01List.tab6 spec_l01List.bits6 (fun HT_ HW_ => ?_)
   generalize wr.drew = w13 at BK395 HB hx397_0 hHeld ⊢
   refine tP0 0 15 (bm 9 1) ?_
   refine tP0 1 16 (bm 9 3) ?_
   refine tP0 2 17 (bm 9 7) ?_
   refine tT3 3 18 (bm 9 15) ?_
   refine tT3 4 19 (bm 9 31) ?_
   refine one_ (i := 5) (N := some 20) (bm 9 63) rfl rfl (one_of HT_.out (by kernel_rfl)) (by decide) (fun K hK => ?_)
   refine goes_ Try.func59 (by kernel_rfl) rfl #[.agg #[.int .i64 a0_0, .int .i64 a0_1]] (by rfl) rfl rfl tL ?_
   with_reducible refine (spec_l01Size.calls a0_0 a0_1 t398 _ A10.out).mono ?_
   rintro e w14 ⟨rfl, hb⟩
   refine ⟨_, rfl, ?_⟩
   have n0_ := Aq.mk (tQ BK395.out hb)
   have n1_ := Aq.mk (bQT tB hb)
   clear BK395
   clear HB
   have BK395 := n0_
   have HB := n1_
   clear n0_ n1_
   (try clear hb)
   (try clear hb2)
   (try clear hk)
   (try clear hi)
   refine hK.out _ _ ⟨(kQC BK395.out 0).trans rfl, (kQC BK395.out 1).trans rfl, (tcw tB hw397_0)⟩ (fun hHeld => ?_)
   clear hK K
   refine tN 20 ?_
   refine tP0 6 21 (bm 9 127) ?_
   refine one_ (i := 7) (N := some 22) (bm 9 255) rfl rfl (one_of HT_.out (by kernel_rfl)) (by decide) (fun K hK => ?_)
   refine goes_ Try.func58 (by kernel_rfl) rfl #[.int .i64 (rd l1 x5_1), .int .i64 0, .int .i64 (wrap64 (t398 - 1))] (by rfl) rfl rfl tL ?_
   with_reducible refine (spec_l00In.calls (rd l1 x5_1) 0 (wrap64 (t398 - 1)) true _ A11.out).mono ?_
   rintro e w' ⟨rfl, ⟨nd, rfl⟩⟩
   refine ⟨_, rfl, ?_⟩
   refine hK.out _ _ ⟨(kQC BK395.out 0).trans rfl, (kQC BK395.out 1).trans rfl, (tcw tB hw397_0)⟩ (fun hHeld => ?_)
   clear hK K
   refine tN 22 ?_
   refine tP0 8 23 (bm 9 511) ?_
   refine done_ (done_of HT_.out (by kernel_rfl)) ?_
   try go_wp2
   go_roundg k1
   case measure => have := HK1.out; omega
   case rel => exact ⟨(wrap64 (x5_1 + 1)), tS, H', ⟨by have := HK1.out; omega⟩, ⟨tG BK395.out⟩, ⟨tB⟩⟩
  replace c12 := Bool.eq_false_iff.mpr c12
  subst c12
  rw [if_neg (show ¬ (false = true) by decide)] at H
  obtain rfl := Option.some.inj H
  try go_wp2
  have n0_ := Aq.mk (kQD BK395.out)
  have n1_ := Aq.mk (bQ1 HB.out)
  clear BK395
  clear HB
  have BK395 := n0_
  have HB := n1_
  clear n0_ n1_
  have p397 : 0 ≤ (x5_1 : Int) := of_decide_eq_true tA
  have q397 : x5_1 < (l1.length : Int) := of_decide_eq_true tA
  obtain ⟨ad397, e397, hx397_0⟩ := Kd.at_int HR1.out x5_1 p397 q397
  have hw397_0 := hx397_0
  cases e397
  replace hx397_0 := (HB.out.cell (World.block_lt_of_cell? w _ hx397_0)).trans hx397_0
  replace p397 := eq_true p397
  replace q397 := eq_true q397
  refine start_ (n := 9) (S := fun w' => w'.cell? ⟨gb395, 0, none⟩ = some (.int .i64 a0_0) ∧ w'.cell? ⟨gb395, 1, none⟩ = some (.int .i64 a0_1) ∧ w'.cell? (ad397.add (x5_1).toNat) = some (.int .i64 (rd l1 x5_1))) (ds := []) #[false, false, false, false, false, false, false, false, false] (by kernel_rfl) rfl rfl ⟨(kQC BK395.out 0).trans rfl, (kQC BK395.out 1).trans rfl, (tcw tB hw397_0)⟩ (fun hHeld => ?_); refine with_tabW spec_l01List.tab6 spec_l01List.bits6 (fun HT_ HW_ => ?_)
  generalize wr.drew = w15 at BK395 HB hx397_0 hHeld ⊢
  refine tP0 0 15 (bm 9 1) ?_
  refine tP0 1 16 (bm 9 3) ?_
  refine tP0 2 17 (bm 9 7) ?_
  refine tT3 3 18 (bm 9 15) ?_
  refine tT3 4 19 (bm 9 31) ?_
  refine one_ (i := 5) (N := some 20) (bm 9 63) rfl rfl (one_of HT_.out (by kernel_rfl)) (by decide) (fun K hK => ?_)
  refine goes_ Try.func59 (by kernel_rfl) rfl #[.agg #[.int .i64 a0_0, .int .i64 a0_1]] (by rfl) rfl rfl tL ?_
  with_reducible refine (spec_l01Size.calls a0_0 a0_1 t398 _ A10.out).mono ?_
  rintro e w16 ⟨rfl, hb⟩
  refine ⟨_, rfl, ?_⟩
  have n0_ := Aq.mk (tQ BK395.out hb)
  have n1_ := Aq.mk (bQT tB hb)
  clear BK395
  clear HB
  have BK395 := n0_
  have HB := n1_
  clear n0_ n1_
  (try clear hb)
  (try clear hb2)
  (try clear hk)
  (try clear hi)
  refine hK.out _ _ ⟨(kQC BK395.out 0).trans rfl, (kQC BK395.out 1).trans rfl, (tcw tB hw397_0)⟩ (fun hHeld => ?_)
  clear hK K
  refine tN 20 ?_
  refine tP0 6 21 (bm 9 127) ?_
  refine one_ (i := 7) (N := some 22) (bm 9 255) rfl rfl (one_of HT_.out (by kernel_rfl)) (by decide) (fun K hK => ?_)
  refine goes_ Try.func58 (by kernel_rfl) rfl #[.int .i64 (rd l1 x5_1), .int .i64 0, .int .i64 (wrap64 (t398 - 1))] (by rfl) rfl rfl tL ?_
  with_reducible refine (spec_l00In.calls (rd l1 x5_1) 0 (wrap64 (t398 - 1)) false _ A11.out).mono ?_
  rintro e w' ⟨rfl, ⟨nd, rfl⟩⟩
  refine ⟨_, rfl, ?_⟩
  refine hK.out _ _ ⟨(kQC BK395.out 0).trans rfl, (kQC BK395.out 1).trans rfl, (tcw tB hw397_0)⟩ (fun hHeld => ?_)
  clear hK K
  refine tN 22 ?_
  refine tP0 8 23 (bm 9 511) ?_
  refine done_ (done_of HT_.out (by kernel_rfl)) ?_
  try go_wp2
  go_ret
  exact ⟨tE, tB⟩
def spec_l03Value.l0 : Nat → List Int → Int → Int → Int → Int → Int → Option (Int)
  | 0, _, _, _, _, _, _ => none
  | k + 1, x1, x2, x7, x8, x401000, x401001 => if x8 < (x1.length : Int) then (if 0 ≤ x8 then ((spec_l01Square.f k x401000 x401001 x2 x8).bind fun t402 => ((spec_l01Mul.f k x401000 x401001 (rd x1 x8) t402).bind fun t403 => (spec_l03Value.l0 k x1 x2 (Go.bits .xor .i64 x7 t403) (wrap64 (x8 + 1)) x401000 x401001))) else (none)) else (some x7)
def spec_l03Value.f (k : Nat) (a0_0 : Int) (a0_1 : Int) (l1 : List Int) (a2 : Int) : Option (Int) := spec_l03Value.l0 k l1 a2 0 0 a0_0 a0_1
theorem spec_l03Value.mono_l : ∀ k, (∀ y0 y1 y2 y3 y4 y5, LeO (spec_l03Value.l0 k y0 y1 y2 y3 y4 y5) (spec_l03Value.l0 (k + 1) y0 y1 y2 y3 y4 y5))
 | 0 => fun _ _ _ _ _ _ r h => by simp [spec_l03Value.l0] at h
 | k + 1 => by
  have ih0 := spec_l03Value.mono_l k
  ·intro y0 y1 y2 y3 y4 y5
   unfold spec_l03Value.l0
   repeat' first
   | (with_reducible first | apply ih0 | apply spec_l01Mul.mono | apply spec_l01Square.mono | exact LeO.refl _ | exact LeO.none _ | refine LeO.ite ?_ ?_ | refine LeO.bind ?_ (fun _ => ?_))
   | exact LeO.none _
   | refine LeO.ite ?_ ?_
   | refine LeO.bind ?_ (fun _ => ?_)
theorem spec_l03Value.mono : ∀ a0 a1 a2 a3 k, LeO (spec_l03Value.f k a0 a1 a2 a3) (spec_l03Value.f (k + 1) a0 a1 a2 a3) := by
 intro a0 a1 a2 a3 k
 have ih0 := spec_l03Value.mono_l k
 unfold spec_l03Value.f
 repeat' first
  | (with_reducible first | apply ih0 | apply spec_l01Mul.mono | apply spec_l01Square.mono | exact LeO.refl _ | exact LeO.none _ | refine LeO.ite ?_ ?_ | refine LeO.bind ?_ (fun _ => ?_))
  | exact LeO.none _
  | refine LeO.ite ?_ ?_
  | refine LeO.bind ?_ (fun _ => ?_)
def spec_l03Value.T5 : Bool × List (List Nat × List Nat) := (true, [([], []), ([], []), ([], []), ([], []), ([2, 3], [2, 3]), ([4], [4]), ([], []), ([], []), ([], []), ([6, 7, 8], [6, 7, 8]), ([1, 5, 9, 9], [1, 5, 9]), ([0, 10], [0, 10]), ([11, 10, 0, 1, 2, 3, 4, 5, 6, 7, 8, 9, 10, 11], [0, 11])])
def spec_l03Value.B5 : List Nat := [0, 0, 0, 0, 12, 28, 0, 0, 0, 448, 1022, 2047, 4095]
theorem spec_l03Value.tab5 : rtab .any (opsOf Try.f60 5) = spec_l03Value.T5 := by kernel_rfl
theorem spec_l03Value.bits5 : waitsOk spec_l03Value.T5.2 spec_l03Value.B5 = true := by kernel_rfl
theorem spec_l03Value.calls (k : Nat) (a0_0 : Int) (a0_1 : Int) (A1 : Option Addr) (c1 : Nat) (l1 : List Int) (a2 : Int) (r : Int) (w : World) (hr1 : Kd.C (Kd.int .i64) w A1 l1.length l1) (hc1 : l1.length ≤ c1) (h : spec_l03Value.f k a0_0 a0_1 l1 a2 = some r) :
 Calls Try.prog 60 #[.agg #[.int .i64 a0_0, .int .i64 a0_1], .slice A1 l1.length c1, .int .i64 a2] w fun e w' => e = .returned (.int .i64 r) ∧ Below w.heap.size w w' := by
 have hu27 := Try.underlying27
 have HR1 := Aq.mk hr1
 have HC1 := Aq.mk hc1
 clear hr1 hc1
 have HB := Aq.mk (Below.refl w.heap.size w)
 have H : (spec_l03Value.l0 k l1 a2 0 0 a0_0 a0_1) = some r := h
 clear h
 replace H' := Aq.mk H
 clear H
 go_enter Try.func60, Try.ntmps60
 go_wp2_with (first | ((with_reducible refine gQd (N := 3) rfl ?_); refine xQe ?hg (N := 3) ?hd (cs := #[.int .i64 a0_0, .int .i64 a0_1]) (t := 27) ?hr ?_; (case hd => rfl); (case hg => rfl); (case hr => exact tH); intro gb400 hg w4 hbox hb; refine qM4 (bQT tB hb) hbox (tZ w hg) (tZ w hg) ?_; clear HB; intro HB BK400 GW400 GE400; clear hb hbox hg))
 go_loopg [7, 8] k (fun kq v7 v8 w' => ∃ (x7_1 : Int) (x8_1 : Int), v7 = .int .i64 x7_1 ∧ v8 = .int .i64 x8_1 ∧ Aq (spec_l03Value.l0 kq l1 a2 x7_1 x8_1 a0_0 a0_1 = some r) ∧ Aq (kq ≤ k) ∧ Aq (w'.heap[gb400]? = some (.cells #[.int .i64 a0_0, .int .i64 a0_1] 27 (0, 0))) ∧ Aq (Below w.heap.size w w'))
 case atStart => exact ⟨(0), (0), tS, tS, H', ⟨Nat.le_refl _⟩, ⟨tG BK400.out⟩, ⟨tB⟩⟩
 clear H'
 try clear c1
 obtain ⟨x7_1, x8_1, rfl, rfl, HA, HK1, BK400, HB⟩ := hrel
 cases gk with
 | zero => exact absurd HA.out (by simp [spec_l03Value.l0])
 | succ k1 =>
  have H := HA.out
  clear HA
  simp only [spec_l03Value.l0] at H
  by_cases c5 : x8_1 < (l1.length : Int)
  rotate_left
  ·rw [if_neg c5] at H
   have c5b0 := decide_eq_false c5
   clear c5
   obtain rfl := Option.some.inj H
   go_wp2
   go_ret
   exact ⟨tE, tB⟩
  rw [if_pos c5] at H
  have c5b0 := decide_eq_true c5
  clear c5
  by_cases c6 : 0 ≤ x8_1
  rotate_left
  ·rw [if_neg c6] at H
   exact absurd H (by simp)
  rw [if_pos c6] at H
  have c6b0 := decide_eq_true c6
  clear c6
  obtain ⟨t402, A7, H⟩ := qBd H
  obtain ⟨t403, A8, H⟩ := qBd H
  replace H' := Aq.mk H
  clear H
  try go_wp2
  have n0_ := Aq.mk (kQD BK400.out)
  have n1_ := Aq.mk (bQ1 HB.out)
  clear BK400
  clear HB
  have BK400 := n0_
  have HB := n1_
  clear n0_ n1_
  have p401 : 0 ≤ (x8_1 : Int) := of_decide_eq_true tA
  have q401 : x8_1 < (l1.length : Int) := of_decide_eq_true tA
  obtain ⟨ad401, e401, hx401_0⟩ := Kd.at_int HR1.out x8_1 p401 q401
  have hw401_0 := hx401_0
  cases e401
  replace hx401_0 := (HB.out.cell (World.block_lt_of_cell? w _ hx401_0)).trans hx401_0
  replace p401 := eq_true p401
  replace q401 := eq_true q401
  refine start_ (n := 13) (S := fun w' => w'.cell? ⟨gb400, 0, none⟩ = some (.int .i64 a0_0) ∧ w'.cell? ⟨gb400, 1, none⟩ = some (.int .i64 a0_1) ∧ w'.cell? (ad401.add (x8_1).toNat) = some (.int .i64 (rd l1 x8_1))) (ds := []) #[false, false, false, false, false, false, false, false, false, false, false, false, false] (by kernel_rfl) rfl rfl ⟨(kQC BK400.out 0).trans rfl, (kQC BK400.out 1).trans rfl, (tcw tB hw401_0)⟩ (fun hHeld => ?_); refine with_tabW spec_l03Value.tab5 spec_l03Value.bits5 (fun HT_ HW_ => ?_)
  generalize wr.drew = w9 at BK400 HB hx401_0 hHeld ⊢
  refine tP0 0 15 (bm 13 1) ?_
  refine tP0 2 17 (bm 13 5) ?_
  refine tP0 3 18 (bm 13 13) ?_
  refine tP0 4 19 (bm 13 29) ?_
  refine tP0 7 22 (bm 13 157) ?_
  refine tP0 8 23 (bm 13 413) ?_
  refine tT3 1 16 (bm 13 415) ?_
  refine tT3 5 20 (bm 13 447) ?_
  refine tT3 6 21 (bm 13 511) ?_
  refine one_ (i := 9) (N := some 24) (bm 13 1023) rfl rfl (one_of HT_.out (by kernel_rfl)) (by decide) (fun K hK => ?_)
  refine goes_ Try.func26 (by kernel_rfl) rfl #[.agg #[.int .i64 a0_0, .int .i64 a0_1], .int .i64 a2, .int .i64 x8_1] (by rfl) rfl rfl tL ?_
  with_reducible refine (spec_l01Square.calls k1 a0_0 a0_1 a2 x8_1 t402 _ A7.out).mono ?_
  rintro e w10 ⟨rfl, hb⟩
  refine ⟨_, rfl, ?_⟩
  have n0_ := Aq.mk (tQ BK400.out hb)
  have n1_ := Aq.mk (bQT tB hb)
  clear BK400
  clear HB
  have BK400 := n0_
  have HB := n1_
  clear n0_ n1_
  (try clear hb)
  (try clear hb2)
  (try clear hk)
  (try clear hi)
  refine hK.out _ _ ⟨(kQC BK400.out 0).trans rfl, (kQC BK400.out 1).trans rfl, (tcw tB hw401_0)⟩ (fun hHeld => ?_)
  clear hK K
  refine tN 24 ?_
  refine one_ (i := 10) (N := some 25) (bm 13 2047) rfl rfl (one_of HT_.out (by kernel_rfl)) (by decide) (fun K hK => ?_)
  refine goes_ Try.func50 (by kernel_rfl) rfl #[.agg #[.int .i64 a0_0, .int .i64 a0_1], .int .i64 (rd l1 x8_1), .int .i64 t402] (by rfl) rfl rfl tL ?_
  with_reducible refine (spec_l01Mul.calls k1 a0_0 a0_1 (rd l1 x8_1) t402 t403 _ A8.out).mono ?_
  rintro e w11 ⟨rfl, hb⟩
  refine ⟨_, rfl, ?_⟩
  have n0_ := Aq.mk (tQ BK400.out hb)
  have n1_ := Aq.mk (bQT tB hb)
  clear BK400
  clear HB
  have BK400 := n0_
  have HB := n1_
  clear n0_ n1_
  (try clear hb)
  (try clear hb2)
  (try clear hk)
  (try clear hi)
  refine hK.out _ _ ⟨(kQC BK400.out 0).trans rfl, (kQC BK400.out 1).trans rfl, (tcw tB hw401_0)⟩ (fun hHeld => ?_)
  clear hK K
  refine tN 25 ?_
  refine tP0 11 26 (bm 13 4095) ?_
  refine tP0 12 7 (bm 13 8191) ?_
  refine done_ (done_of HT_.out (by kernel_rfl)) ?_
  try go_wp2
  go_roundg k1
  case measure => have := HK1.out; omega
  case rel => exact ⟨(Go.bits .xor .i64 x7_1 t403), (wrap64 (x8_1 + 1)), tS, tS, H', ⟨by have := HK1.out; omega⟩, ⟨tG BK400.out⟩, ⟨tB⟩⟩
end Go.Proofs.Ytpigghpimgkilaa.P
