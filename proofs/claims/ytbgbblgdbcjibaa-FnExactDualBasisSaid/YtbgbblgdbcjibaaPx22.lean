/- Functions of the program and what they tell, as the printing program wrote it. -/
import Derived.Test.YtbgbblgdbcjibaaPx0
import Derived.Test.YtbgbblgdbcjibaaPx3
import Derived.Test.YtbgbblgdbcjibaaPx7
namespace Go.Proofs.Ytbgbblgdbcjibaa.P
open Go.Shelf Go.RowKit Go.Proofs.YtbgbblgdbcjibaaW.PrintWords Go.Proofs.YtbgbblgdbcjibaaW.PrintLast Go.Proofs.YtbgbblgdbcjibaaW.PrintMore
attribute [local go_sem] max2_int min2_int max_two min_two max_three min_three max_four min_four
set_option linter.unusedVariables false
set_option linter.unusedSimpArgs false
set_option maxHeartbeats 8000000
set_option maxRecDepth 100000
def impl_Field_trace.l0 : Nat → Int → Int → Int → Int → Int → Int → Option (Int)
  | 0, _, _, _, _, _, _ => none
  | k + 1, x1, x5, x8, x9, x353000, x353001 => if x9 < x8 then ((impl_Field_square.f k x353000 x353001 x1 x9).bind fun t353 => (impl_Field_trace.l0 k x1 (Go.bits .xor .i64 x5 t353) x8 (wrap64 (x9 + 1)) x353000 x353001)) else (some x5)
def impl_Field_trace.f (k : Nat) (a0_0 : Int) (a0_1 : Int) (a1 : Int) : Option (Int) := impl_Field_trace.l0 k a1 0 a0_0 0 a0_0 a0_1
theorem impl_Field_trace.mono_l : ∀ k, (∀ y0 y1 y2 y3 y4 y5, LeO (impl_Field_trace.l0 k y0 y1 y2 y3 y4 y5) (impl_Field_trace.l0 (k + 1) y0 y1 y2 y3 y4 y5))
 | 0 => fun _ _ _ _ _ _ r h => by simp [impl_Field_trace.l0] at h
 | k + 1 => by
  have ih0 := impl_Field_trace.mono_l k
  ·intro y0 y1 y2 y3 y4 y5
   unfold impl_Field_trace.l0
   repeat' first
   | (with_reducible first | apply ih0 | apply impl_Field_square.mono | exact LeO.refl _ | exact LeO.none _ | refine LeO.ite ?_ ?_ | refine LeO.bind ?_ (fun _ => ?_))
   | exact LeO.none _
   | refine LeO.ite ?_ ?_
   | refine LeO.bind ?_ (fun _ => ?_)
theorem impl_Field_trace.mono : ∀ a0 a1 a2 k, LeO (impl_Field_trace.f k a0 a1 a2) (impl_Field_trace.f (k + 1) a0 a1 a2) := by
 intro a0 a1 a2 k
 have ih0 := impl_Field_trace.mono_l k
 unfold impl_Field_trace.f
 repeat' first
  | (with_reducible first | apply ih0 | apply impl_Field_square.mono | exact LeO.refl _ | exact LeO.none _ | refine LeO.ite ?_ ?_ | refine LeO.bind ?_ (fun _ => ?_))
  | exact LeO.none _
  | refine LeO.ite ?_ ?_
  | refine LeO.bind ?_ (fun _ => ?_)
theorem impl_Field_trace.calls (k : Nat) (a0_0 : Int) (a0_1 : Int) (a1 : Int) (r : Int) (w : World) (h : impl_Field_trace.f k a0_0 a0_1 a1 = some r) :
 Calls Try.prog 51 #[.agg #[.int .i64 a0_0, .int .i64 a0_1], .int .i64 a1] w fun e w' => e = .returned (.int .i64 r) ∧ Below w.heap.size w w' := by
 have hu26 := Try.underlying26
 have HB := Aq.mk (Below.refl w.heap.size w)
 have H : (impl_Field_trace.l0 k a1 0 a0_0 0 a0_0 a0_1) = some r := h
 clear h
 replace H' := Aq.mk H
 clear H
 go_enter Try.func51, Try.ntmps51
 go_wp2_with (first | ((with_reducible refine gQd (N := 2) rfl ?_); refine xQe ?hg (N := 2) ?hd (cs := #[.int .i64 a0_0, .int .i64 a0_1]) (t := 26) ?hr ?_; (case hd => rfl); (case hg => rfl); (case hr => exact tH); intro gb352 hg w3 hbox hb; refine qM4 (bQT tB hb) hbox (tZ w hg) (tZ w hg) ?_; clear HB; intro HB BK352 GW352 GE352; clear hb hbox hg; have hcz4_0 : w3.cell? ⟨gb352, 0, none⟩ = some (.int .i64 a0_0) := (kQC BK352.out 0).trans rfl; have hcz4_1 : w3.cell? ⟨gb352, 1, none⟩ = some (.int .i64 a0_1) := (kQC BK352.out 1).trans rfl; have hfz4_0 := kQF BK352.out 0; have hfz4_1 := kQF BK352.out 1))
 go_loopg [5, 9] k (fun kq v5 v9 w' => ∃ (x5_1 : Int) (x9_1 : Int), v5 = .int .i64 x5_1 ∧ v9 = .int .i64 x9_1 ∧ Aq (impl_Field_trace.l0 kq a1 x5_1 a0_0 x9_1 a0_0 a0_1 = some r) ∧ Aq (kq ≤ k) ∧ Aq (w'.heap[gb352]? = some (.cells #[.int .i64 a0_0, .int .i64 a0_1] 26 (0, 0))) ∧ Aq (Below w.heap.size w w'))
 case atStart => exact ⟨(0), (0), tS, tS, H', ⟨Nat.le_refl _⟩, ⟨tG BK352.out⟩, ⟨tB⟩⟩
 clear H'
 try clear hcz4_0
 try clear hcz4_1
 try clear hfz4_0
 try clear hfz4_1
 obtain ⟨x5_1, x9_1, rfl, rfl, HA, HK1, BK352, HB⟩ := hrel
 cases gk with
 | zero => exact absurd HA.out (by simp [impl_Field_trace.l0])
 | succ k1 =>
  have H := HA.out
  clear HA
  simp only [impl_Field_trace.l0] at H
  by_cases c5 : x9_1 < a0_0
  rotate_left
  ·rw [if_neg c5] at H
   have c5b0 := decide_eq_false c5
   clear c5
   obtain rfl := Option.some.inj H
   go_wp2
   go_ret
   exact ⟨tE, tB⟩
  rw [if_pos c5] at H
  have c5b0 := decide_eq_true c5
  clear c5
  obtain ⟨t353, A6, H⟩ := qBd H
  replace H' := Aq.mk H
  clear H
  have hcz7_0 : wr.cell? ⟨gb352, 0, none⟩ = some (.int .i64 a0_0) := (kQC BK352.out 0).trans rfl
  have hcz7_1 : wr.cell? ⟨gb352, 1, none⟩ = some (.int .i64 a0_1) := (kQC BK352.out 1).trans rfl
  have hfz7_0 := kQF BK352.out 0
  have hfz7_1 := kQF BK352.out 1
  go_wp2_with (first | ((with_reducible refine gQc (f := 42) rfl ?_); refine goesL_ (some 16) rfl rfl Try.func42 (by kernel_rfl) rfl #[.agg #[.int .i64 a0_0, .int .i64 a0_1], .int .i64 a1, .int .i64 x9_1] rfl tL ?_; (with_reducible refine (impl_Field_square.calls k1 a0_0 a0_1 a1 x9_1 t353 _ A6.out).mono ?_); rintro e w8 ⟨rfl, hb⟩; refine ⟨_, rfl, ?_⟩; refine qM2 (tQ BK352.out hb) (bQT tB hb) ?_; clear BK352 HB; intro BK352 HB; (try clear hb); (try clear hb2); (try clear hk); (try clear hi)))
  go_roundg k1
  case measure => have := HK1.out; omega
  case rel => exact ⟨(Go.bits .xor .i64 x5_1 t353), (wrap64 (x9_1 + 1)), tS, tS, H', ⟨by have := HK1.out; omega⟩, ⟨tG BK352.out⟩, ⟨tB⟩⟩
def impl_DualBasis_1.l0 : Nat → Int → List Int → Int → Int → Int → Int → Int → Option (Bool)
  | 0, _, _, _, _, _, _, _ => none
  | k + 1, x0, x8, x9, x10, x57000, x57001, x65000 => if x10 < x9 then (if 0 ≤ x10 then (if x10 < (x8.length : Int) then ((impl_Field_mul.f k x57000 x57001 x0 (rd x8 x10)).bind fun t355 => ((impl_Field_trace.f k x57000 x57001 t355).bind fun t356 => (if ((t356 == 1) != (x10 == x65000)) = true then (some false) else (impl_DualBasis_1.l0 k x0 x8 x9 (wrap64 (x10 + 1)) x57000 x57001 x65000)))) else (none)) else (none)) else (some true)
def impl_DualBasis_1.f (k : Nat) (a0 : Int) (l1_0 : List Int) (a2_0 : Int) (a2_1 : Int) (a3_0 : Int) : Option (Bool) := impl_DualBasis_1.l0 k a0 l1_0 (l1_0.length : Int) 0 a2_0 a2_1 a3_0
theorem impl_DualBasis_1.mono_l : ∀ k, (∀ y0 y1 y2 y3 y4 y5 y6, LeO (impl_DualBasis_1.l0 k y0 y1 y2 y3 y4 y5 y6) (impl_DualBasis_1.l0 (k + 1) y0 y1 y2 y3 y4 y5 y6))
 | 0 => fun _ _ _ _ _ _ _ r h => by simp [impl_DualBasis_1.l0] at h
 | k + 1 => by
  have ih0 := impl_DualBasis_1.mono_l k
  ·intro y0 y1 y2 y3 y4 y5 y6
   unfold impl_DualBasis_1.l0
   repeat' first
   | (with_reducible first | apply ih0 | apply impl_Field_mul.mono | apply impl_Field_trace.mono | exact LeO.refl _ | exact LeO.none _ | refine LeO.ite ?_ ?_ | refine LeO.bind ?_ (fun _ => ?_))
   | exact LeO.none _
   | refine LeO.ite ?_ ?_
   | refine LeO.bind ?_ (fun _ => ?_)
theorem impl_DualBasis_1.mono : ∀ a0 a1 a2 a3 a4 k, LeO (impl_DualBasis_1.f k a0 a1 a2 a3 a4) (impl_DualBasis_1.f (k + 1) a0 a1 a2 a3 a4) := by
 intro a0 a1 a2 a3 a4 k
 have ih0 := impl_DualBasis_1.mono_l k
 unfold impl_DualBasis_1.f
 repeat' first
  | (with_reducible first | apply ih0 | apply impl_Field_mul.mono | apply impl_Field_trace.mono | exact LeO.refl _ | exact LeO.none _ | refine LeO.ite ?_ ?_ | refine LeO.bind ?_ (fun _ => ?_))
  | exact LeO.none _
  | refine LeO.ite ?_ ?_
  | refine LeO.bind ?_ (fun _ => ?_)
def impl_DualBasis_1.T4 : Bool × List (List Nat × List Nat) := (true, [([], []), ([], []), ([], []), ([], []), ([1, 2, 3], [1, 2, 3]), ([0, 4, 4], [0, 4]), ([5], [5]), ([], []), ([], []), ([7, 8], [7, 8]), ([6, 9], [6, 9])])
def impl_DualBasis_1.B4 : List Nat := [0, 0, 0, 0, 14, 31, 63, 0, 0, 384, 1023]
theorem impl_DualBasis_1.tab4 : rtab .any (opsOf Try.f50 4) = impl_DualBasis_1.T4 := by kernel_rfl
theorem impl_DualBasis_1.bits4 : waitsOk impl_DualBasis_1.T4.2 impl_DualBasis_1.B4 = true := by kernel_rfl
theorem impl_DualBasis_1.calls (k : Nat) (a0 : Int) (g1_0 : Addr) (A1_0 : Option Addr) (c1_0 : Nat) (l1_0 : List Int) (g2_0 : Addr) (a2_0 : Int) (a2_1 : Int) (g3_0 : Addr) (a3_0 : Int) (r : Bool) (w : World) (hr1_0 : Kd.C (Kd.int .i64) w A1_0 l1_0.length l1_0) (hc1_0 : l1_0.length ≤ c1_0) (hb1_0 : AtC w g1_0 [.slice A1_0 l1_0.length c1_0]) (hb2_0 : AtC w g2_0 [.int .i64 a2_0, .int .i64 a2_1]) (hb3_0 : AtC w g3_0 [.int .i64 a3_0]) (h : impl_DualBasis_1.f k a0 l1_0 a2_0 a2_1 a3_0 = some r) :
 Calls Try.prog 50 #[.int .i64 a0, .pointer (some g1_0), .pointer (some g2_0), .pointer (some g3_0)] w fun e w' => e = .returned (.bool r) ∧ Below w.heap.size w w' := by
 have hu26 := Try.underlying26
 have HR1_0 := Aq.mk hr1_0
 have HC1_0 := Aq.mk hc1_0
 clear hr1_0 hc1_0
 have BK48 := Aq.mk hb1_0
 clear hb1_0
 have BK56 := Aq.mk hb2_0
 clear hb2_0
 have BK64 := Aq.mk hb3_0
 clear hb3_0
 have HB := Aq.mk (Below.refl w.heap.size w)
 have H : (impl_DualBasis_1.l0 k a0 l1_0 (l1_0.length : Int) 0 a2_0 a2_1 a3_0) = some r := h
 clear h
 replace H' := Aq.mk H
 clear H
 have hcz5_0 : w.cell? g1_0 = some (.slice A1_0 l1_0.length c1_0) := AtC.cell0 BK48.out _ rfl
 go_enter Try.func50, Try.ntmps50
 go_wp2
 go_loopg [10] k (fun kq v10 w' => ∃ (x10_1 : Int), v10 = .int .i64 x10_1 ∧ Aq (impl_DualBasis_1.l0 kq a0 l1_0 (l1_0.length : Int) x10_1 a2_0 a2_1 a3_0 = some r) ∧ Aq (kq ≤ k) ∧ Aq (Below w.heap.size w w'))
 case atStart => exact ⟨(0), tS, H', ⟨Nat.le_refl _⟩, ⟨tB⟩⟩
 clear H'
 try clear hcz5_0
 obtain ⟨x10_1, rfl, HA, HK1, HB⟩ := hrel
 cases gk with
 | zero => exact absurd HA.out (by simp [impl_DualBasis_1.l0])
 | succ k1 =>
  have H := HA.out
  clear HA
  simp only [impl_DualBasis_1.l0] at H
  by_cases c6 : x10_1 < (l1_0.length : Int)
  rotate_left
  ·rw [if_neg c6] at H
   have c6b0 := decide_eq_false c6
   clear c6
   obtain rfl := Option.some.inj H
   go_wp2
   go_ret
   exact ⟨tE, tB⟩
  rw [if_pos c6] at H
  have c6b0 := decide_eq_true c6
  clear c6
  by_cases c7 : 0 ≤ x10_1
  rotate_left
  ·rw [if_neg c7] at H
   exact absurd H (by simp)
  rw [if_pos c7] at H
  have c7b0 := decide_eq_true c7
  clear c7
  by_cases c8 : x10_1 < (l1_0.length : Int)
  rotate_left
  ·rw [if_neg c8] at H
   exact absurd H (by simp)
  rw [if_pos c8] at H
  have c8b0 := decide_eq_true c8
  clear c8
  obtain ⟨t355, A9, H⟩ := qBd H
  obtain ⟨t356, A10, H⟩ := qBd H
  by_cases c11 : ((t356 == 1) != (x10_1 == a3_0)) = true
  ·rw [if_pos c11] at H
   have c11b0 : ((t356 == 1) != (x10_1 == a3_0)) = true := c11
   (try (have c11b1 : decide ((t356 == 1) = (x10_1 == a3_0)) = false := by simpa using c11))
   (try (have c11b2 : ((t356 == 1) == (x10_1 == a3_0)) = false := by simpa using c11))
   (try (have c11b3 : ¬ ((t356 == 1) = (x10_1 == a3_0)) := by simpa using c11))
   clear c11
   obtain rfl := Option.some.inj H
   have p354 : 0 ≤ (x10_1 : Int) := of_decide_eq_true tA
   have q354 : x10_1 < (l1_0.length : Int) := of_decide_eq_true tA
   obtain ⟨ad354, e354, hx354_0⟩ := Kd.at_int HR1_0.out x10_1 p354 q354
   cases e354
   replace hx354_0 := (HB.out.cell (World.block_lt_of_cell? w _ hx354_0)).trans hx354_0
   replace p354 := eq_true p354
   replace q354 := eq_true q354
   try go_wp2
   have n0_ := Aq.mk (bQ1 HB.out)
   clear HB
   have HB := n0_
   clear n0_
   refine start_ (n := 11) (S := fun w' => w'.cell? g2_0 = some (.int .i64 a2_0) ∧ w'.cell? ⟨g2_0.block, g2_0.off + 1, none⟩ = some (.int .i64 a2_1) ∧ w'.cell? g3_0 = some (.int .i64 a3_0)) (ds := []) #[false, false, false, false, false, false, false, false, false, false, false] (by kernel_rfl) rfl rfl ⟨(tcw tB (AtC.cell0 BK56.out _ rfl)), (tcw tB (AtC.cell BK56.out 1 _ (by decide) rfl)), (tcw tB (AtC.cell0 BK64.out _ rfl))⟩ (fun hHeld => ?_); refine with_tabW impl_DualBasis_1.tab4 impl_DualBasis_1.bits4 (fun HT_ HW_ => ?_)
   generalize wr.drew = w12 at HB hHeld ⊢
   refine tP0 2 17 (bm 11 4) ?_
   refine tP0 3 18 (bm 11 12) ?_
   refine tP0 7 22 (bm 11 140) ?_
   refine tT3 0 15 (bm 11 141) ?_
   refine tT3 1 16 (bm 11 143) ?_
   refine tT3 8 23 (bm 11 399) ?_
   refine tP0 9 24 (bm 11 911) ?_
   refine one_ (i := 4) (N := some 19) (bm 11 927) rfl rfl (one_of HT_.out (by kernel_rfl)) (by decide) (fun K hK => ?_)
   refine goes_ Try.func52 (by kernel_rfl) rfl #[.agg #[.int .i64 a2_0, .int .i64 a2_1], .int .i64 a0, .int .i64 (rd l1_0 x10_1)] (by rfl) rfl rfl tL ?_
   with_reducible refine (impl_Field_mul.calls k1 a2_0 a2_1 a0 (rd l1_0 x10_1) t355 _ A9.out).mono ?_
   rintro e w13 ⟨rfl, hb⟩
   refine ⟨_, rfl, ?_⟩
   have n0_ := Aq.mk (bQT tB hb)
   clear HB
   have HB := n0_
   clear n0_
   (try clear hb)
   (try clear hb2)
   (try clear hk)
   (try clear hi)
   refine hK.out _ _ ⟨(tcw tB (AtC.cell0 BK56.out _ rfl)), (tcw tB (AtC.cell BK56.out 1 _ (by decide) rfl)), (tcw tB (AtC.cell0 BK64.out _ rfl))⟩ (fun hHeld => ?_)
   clear hK K
   refine tN 19 ?_
   refine one_ (i := 5) (N := some 20) (bm 11 959) rfl rfl (one_of HT_.out (by kernel_rfl)) (by decide) (fun K hK => ?_)
   refine goes_ Try.func51 (by kernel_rfl) rfl #[.agg #[.int .i64 a2_0, .int .i64 a2_1], .int .i64 t355] (by rfl) rfl rfl tL ?_
   with_reducible refine (impl_Field_trace.calls k1 a2_0 a2_1 t355 t356 _ A10.out).mono ?_
   rintro e w14 ⟨rfl, hb⟩
   refine ⟨_, rfl, ?_⟩
   have n0_ := Aq.mk (bQT tB hb)
   clear HB
   have HB := n0_
   clear n0_
   (try clear hb)
   (try clear hb2)
   (try clear hk)
   (try clear hi)
   refine hK.out _ _ ⟨(tcw tB (AtC.cell0 BK56.out _ rfl)), (tcw tB (AtC.cell BK56.out 1 _ (by decide) rfl)), (tcw tB (AtC.cell0 BK64.out _ rfl))⟩ (fun hHeld => ?_)
   clear hK K
   refine tN 20 ?_
   refine tP0 6 21 (bm 11 1023) ?_
   refine tP0 10 25 (bm 11 2047) ?_
   refine done_ (done_of HT_.out (by kernel_rfl)) ?_
   try go_wp2
   go_ret
   exact ⟨tE, tB⟩
  rw [if_neg c11] at H
  have c11b0 : ((t356 == 1) != (x10_1 == a3_0)) = false := by simpa using c11
  (try (have c11b1 : decide ((t356 == 1) = (x10_1 == a3_0)) = true := by simpa using c11))
  (try (have c11b2 : ((t356 == 1) == (x10_1 == a3_0)) = true := by simpa using c11))
  clear c11
  replace H' := Aq.mk H
  clear H
  have p354 : 0 ≤ (x10_1 : Int) := of_decide_eq_true tA
  have q354 : x10_1 < (l1_0.length : Int) := of_decide_eq_true tA
  obtain ⟨ad354, e354, hx354_0⟩ := Kd.at_int HR1_0.out x10_1 p354 q354
  cases e354
  replace hx354_0 := (HB.out.cell (World.block_lt_of_cell? w _ hx354_0)).trans hx354_0
  replace p354 := eq_true p354
  replace q354 := eq_true q354
  try go_wp2
  have n0_ := Aq.mk (bQ1 HB.out)
  clear HB
  have HB := n0_
  clear n0_
  refine start_ (n := 11) (S := fun w' => w'.cell? g2_0 = some (.int .i64 a2_0) ∧ w'.cell? ⟨g2_0.block, g2_0.off + 1, none⟩ = some (.int .i64 a2_1) ∧ w'.cell? g3_0 = some (.int .i64 a3_0)) (ds := []) #[false, false, false, false, false, false, false, false, false, false, false] (by kernel_rfl) rfl rfl ⟨(tcw tB (AtC.cell0 BK56.out _ rfl)), (tcw tB (AtC.cell BK56.out 1 _ (by decide) rfl)), (tcw tB (AtC.cell0 BK64.out _ rfl))⟩ (fun hHeld => ?_); refine with_tabW impl_DualBasis_1.tab4 impl_DualBasis_1.bits4 (fun HT_ HW_ => ?_)
  generalize wr.drew = w15 at HB hHeld ⊢
  refine tP0 2 17 (bm 11 4) ?_
  refine tP0 3 18 (bm 11 12) ?_
  refine tP0 7 22 (bm 11 140) ?_
  refine tT3 0 15 (bm 11 141) ?_
  refine tT3 1 16 (bm 11 143) ?_
  refine tT3 8 23 (bm 11 399) ?_
  refine tP0 9 24 (bm 11 911) ?_
  refine one_ (i := 4) (N := some 19) (bm 11 927) rfl rfl (one_of HT_.out (by kernel_rfl)) (by decide) (fun K hK => ?_)
  refine goes_ Try.func52 (by kernel_rfl) rfl #[.agg #[.int .i64 a2_0, .int .i64 a2_1], .int .i64 a0, .int .i64 (rd l1_0 x10_1)] (by rfl) rfl rfl tL ?_
  with_reducible refine (impl_Field_mul.calls k1 a2_0 a2_1 a0 (rd l1_0 x10_1) t355 _ A9.out).mono ?_
  rintro e w16 ⟨rfl, hb⟩
  refine ⟨_, rfl, ?_⟩
  have n0_ := Aq.mk (bQT tB hb)
  clear HB
  have HB := n0_
  clear n0_
  (try clear hb)
  (try clear hb2)
  (try clear hk)
  (try clear hi)
  refine hK.out _ _ ⟨(tcw tB (AtC.cell0 BK56.out _ rfl)), (tcw tB (AtC.cell BK56.out 1 _ (by decide) rfl)), (tcw tB (AtC.cell0 BK64.out _ rfl))⟩ (fun hHeld => ?_)
  clear hK K
  refine tN 19 ?_
  refine one_ (i := 5) (N := some 20) (bm 11 959) rfl rfl (one_of HT_.out (by kernel_rfl)) (by decide) (fun K hK => ?_)
  refine goes_ Try.func51 (by kernel_rfl) rfl #[.agg #[.int .i64 a2_0, .int .i64 a2_1], .int .i64 t355] (by rfl) rfl rfl tL ?_
  with_reducible refine (impl_Field_trace.calls k1 a2_0 a2_1 t355 t356 _ A10.out).mono ?_
  rintro e w17 ⟨rfl, hb⟩
  refine ⟨_, rfl, ?_⟩
  have n0_ := Aq.mk (bQT tB hb)
  clear HB
  have HB := n0_
  clear n0_
  (try clear hb)
  (try clear hb2)
  (try clear hk)
  (try clear hi)
  refine hK.out _ _ ⟨(tcw tB (AtC.cell0 BK56.out _ rfl)), (tcw tB (AtC.cell BK56.out 1 _ (by decide) rfl)), (tcw tB (AtC.cell0 BK64.out _ rfl))⟩ (fun hHeld => ?_)
  clear hK K
  refine tN 20 ?_
  refine tP0 6 21 (bm 11 1023) ?_
  refine tP0 10 25 (bm 11 2047) ?_
  refine done_ (done_of HT_.out (by kernel_rfl)) ?_
  try go_wp2
  go_roundg k1
  case measure => have := HK1.out; omega
  case rel => exact ⟨(wrap64 (x10_1 + 1)), tS, H', ⟨by have := HK1.out; omega⟩, ⟨tB⟩⟩
def slices_IndexFunc_int64_int64_AT_impl_DualBasis_1.l0 : Nat → List Int → Int → Int → List Int → Int → Int → Int → Option (Int)
  | 0, _, _, _, _, _, _, _ => none
  | k + 1, x0, x7, x8, x49000, x50000, x50001, x51000 => if x8 < x7 then (if 0 ≤ x8 then (if x8 < (x0.length : Int) then ((impl_DualBasis_1.f k (rd x0 x8) x49000 x50000 x50001 x51000).bind fun t358 => (if t358 = true then (some x8) else (slices_IndexFunc_int64_int64_AT_impl_DualBasis_1.l0 k x0 x7 (wrap64 (x8 + 1)) x49000 x50000 x50001 x51000))) else (none)) else (none)) else (some (-1))
def slices_IndexFunc_int64_int64_AT_impl_DualBasis_1.f (k : Nat) (l0 : List Int) (l1_0 : List Int) (a1_1 : Int) (a1_2 : Int) (a1_3 : Int) : Option (Int) := slices_IndexFunc_int64_int64_AT_impl_DualBasis_1.l0 k l0 (l0.length : Int) 0 l1_0 a1_1 a1_2 a1_3
theorem slices_IndexFunc_int64_int64_AT_impl_DualBasis_1.mono_l : ∀ k, (∀ y0 y1 y2 y3 y4 y5 y6, LeO (slices_IndexFunc_int64_int64_AT_impl_DualBasis_1.l0 k y0 y1 y2 y3 y4 y5 y6) (slices_IndexFunc_int64_int64_AT_impl_DualBasis_1.l0 (k + 1) y0 y1 y2 y3 y4 y5 y6))
 | 0 => fun _ _ _ _ _ _ _ r h => by simp [slices_IndexFunc_int64_int64_AT_impl_DualBasis_1.l0] at h
 | k + 1 => by
  have ih0 := slices_IndexFunc_int64_int64_AT_impl_DualBasis_1.mono_l k
  ·intro y0 y1 y2 y3 y4 y5 y6
   unfold slices_IndexFunc_int64_int64_AT_impl_DualBasis_1.l0
   repeat' first
   | (with_reducible first | apply ih0 | apply impl_DualBasis_1.mono | exact LeO.refl _ | exact LeO.none _ | refine LeO.ite ?_ ?_ | refine LeO.bind ?_ (fun _ => ?_))
   | exact LeO.none _
   | refine LeO.ite ?_ ?_
   | refine LeO.bind ?_ (fun _ => ?_)
theorem slices_IndexFunc_int64_int64_AT_impl_DualBasis_1.mono : ∀ a0 a1 a2 a3 a4 k, LeO (slices_IndexFunc_int64_int64_AT_impl_DualBasis_1.f k a0 a1 a2 a3 a4) (slices_IndexFunc_int64_int64_AT_impl_DualBasis_1.f (k + 1) a0 a1 a2 a3 a4) := by
 intro a0 a1 a2 a3 a4 k
 have ih0 := slices_IndexFunc_int64_int64_AT_impl_DualBasis_1.mono_l k
 unfold slices_IndexFunc_int64_int64_AT_impl_DualBasis_1.f
 repeat' first
  | (with_reducible first | apply ih0 | apply impl_DualBasis_1.mono | exact LeO.refl _ | exact LeO.none _ | refine LeO.ite ?_ ?_ | refine LeO.bind ?_ (fun _ => ?_))
  | exact LeO.none _
  | refine LeO.ite ?_ ?_
  | refine LeO.bind ?_ (fun _ => ?_)
theorem slices_IndexFunc_int64_int64_AT_impl_DualBasis_1.calls (k : Nat) (A0 : Option Addr) (c0 : Nat) (l0 : List Int) (g1_0 : Addr) (g1_1 : Addr) (g1_2 : Addr) (A1_0 : Option Addr) (c1_0 : Nat) (l1_0 : List Int) (a1_1 : Int) (a1_2 : Int) (a1_3 : Int) (r : Int) (w : World) (hr0 : Kd.C (Kd.int .i64) w A0 l0.length l0) (hc0 : l0.length ≤ c0) (hr1_0 : Kd.C (Kd.int .i64) w A1_0 l1_0.length l1_0) (hc1_0 : l1_0.length ≤ c1_0) (hb1_0 : AtC w g1_0 [.slice A1_0 l1_0.length c1_0]) (hb1_1 : AtC w g1_1 [.int .i64 a1_1, .int .i64 a1_2]) (hb1_2 : AtC w g1_2 [.int .i64 a1_3]) (h : slices_IndexFunc_int64_int64_AT_impl_DualBasis_1.f k l0 l1_0 a1_1 a1_2 a1_3 = some r) :
 Calls Try.prog 49 #[.slice A0 l0.length c0, .func (.func 50) #[] #[.pointer (some g1_0), .pointer (some g1_1), .pointer (some g1_2)]] w fun e w' => e = .returned (.int .i64 r) ∧ Below w.heap.size w w' := by
 have eg50 : ∀ (args_ : Array Value) (w_ : World), (callFunc 50 args_).run Try.prog w_ = .ok (.enter 50 args_) w_ := enters_of Try.func50 (by kernel_rfl) rfl
 have HR0 := Aq.mk hr0
 have HC0 := Aq.mk hc0
 clear hr0 hc0
 have HR1_0 := Aq.mk hr1_0
 have HC1_0 := Aq.mk hc1_0
 clear hr1_0 hc1_0
 have BK48 := Aq.mk hb1_0
 clear hb1_0
 have BK49 := Aq.mk hb1_1
 clear hb1_1
 have BK50 := Aq.mk hb1_2
 clear hb1_2
 have HB := Aq.mk (Below.refl w.heap.size w)
 have H : (slices_IndexFunc_int64_int64_AT_impl_DualBasis_1.l0 k l0 (l0.length : Int) 0 l1_0 a1_1 a1_2 a1_3) = some r := h
 clear h
 replace H' := Aq.mk H
 clear H
 go_enter Try.func49, Try.ntmps49
 go_wp2
 go_loopg [8] k (fun kq v8 w' => ∃ (x8_1 : Int), v8 = .int .i64 x8_1 ∧ Aq (slices_IndexFunc_int64_int64_AT_impl_DualBasis_1.l0 kq l0 (l0.length : Int) x8_1 l1_0 a1_1 a1_2 a1_3 = some r) ∧ Aq (kq ≤ k) ∧ Aq (Below w.heap.size w w'))
 case atStart => exact ⟨(0), tS, H', ⟨Nat.le_refl _⟩, ⟨tB⟩⟩
 clear H'
 obtain ⟨x8_1, rfl, HA, HK1, HB⟩ := hrel
 cases gk with
 | zero => exact absurd HA.out (by simp [slices_IndexFunc_int64_int64_AT_impl_DualBasis_1.l0])
 | succ k1 =>
  have H := HA.out
  clear HA
  simp only [slices_IndexFunc_int64_int64_AT_impl_DualBasis_1.l0] at H
  by_cases c3 : x8_1 < (l0.length : Int)
  rotate_left
  ·rw [if_neg c3] at H
   have c3b0 := decide_eq_false c3
   clear c3
   obtain rfl := Option.some.inj H
   go_wp2
   go_ret
   exact ⟨tE, tB⟩
  rw [if_pos c3] at H
  have c3b0 := decide_eq_true c3
  clear c3
  by_cases c4 : 0 ≤ x8_1
  rotate_left
  ·rw [if_neg c4] at H
   exact absurd H (by simp)
  rw [if_pos c4] at H
  have c4b0 := decide_eq_true c4
  clear c4
  by_cases c5 : x8_1 < (l0.length : Int)
  rotate_left
  ·rw [if_neg c5] at H
   exact absurd H (by simp)
  rw [if_pos c5] at H
  have c5b0 := decide_eq_true c5
  clear c5
  obtain ⟨t358, A6, H⟩ := qBd H
  by_cases c7 : t358 = true
  ·subst c7
   rw [if_pos rfl] at H
   obtain rfl := Option.some.inj H
   have p357 : 0 ≤ (x8_1 : Int) := of_decide_eq_true tA
   have q357 : x8_1 < (l0.length : Int) := of_decide_eq_true tA
   obtain ⟨ad357, e357, hx357_0⟩ := Kd.at_int HR0.out x8_1 p357 q357
   cases e357
   replace hx357_0 := (HB.out.cell (World.block_lt_of_cell? w _ hx357_0)).trans hx357_0
   replace p357 := eq_true p357
   replace q357 := eq_true q357
   go_wp2_with (first | (go_at_fn 50; (with_reducible refine (impl_DualBasis_1.calls k1 (rd l0 x8_1) (g1_0 : Addr) A1_0 c1_0 l1_0 (g1_1 : Addr) a1_1 a1_2 (g1_2 : Addr) a1_3 true _ ?s1 ?s2 ?s3 ?s4 ?s5 A6.out).mono ?_); (case s1 => exact tC ((Kd.C_below HR1_0.out HB.out))); (case s2 => exact HC1_0.out); (case s3 => repeat (first | exact (AtC.below BK48.out HB.out) | (with_reducible refine AtC.alloc ?_ _) | (with_reducible refine AtC.drewN ?_ _) | (with_reducible refine AtC.drew ?_))); (case s4 => repeat (first | exact (AtC.below BK49.out HB.out) | (with_reducible refine AtC.alloc ?_ _) | (with_reducible refine AtC.drewN ?_ _) | (with_reducible refine AtC.drew ?_))); (case s5 => repeat (first | exact (AtC.below BK50.out HB.out) | (with_reducible refine AtC.alloc ?_ _) | (with_reducible refine AtC.drewN ?_ _) | (with_reducible refine AtC.drew ?_))); rintro e w8 ⟨rfl, hb⟩; refine qM1 (bQT tB hb) ?_; clear HB; intro HB; (try clear hb); (try clear hb2); (try clear hk); (try clear hi)))
   go_ret
   exact ⟨tE, tB⟩
  replace c7 := Bool.eq_false_iff.mpr c7
  subst c7
  rw [if_neg (show ¬ (false = true) by decide)] at H
  replace H' := Aq.mk H
  clear H
  have p357 : 0 ≤ (x8_1 : Int) := of_decide_eq_true tA
  have q357 : x8_1 < (l0.length : Int) := of_decide_eq_true tA
  obtain ⟨ad357, e357, hx357_0⟩ := Kd.at_int HR0.out x8_1 p357 q357
  cases e357
  replace hx357_0 := (HB.out.cell (World.block_lt_of_cell? w _ hx357_0)).trans hx357_0
  replace p357 := eq_true p357
  replace q357 := eq_true q357
  go_wp2_with (first | (go_at_fn 50; (with_reducible refine (impl_DualBasis_1.calls k1 (rd l0 x8_1) (g1_0 : Addr) A1_0 c1_0 l1_0 (g1_1 : Addr) a1_1 a1_2 (g1_2 : Addr) a1_3 false _ ?s1 ?s2 ?s3 ?s4 ?s5 A6.out).mono ?_); (case s1 => exact tC ((Kd.C_below HR1_0.out HB.out))); (case s2 => exact HC1_0.out); (case s3 => repeat (first | exact (AtC.below BK48.out HB.out) | (with_reducible refine AtC.alloc ?_ _) | (with_reducible refine AtC.drewN ?_ _) | (with_reducible refine AtC.drew ?_))); (case s4 => repeat (first | exact (AtC.below BK49.out HB.out) | (with_reducible refine AtC.alloc ?_ _) | (with_reducible refine AtC.drewN ?_ _) | (with_reducible refine AtC.drew ?_))); (case s5 => repeat (first | exact (AtC.below BK50.out HB.out) | (with_reducible refine AtC.alloc ?_ _) | (with_reducible refine AtC.drewN ?_ _) | (with_reducible refine AtC.drew ?_))); rintro e w9 ⟨rfl, hb⟩; refine qM1 (bQT tB hb) ?_; clear HB; intro HB; (try clear hb); (try clear hb2); (try clear hk); (try clear hi)))
  go_roundg k1
  case measure => have := HK1.out; omega
  case rel => exact ⟨(wrap64 (x8_1 + 1)), tS, H', ⟨by have := HK1.out; omega⟩, ⟨tB⟩⟩
end Go.Proofs.Ytbgbblgdbcjibaa.P
