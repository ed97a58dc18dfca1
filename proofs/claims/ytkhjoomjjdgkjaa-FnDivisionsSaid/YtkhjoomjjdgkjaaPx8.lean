/- Functions of the program and what they tell, as the printing program wrote it. -/
import Derived.Test.YtkhjoomjjdgkjaaPx0
import Derived.Test.YtkhjoomjjdgkjaaPx3
import Derived.Test.YtkhjoomjjdgkjaaPx4
import Derived.Test.YtkhjoomjjdgkjaaPx5
namespace Go.Proofs.Ytkhjoomjjdgkjaa.P
open Go.Shelf Go.RowKit Go.Proofs.YtkhjoomjjdgkjaaW.PrintWords Go.Proofs.YtkhjoomjjdgkjaaW.PrintLast Go.Proofs.YtkhjoomjjdgkjaaW.PrintMore
attribute [local go_sem] max2_int min2_int max_two min_two max_three min_three max_four min_four
set_option linter.unusedVariables false
set_option linter.unusedSimpArgs false
set_option maxHeartbeats 8000000
set_option maxRecDepth 100000
def impl_Field_power.l0 : Nat → Int → Int → Int → Int → Int → Option (Int)
  | 0, _, _, _, _, _ => none
  | k + 1, x1, x2, x7, x289000, x289001 => if x2 > 0 then (if (Go.bits .and .i64 x2 1) = 1 then ((impl_Field_mul.f k x289000 x289001 x7 x1).bind fun t289 => ((impl_Field_mul.f k x289000 x289001 x1 x1).bind fun t290 => (impl_Field_power.l0 k t290 (x2 / 2) t289 x289000 x289001))) else ((impl_Field_mul.f k x289000 x289001 x1 x1).bind fun t291 => (impl_Field_power.l0 k t291 (x2 / 2) x7 x289000 x289001))) else (some x7)
def impl_Field_power.f (k : Nat) (a0_0 : Int) (a0_1 : Int) (a1 : Int) (a2 : Int) : Option (Int) := impl_Field_power.l0 k a1 a2 1 a0_0 a0_1
theorem impl_Field_power.mono_l : ∀ k, (∀ y0 y1 y2 y3 y4, LeO (impl_Field_power.l0 k y0 y1 y2 y3 y4) (impl_Field_power.l0 (k + 1) y0 y1 y2 y3 y4))
 | 0 => fun _ _ _ _ _ r h => by simp [impl_Field_power.l0] at h
 | k + 1 => by
  have ih0 := impl_Field_power.mono_l k
  ·intro y0 y1 y2 y3 y4
   unfold impl_Field_power.l0
   repeat' first
   | (with_reducible first | apply ih0 | apply impl_Field_mul.mono | exact LeO.refl _ | exact LeO.none _ | refine LeO.ite ?_ ?_ | refine LeO.bind ?_ (fun _ => ?_))
   | exact LeO.none _
   | refine LeO.ite ?_ ?_
   | refine LeO.bind ?_ (fun _ => ?_)
theorem impl_Field_power.mono : ∀ a0 a1 a2 a3 k, LeO (impl_Field_power.f k a0 a1 a2 a3) (impl_Field_power.f (k + 1) a0 a1 a2 a3) := by
 intro a0 a1 a2 a3 k
 have ih0 := impl_Field_power.mono_l k
 unfold impl_Field_power.f
 repeat' first
  | (with_reducible first | apply ih0 | apply impl_Field_mul.mono | exact LeO.refl _ | exact LeO.none _ | refine LeO.ite ?_ ?_ | refine LeO.bind ?_ (fun _ => ?_))
  | exact LeO.none _
  | refine LeO.ite ?_ ?_
  | refine LeO.bind ?_ (fun _ => ?_)
theorem impl_Field_power.calls (k : Nat) (a0_0 : Int) (a0_1 : Int) (a1 : Int) (a2 : Int) (r : Int) (w : World) (h : impl_Field_power.f k a0_0 a0_1 a1 a2 = some r) :
 Calls Try.prog 102 #[.agg #[.int .i64 a0_0, .int .i64 a0_1], .int .i64 a1, .int .i64 a2] w fun e w' => e = .returned (.int .i64 r) ∧ Below w.heap.size w w' := by
 have hu27 := Try.underlying27
 have HB := Aq.mk (Below.refl w.heap.size w)
 have H : (impl_Field_power.l0 k a1 a2 1 a0_0 a0_1) = some r := h
 clear h
 replace H' := Aq.mk H
 clear H
 go_enter Try.func102, Try.ntmps102
 go_wp2_with (first | ((with_reducible refine gQd (N := 3) rfl ?_); refine xQe ?hg (N := 3) ?hd (cs := #[.int .i64 a0_0, .int .i64 a0_1]) (t := 27) ?hr ?_; (case hd => rfl); (case hg => rfl); (case hr => exact tH); intro gb288 hg w4 hbox hb; refine qM4 (bQT tB hb) hbox (tZ w hg) (tZ w hg) ?_; clear HB; intro HB BK288 GW288 GE288; clear hb hbox hg))
 go_loopg [1, 2, 7] k (fun kq v1 v2 v7 w' => ∃ (x1_1 : Int) (x2_1 : Int) (x7_1 : Int), v1 = .int .i64 x1_1 ∧ v2 = .int .i64 x2_1 ∧ v7 = .int .i64 x7_1 ∧ Aq (impl_Field_power.l0 kq x1_1 x2_1 x7_1 a0_0 a0_1 = some r) ∧ Aq (kq ≤ k) ∧ Aq (w'.heap[gb288]? = some (.cells #[.int .i64 a0_0, .int .i64 a0_1] 27 (0, 0))) ∧ Aq (Below w.heap.size w w'))
 case atStart => exact ⟨(a1), (a2), (1), tS, tS, tS, H', ⟨Nat.le_refl _⟩, ⟨tG BK288.out⟩, ⟨tB⟩⟩
 clear H'
 obtain ⟨x1_1, x2_1, x7_1, rfl, rfl, rfl, HA, HK1, BK288, HB⟩ := hrel
 cases gk with
 | zero => exact absurd HA.out (by simp [impl_Field_power.l0])
 | succ k1 =>
  have H := HA.out
  clear HA
  simp only [impl_Field_power.l0] at H
  by_cases c5 : x2_1 > 0
  rotate_left
  ·rw [if_neg c5] at H
   have c5b0 := decide_eq_false c5
   clear c5
   obtain rfl := Option.some.inj H
   go_wp2
   go_ret
   exact ⟨tE, tB⟩
  rw [if_pos c5] at H
  have c5b0 := decide_eq_true c5
  clear c5
  by_cases c6 : (Go.bits .and .i64 x2_1 1) = 1
  rotate_left
  ·rw [if_neg c6] at H
   have c6b0 := beq_eq_false_iff_ne.mpr c6
   have c6b1 := bne_iff_ne.mpr c6
   obtain ⟨t291, A13, H⟩ := qBd H
   replace H' := Aq.mk H
   clear H
   have hcz14_0 : wr.cell? ⟨gb288, 0, none⟩ = some (.int .i64 a0_0) := (kQC BK288.out 0).trans rfl
   have hcz14_1 : wr.cell? ⟨gb288, 1, none⟩ = some (.int .i64 a0_1) := (kQC BK288.out 1).trans rfl
   have hfz14_0 := kQF BK288.out 0
   have hfz14_1 := kQF BK288.out 1
   go_wp2_with (first | ((with_reducible refine gQc (f := 80) rfl ?_); refine goesL_ (some 22) rfl rfl Try.func80 (by kernel_rfl) rfl #[.agg #[.int .i64 a0_0, .int .i64 a0_1], .int .i64 x1_1, .int .i64 x1_1] rfl tL ?_; (with_reducible refine (impl_Field_mul.calls k1 a0_0 a0_1 x1_1 x1_1 t291 _ A13.out).mono ?_); rintro e w15 ⟨rfl, hb⟩; refine ⟨_, rfl, ?_⟩; refine qM2 (tQ BK288.out hb) (bQT tB hb) ?_; clear BK288 HB; intro BK288 HB; (try clear hb); (try clear hb2); (try clear hk); (try clear hi)))
   go_roundg k1
   case measure => have := HK1.out; omega
   case rel => exact ⟨(t291), (x2_1 / 2), (x7_1), tS, tS, tS, H', ⟨by have := HK1.out; omega⟩, ⟨tG BK288.out⟩, ⟨tB⟩⟩
  rw [if_pos c6] at H
  have c6b0 := beq_iff_eq.mpr c6
  have c6b1 := bne_eq_false_iff_eq.mpr c6
  clear c6
  obtain ⟨t289, A7, H⟩ := qBd H
  obtain ⟨t290, A8, H⟩ := qBd H
  replace H' := Aq.mk H
  clear H
  have hcz9_0 : wr.cell? ⟨gb288, 0, none⟩ = some (.int .i64 a0_0) := (kQC BK288.out 0).trans rfl
  have hcz9_1 : wr.cell? ⟨gb288, 1, none⟩ = some (.int .i64 a0_1) := (kQC BK288.out 1).trans rfl
  have hfz9_0 := kQF BK288.out 0
  have hfz9_1 := kQF BK288.out 1
  go_wp2_with (first | ((with_reducible refine gQc (f := 80) rfl ?_); refine goesL_ (some 18) rfl rfl Try.func80 (by kernel_rfl) rfl #[.agg #[.int .i64 a0_0, .int .i64 a0_1], .int .i64 x7_1, .int .i64 x1_1] rfl tL ?_; (with_reducible refine (impl_Field_mul.calls k1 a0_0 a0_1 x7_1 x1_1 t289 _ A7.out).mono ?_); rintro e w10 ⟨rfl, hb⟩; refine ⟨_, rfl, ?_⟩; refine qM2 (tQ BK288.out hb) (bQT tB hb) ?_; clear BK288 HB; intro BK288 HB; (try clear hb); (try clear hb2); (try clear hk); (try clear hi); have hcz11_0 : w10.cell? ⟨gb288, 0, none⟩ = some (.int .i64 a0_0) := (kQC BK288.out 0).trans rfl; have hcz11_1 : w10.cell? ⟨gb288, 1, none⟩ = some (.int .i64 a0_1) := (kQC BK288.out 1).trans rfl; have hfz11_0 := kQF BK288.out 0; have hfz11_1 := kQF BK288.out 1) | ((with_reducible refine gQc (f := 80) rfl ?_); refine goesL_ (some 22) rfl rfl Try.func80 (by kernel_rfl) rfl #[.agg #[.int .i64 a0_0, .int .i64 a0_1], .int .i64 x1_1, .int .i64 x1_1] rfl tL ?_; (with_reducible refine (impl_Field_mul.calls k1 a0_0 a0_1 x1_1 x1_1 t290 _ A8.out).mono ?_); rintro e w12 ⟨rfl, hb⟩; refine ⟨_, rfl, ?_⟩; refine qM2 (tQ BK288.out hb) (bQT tB hb) ?_; clear BK288 HB; intro BK288 HB; (try clear hb); (try clear hb2); (try clear hk); (try clear hi)))
  go_roundg k1
  case measure => have := HK1.out; omega
  case rel => exact ⟨(t290), (x2_1 / 2), (t289), tS, tS, tS, H', ⟨by have := HK1.out; omega⟩, ⟨tG BK288.out⟩, ⟨tB⟩⟩
def impl_Field_inverse.f (k : Nat) (a0_0 : Int) (a0_1 : Int) (a1 : Int) : Option (Int) := (impl_Field_count.f a0_0 a0_1).bind fun t293 => ((impl_Field_power.f k a0_0 a0_1 a1 (wrap64 (t293 - 2))).bind fun t294 => (some t294))
theorem impl_Field_inverse.mono : ∀ a0 a1 a2 k, LeO (impl_Field_inverse.f k a0 a1 a2) (impl_Field_inverse.f (k + 1) a0 a1 a2) := by
 intro a0 a1 a2 k
 unfold impl_Field_inverse.f
 repeat' first
  | (with_reducible first | apply impl_Field_power.mono | exact LeO.refl _ | exact LeO.none _ | refine LeO.ite ?_ ?_ | refine LeO.bind ?_ (fun _ => ?_))
  | exact LeO.none _
  | refine LeO.ite ?_ ?_
  | refine LeO.bind ?_ (fun _ => ?_)
theorem impl_Field_inverse.calls (k : Nat) (a0_0 : Int) (a0_1 : Int) (a1 : Int) (r : Int) (w : World) (h : impl_Field_inverse.f k a0_0 a0_1 a1 = some r) :
 Calls Try.prog 84 #[.agg #[.int .i64 a0_0, .int .i64 a0_1], .int .i64 a1] w fun e w' => e = .returned (.int .i64 r) ∧ Below w.heap.size w w' := by
 have hu27 := Try.underlying27
 have HB := Aq.mk (Below.refl w.heap.size w)
 have H : ((impl_Field_count.f a0_0 a0_1).bind fun t293 => ((impl_Field_power.f k a0_0 a0_1 a1 (wrap64 (t293 - 2))).bind fun t294 => (some t294))) = some r := h
 clear h
 obtain ⟨t293, A3, H⟩ := qBd H
 obtain ⟨t294, A4, H⟩ := qBd H
 obtain rfl := Option.some.inj H
 go_enter Try.func84, Try.ntmps84
 try go_wp2_with (first | ((with_reducible refine gQd (N := 2) rfl ?_); refine xQe ?hg (N := 2) ?hd (cs := #[.int .i64 a0_0, .int .i64 a0_1]) (t := 27) ?hr ?_; (case hd => rfl); (case hg => rfl); (case hr => exact tH); intro gb292 hg w5 hbox hb; refine qM4 (bQT tB hb) hbox (tZ w hg) (tZ w hg) ?_; clear HB; intro HB BK292 GW292 GE292; clear hb hbox hg))
 have n0_ := Aq.mk (kQD BK292.out)
 have n1_ := Aq.mk (bQ1 HB.out)
 clear BK292
 clear HB
 have BK292 := n0_
 have HB := n1_
 clear n0_ n1_
 refine start_ (n := 7) (S := fun w' => w'.cell? ⟨gb292, 0, none⟩ = some (.int .i64 a0_0) ∧ w'.cell? ⟨gb292, 1, none⟩ = some (.int .i64 a0_1)) (ds := []) #[false, false, false, false, false, false, false] (by kernel_rfl) rfl rfl ⟨(kQC BK292.out 0).trans rfl, (kQC BK292.out 1).trans rfl⟩ (fun hHeld => ?_)
 generalize w5.drew = w6 at BK292 HB hHeld ⊢
 refine tP0k 1 6 (bm 7 2) ?_
 refine tT2k 0 5 (bm 7 3) ?_
 refine tT2k 2 7 (bm 7 7) ?_
 refine one_ (i := 3) (N := some 8) (bm 7 15) rfl rfl (by kernel_rfl) (by decide) (fun K hK => ?_)
 refine goes_ Try.func89 (by kernel_rfl) rfl #[.agg #[.int .i64 a0_0, .int .i64 a0_1]] (by rfl) rfl rfl tL ?_
 with_reducible refine (impl_Field_count.calls a0_0 a0_1 t293 _ A3.out).mono ?_
 rintro e w7 ⟨rfl, hb⟩
 refine ⟨_, rfl, ?_⟩
 have n0_ := Aq.mk (tQ BK292.out hb)
 have n1_ := Aq.mk (bQT tB hb)
 clear BK292
 clear HB
 have BK292 := n0_
 have HB := n1_
 clear n0_ n1_
 (try clear hb)
 (try clear hb2)
 (try clear hk)
 (try clear hi)
 refine hK.out _ _ ⟨(kQC BK292.out 0).trans rfl, (kQC BK292.out 1).trans rfl⟩ (fun hHeld => ?_)
 clear hK K
 refine tN 8 ?_
 refine tP0k 4 9 (bm 7 31) ?_
 refine one_ (i := 5) (N := some 10) (bm 7 63) rfl rfl (by kernel_rfl) (by decide) (fun K hK => ?_)
 refine goes_ Try.func102 (by kernel_rfl) rfl #[.agg #[.int .i64 a0_0, .int .i64 a0_1], .int .i64 a1, .int .i64 (wrap64 (t293 - 2))] (by rfl) rfl rfl tL ?_
 with_reducible refine (impl_Field_power.calls k a0_0 a0_1 a1 (wrap64 (t293 - 2)) t294 _ A4.out).mono ?_
 rintro e w8 ⟨rfl, hb⟩
 refine ⟨_, rfl, ?_⟩
 have n0_ := Aq.mk (tQ BK292.out hb)
 have n1_ := Aq.mk (bQT tB hb)
 clear BK292
 clear HB
 have BK292 := n0_
 have HB := n1_
 clear n0_ n1_
 (try clear hb)
 (try clear hb2)
 (try clear hk)
 (try clear hi)
 refine hK.out _ _ ⟨(kQC BK292.out 0).trans rfl, (kQC BK292.out 1).trans rfl⟩ (fun hHeld => ?_)
 clear hK K
 refine tN 10 ?_
 refine tP0k 6 4 (bm 7 127) ?_
 refine done_ (by kernel_rfl) ?_
 try go_wp2
 go_ret
 exact ⟨tE, tB⟩
def impl_Field_root.f (k : Nat) (a0_0 : Int) (a0_1 : Int) (a1 : Int) (a2 : Int) : Option (Int) := if a0_0 = 0 then (none) else ((impl_Field_square.f k a0_0 a0_1 a1 (Int.tmod (wrap64 (a0_0 - (Int.tmod a2 a0_0))) a0_0)).bind fun t296 => (some t296))
theorem impl_Field_root.mono : ∀ a0 a1 a2 a3 k, LeO (impl_Field_root.f k a0 a1 a2 a3) (impl_Field_root.f (k + 1) a0 a1 a2 a3) := by
 intro a0 a1 a2 a3 k
 unfold impl_Field_root.f
 repeat' first
  | (with_reducible first | apply impl_Field_square.mono | exact LeO.refl _ | exact LeO.none _ | refine LeO.ite ?_ ?_ | refine LeO.bind ?_ (fun _ => ?_))
  | exact LeO.none _
  | refine LeO.ite ?_ ?_
  | refine LeO.bind ?_ (fun _ => ?_)
def impl_Field_root.T1 : Bool × List (List Nat × List Nat) := (true, [([], []), ([], []), ([], []), ([2], [2]), ([], []), ([], []), ([5], [5]), ([4, 6], [4, 6]), ([3, 7], [3, 7]), ([], []), ([9], [9]), ([8, 10], [8, 10]), ([0, 1, 11], [0, 1, 11]), ([12, 12, 0, 1, 2, 3, 4, 5, 6, 7, 8, 9, 10, 11, 12], [12])])
def impl_Field_root.B1 : List Nat := [0, 0, 0, 4, 0, 0, 32, 112, 252, 0, 512, 2044, 4095, 8191]
theorem impl_Field_root.tab1 : rtab .any (opsOf Try.f95 1) = impl_Field_root.T1 := by kernel_rfl
theorem impl_Field_root.bits1 : waitsOk impl_Field_root.T1.2 impl_Field_root.B1 = true := by kernel_rfl
theorem impl_Field_root.calls (k : Nat) (a0_0 : Int) (a0_1 : Int) (a1 : Int) (a2 : Int) (r : Int) (w : World) (h : impl_Field_root.f k a0_0 a0_1 a1 a2 = some r) :
 Calls Try.prog 95 #[.agg #[.int .i64 a0_0, .int .i64 a0_1], .int .i64 a1, .int .i64 a2] w fun e w' => e = .returned (.int .i64 r) ∧ Below w.heap.size w w' := by
 have hu27 := Try.underlying27
 have HB := Aq.mk (Below.refl w.heap.size w)
 have H : (if a0_0 = 0 then (none) else ((impl_Field_square.f k a0_0 a0_1 a1 (Int.tmod (wrap64 (a0_0 - (Int.tmod a2 a0_0))) a0_0)).bind fun t296 => (some t296))) = some r := h
 clear h
 by_cases c4 : a0_0 = 0
 ·rw [if_pos c4] at H
  exact absurd H (by simp)
 rw [if_neg c4] at H
 have c4b0 := beq_eq_false_iff_ne.mpr c4
 have c4b1 := bne_iff_ne.mpr c4
 obtain ⟨t296, A5, H⟩ := qBd H
 obtain rfl := Option.some.inj H
 go_enter Try.func95, Try.ntmps95
 try go_wp2_with (first | ((with_reducible refine gQd (N := 3) rfl ?_); refine xQe ?hg (N := 3) ?hd (cs := #[.int .i64 a0_0, .int .i64 a0_1]) (t := 27) ?hr ?_; (case hd => rfl); (case hg => rfl); (case hr => exact tH); intro gb295 hg w6 hbox hb; refine qM4 (bQT tB hb) hbox (tZ w hg) (tZ w hg) ?_; clear HB; intro HB BK295 GW295 GE295; clear hb hbox hg))
 have n0_ := Aq.mk (kQD BK295.out)
 have n1_ := Aq.mk (bQ1 HB.out)
 clear BK295
 clear HB
 have BK295 := n0_
 have HB := n1_
 clear n0_ n1_
 refine start_ (n := 14) (S := fun w' => w'.cell? ⟨gb295, 0, none⟩ = some (.int .i64 a0_0) ∧ w'.cell? ⟨gb295, 1, none⟩ = some (.int .i64 a0_1)) (ds := []) #[false, false, false, false, false, false, false, false, false, false, false, false, false, false] (by kernel_rfl) rfl rfl ⟨(kQC BK295.out 0).trans rfl, (kQC BK295.out 1).trans rfl⟩ (fun hHeld => ?_); refine with_tabW impl_Field_root.tab1 impl_Field_root.bits1 (fun HT_ HW_ => ?_)
 generalize w6.drew = w7 at BK295 HB hHeld ⊢
 refine tP0 1 8 (bm 14 2) ?_
 refine tP0 2 9 (bm 14 6) ?_
 refine tP0 4 11 (bm 14 22) ?_
 refine tP0 5 12 (bm 14 54) ?_
 refine tP0 9 16 (bm 14 566) ?_
 refine tT2 0 7 (bm 14 567) ?_
 refine tT2 3 10 (bm 14 575) ?_
 refine tT2 6 13 (bm 14 639) ?_
 refine tP0 7 14 (bm 14 767) ?_
 refine tP0 8 15 (bm 14 1023) ?_
 refine tT2 10 17 (bm 14 2047) ?_
 refine tP0 11 18 (bm 14 4095) ?_
 refine one_ (i := 12) (N := some 19) (bm 14 8191) rfl rfl (one_of HT_.out (by kernel_rfl)) (by decide) (fun K hK => ?_)
 refine goes_ Try.func81 (by kernel_rfl) rfl #[.agg #[.int .i64 a0_0, .int .i64 a0_1], .int .i64 a1, .int .i64 (Int.tmod (wrap64 (a0_0 - (Int.tmod a2 a0_0))) a0_0)] (by rfl) rfl rfl tL ?_
 with_reducible refine (impl_Field_square.calls k a0_0 a0_1 a1 (Int.tmod (wrap64 (a0_0 - (Int.tmod a2 a0_0))) a0_0) t296 _ A5.out).mono ?_
 rintro e w8 ⟨rfl, hb⟩
 refine ⟨_, rfl, ?_⟩
 have n0_ := Aq.mk (tQ BK295.out hb)
 have n1_ := Aq.mk (bQT tB hb)
 clear BK295
 clear HB
 have BK295 := n0_
 have HB := n1_
 clear n0_ n1_
 (try clear hb)
 (try clear hb2)
 (try clear hk)
 (try clear hi)
 refine hK.out _ _ ⟨(kQC BK295.out 0).trans rfl, (kQC BK295.out 1).trans rfl⟩ (fun hHeld => ?_)
 clear hK K
 refine tN 19 ?_
 refine tP0 13 6 (bm 14 16383) ?_
 refine done_ (done_of HT_.out (by kernel_rfl)) ?_
 try go_wp2
 go_ret
 exact ⟨tE, tB⟩
end Go.Proofs.Ytkhjoomjjdgkjaa.P
