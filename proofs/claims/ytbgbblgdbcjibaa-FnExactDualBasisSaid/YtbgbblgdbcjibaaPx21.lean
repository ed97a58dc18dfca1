/- Functions of the program and what they tell, as the printing program wrote it. -/
import Derived.Test.YtbgbblgdbcjibaaPx0
import Derived.Test.YtbgbblgdbcjibaaPx1
import Derived.Test.YtbgbblgdbcjibaaPx3
import Derived.Test.YtbgbblgdbcjibaaPx6
import Derived.Test.YtbgbblgdbcjibaaPx10
import Derived.Test.YtbgbblgdbcjibaaPx20
namespace Go.Proofs.Ytbgbblgdbcjibaa.P
open Go.Shelf Go.RowKit Go.Proofs.YtbgbblgdbcjibaaW.PrintWords Go.Proofs.YtbgbblgdbcjibaaW.PrintLast Go.Proofs.YtbgbblgdbcjibaaW.PrintMore
attribute [local go_sem] max2_int min2_int max_two min_two max_three min_three max_four min_four
set_option linter.unusedVariables false
set_option linter.unusedSimpArgs false
set_option maxHeartbeats 8000000
set_option maxRecDepth 100000
mutual
def spec_DualBasis.j0 : Nat → List Int → Int → Bool → Int → Int → Option (List Int × Int)
  | 0, _, _, _, _, _ => none
  | k + 1, x1, x6, x23, x334000, x334001 => if x23 = true then (spec_DualBasis.j1 k x1 4 x334000 x334001) else (spec_DualBasis.j1 k x1 x6 x334000 x334001)
def spec_DualBasis.j1 : Nat → List Int → Int → Int → Int → Option (List Int × Int)
  | 0, _, _, _, _ => none
  | k + 1, x1, x6, x334000, x334001 => if x6 = 0 then (spec_DualBasis.l0 k x1 (([] : List Int)) 0 x334000 x334001) else (some ((([] : List Int)), x6))
def spec_DualBasis.l0 : Nat → List Int → List Int → Int → Int → Int → Option (List Int × Int)
  | 0, _, _, _, _, _ => none
  | k + 1, x1, x7, x8, x334000, x334001 => if x8 < (x1.length : Int) then (spec_DualBasis.l1 k x1 x7 x8 0 x334000 x334001) else (some (x7, 0))
def spec_DualBasis.l1 : Nat → List Int → List Int → Int → Int → Int → Int → Option (List Int × Int)
  | 0, _, _, _, _, _, _ => none
  | k + 1, x1, x7, x8, x9, x334000, x334001 => (spec_l01Size.f x334000 x334001).bind fun t342 => (if x9 < t342 then (spec_DualBasis.l2 k x1 x7 x8 x9 true 0 x334000 x334001) else (spec_DualBasis.l0 k x1 x7 (wrap64 (x8 + 1)) x334000 x334001))
def spec_DualBasis.l2 : Nat → List Int → List Int → Int → Int → Bool → Int → Int → Int → Option (List Int × Int)
  | 0, _, _, _, _, _, _, _, _ => none
  | k + 1, x1, x7, x8, x9, x10, x11, x334000, x334001 => if x11 < (x1.length : Int) then (if x11 = x8 then (if x10 = true then (if 0 ≤ x11 then ((spec_l01Mul.f k x334000 x334001 (rd x1 x11) x9).bind fun t347 => ((spec_l01Trace.f k x334000 x334001 t347).bind fun t348 => (spec_DualBasis.l2 k x1 x7 x8 x9 (t348 == 1) (wrap64 (x11 + 1)) x334000 x334001))) else (none)) else (spec_DualBasis.l2 k x1 x7 x8 x9 false (wrap64 (x11 + 1)) x334000 x334001)) else (if x10 = true then (if 0 ≤ x11 then ((spec_l01Mul.f k x334000 x334001 (rd x1 x11) x9).bind fun t350 => ((spec_l01Trace.f k x334000 x334001 t350).bind fun t351 => (spec_DualBasis.l2 k x1 x7 x8 x9 (t351 == 0) (wrap64 (x11 + 1)) x334000 x334001))) else (none)) else (spec_DualBasis.l2 k x1 x7 x8 x9 false (wrap64 (x11 + 1)) x334000 x334001))) else (if x10 = true then (if x7.length < 17592186044416 then (spec_DualBasis.l1 k x1 (x7 ++ [x9]) x8 (wrap64 (x9 + 1)) x334000 x334001) else (none)) else (spec_DualBasis.l1 k x1 x7 x8 (wrap64 (x9 + 1)) x334000 x334001))
end
def spec_DualBasis.f (k : Nat) (a0_0 : Int) (a0_1 : Int) (l1 : List Int) : Option (List Int × Int) := (spec_l01List.f k a0_0 a0_1 l1).bind fun t334 => (if t334 = 0 then ((spec_l01Basis.f k a0_0 a0_1 l1).bind fun t335 => (spec_DualBasis.j0 k l1 t334 (!t335) a0_0 a0_1)) else (spec_DualBasis.j0 k l1 t334 false a0_0 a0_1))
theorem spec_DualBasis.mono_l : ∀ k, (∀ y0 y1 y2 y3 y4, LeO (spec_DualBasis.j0 k y0 y1 y2 y3 y4) (spec_DualBasis.j0 (k + 1) y0 y1 y2 y3 y4)) ∧ (∀ y0 y1 y2 y3, LeO (spec_DualBasis.j1 k y0 y1 y2 y3) (spec_DualBasis.j1 (k + 1) y0 y1 y2 y3)) ∧ (∀ y0 y1 y2 y3 y4, LeO (spec_DualBasis.l0 k y0 y1 y2 y3 y4) (spec_DualBasis.l0 (k + 1) y0 y1 y2 y3 y4)) ∧ (∀ y0 y1 y2 y3 y4 y5, LeO (spec_DualBasis.l1 k y0 y1 y2 y3 y4 y5) (spec_DualBasis.l1 (k + 1) y0 y1 y2 y3 y4 y5)) ∧ (∀ y0 y1 y2 y3 y4 y5 y6 y7, LeO (spec_DualBasis.l2 k y0 y1 y2 y3 y4 y5 y6 y7) (spec_DualBasis.l2 (k + 1) y0 y1 y2 y3 y4 y5 y6 y7))
 | 0 => ⟨fun _ _ _ _ _ r h => by simp [spec_DualBasis.j0] at h, fun _ _ _ _ r h => by simp [spec_DualBasis.j1] at h, fun _ _ _ _ _ r h => by simp [spec_DualBasis.l0] at h, fun _ _ _ _ _ _ r h => by simp [spec_DualBasis.l1] at h, fun _ _ _ _ _ _ _ _ r h => by simp [spec_DualBasis.l2] at h⟩
 | k + 1 => by
  obtain ⟨ih0, ih1, ih2, ih3, ih4⟩ := spec_DualBasis.mono_l k
  refine ⟨?_, ?_, ?_, ?_, ?_⟩ <;> intros <;> first | unfold spec_DualBasis.j0 | unfold spec_DualBasis.j1 | unfold spec_DualBasis.l0 | unfold spec_DualBasis.l1 | unfold spec_DualBasis.l2
  all_goals repeat' first
   | (with_reducible first | apply ih0 | apply ih1 | apply ih2 | apply ih3 | apply ih4 | apply spec_l01Basis.mono | apply spec_l01List.mono | apply spec_l01Mul.mono | apply spec_l01Trace.mono | exact LeO.refl _ | exact LeO.none _ | refine LeO.ite ?_ ?_ | refine LeO.bind ?_ (fun _ => ?_))
   | exact LeO.none _
   | refine LeO.ite ?_ ?_
   | refine LeO.bind ?_ (fun _ => ?_)
theorem spec_DualBasis.mono : ∀ a0 a1 a2 k, LeO (spec_DualBasis.f k a0 a1 a2) (spec_DualBasis.f (k + 1) a0 a1 a2) := by
 intro a0 a1 a2 k
 obtain ⟨ih0, ih1, ih2, ih3, ih4⟩ := spec_DualBasis.mono_l k
 unfold spec_DualBasis.f
 repeat' first
  | (with_reducible first | apply ih0 | apply ih1 | apply ih2 | apply ih3 | apply ih4 | apply spec_l01Basis.mono | apply spec_l01List.mono | apply spec_l01Mul.mono | apply spec_l01Trace.mono | exact LeO.refl _ | exact LeO.none _ | refine LeO.ite ?_ ?_ | refine LeO.bind ?_ (fun _ => ?_))
  | exact LeO.none _
  | refine LeO.ite ?_ ?_
  | refine LeO.bind ?_ (fun _ => ?_)
def spec_DualBasis.T20 : Bool × List (List Nat × List Nat) := (true, [([], []), ([0], [0]), ([1], [1]), ([1], [1]), ([1], [1]), ([1], [1]), ([4, 5, 1], [1, 4, 5]), ([6, 1], [1, 6]), ([1], [1]), ([3, 7, 8, 1, 1], [1, 3, 7, 8]), ([2, 9, 9, 1], [1, 2, 9]), ([1], [1]), ([10, 11, 1], [1, 10, 11]), ([1, 12], [1, 12]), ([13, 10, 0, 1, 2, 3, 4, 5, 6, 7, 8, 9, 10, 11, 12, 13], [0, 13])])
def spec_DualBasis.B20 : List Nat := [0, 1, 3, 3, 3, 3, 51, 115, 3, 507, 1023, 3, 4095, 8191, 16383]
theorem spec_DualBasis.tab20 : rtab .any (opsOf Try.f20 20) = spec_DualBasis.T20 := by kernel_rfl
theorem spec_DualBasis.bits20 : waitsOk spec_DualBasis.T20.2 spec_DualBasis.B20 = true := by kernel_rfl
theorem spec_DualBasis.calls (k : Nat) (a0_0 : Int) (a0_1 : Int) (A1 : Option Addr) (c1 : Nat) (l1 : List Int) (r1 : List Int) (r2 : Int) (w : World) (hr1 : Kd.C (Kd.int .i64) w A1 l1.length l1) (hc1 : l1.length ≤ c1) (h : spec_DualBasis.f k a0_0 a0_1 l1 = some (r1, r2)) :
 Calls Try.prog 20 #[.agg #[.int .i64 a0_0, .int .i64 a0_1], .slice A1 l1.length c1] w fun e w' => ∃ v0_ : Value, e = .returned (.tuple #[v0_, .int .i64 r2]) ∧ Kd.R (Kd.int .i64) 2 w' w.heap.size (fun _ => True) v0_ r1 ∧ Below w.heap.size w w' := by
 have hu26 := Try.underlying26
 have HR1 := Aq.mk hr1
 have HC1 := Aq.mk hc1
 clear hr1 hc1
 have HB := Aq.mk (Below.refl w.heap.size w)
 have H : ((spec_l01List.f k a0_0 a0_1 l1).bind fun t334 => (if t334 = 0 then ((spec_l01Basis.f k a0_0 a0_1 l1).bind fun t335 => (spec_DualBasis.j0 k l1 t334 (!t335) a0_0 a0_1)) else (spec_DualBasis.j0 k l1 t334 false a0_0 a0_1))) = some (r1, r2) := h
 clear h
 obtain ⟨t334, A3, H⟩ := qBd H
 have HC4 := Aq.mk H
 clear H
 go_enter Try.func20, Try.ntmps20
 go_upto_region 2 with (first | ((with_reducible refine gQd (N := 2) rfl ?_); refine xQe ?hg (N := 2) ?hd (cs := #[.int .i64 a0_0, .int .i64 a0_1]) (t := 26) ?hr ?_; (case hd => rfl); (case hg => rfl); (case hr => exact tH); intro gb333 hg w5 hbox hb; refine qM4 (bQT tB hb) hbox (tZ w hg) (tZ w hg) ?_; clear HB; intro HB BK333 GW333 GE333; clear hb hbox hg; have hcz6_0 : w5.cell? ⟨gb333, 0, none⟩ = some (.int .i64 a0_0) := (kQC BK333.out 0).trans rfl; have hcz6_1 : w5.cell? ⟨gb333, 1, none⟩ = some (.int .i64 a0_1) := (kQC BK333.out 1).trans rfl; have hfz6_0 := kQF BK333.out 0; have hfz6_1 := kQF BK333.out 1) | ((with_reducible refine gQc (f := 43) rfl ?_); refine goesL_ (some 15) rfl rfl Try.func43 (by kernel_rfl) rfl #[.agg #[.int .i64 a0_0, .int .i64 a0_1], .slice A1 l1.length c1] rfl tL ?_; (with_reducible refine (spec_l01List.calls k a0_0 a0_1 _ _ l1 t334 _ ?s1 ?s2 A3.out).mono ?_); (case s1 => exact tC ((Kd.C_below HR1.out HB.out))); (case s2 => exact HC1.out); rintro e w7 ⟨rfl, hb⟩; refine ⟨_, rfl, ?_⟩; refine qM2 (tQ BK333.out hb) (bQT tB hb) ?_; clear BK333 HB; intro BK333 HB; (try clear hb); (try clear hb2); (try clear hk); (try clear hi)))
 (try simp only [Act.put, qSa, qSb, qSc])
 go_cut [23] (fun v23 wc => ∃ (kq : Nat) (x23_3 : Bool), v23 = .bool x23_3 ∧ Aq (spec_DualBasis.j0 kq l1 t334 x23_3 a0_0 a0_1 = some (r1, r2)) ∧ Aq (kq ≤ k) ∧ Aq (wc.heap[gb333]? = some (.cells #[.int .i64 a0_0, .int .i64 a0_1] 26 (0, 0))) ∧ Aq (Below w.heap.size w wc))
 case first =>
  have H := HC4.out
  clear HC4
  by_cases c8 : t334 = 0
  rotate_left
  ·rw [if_neg c8] at H
   have c8b0 := beq_eq_false_iff_ne.mpr c8
   have c8b1 := bne_iff_ne.mpr c8
   (first | rw [c8b0] | (simp only [i64_w, i32_w]; rw [c8b0]) | skip)
   replace H' := Aq.mk H
   clear H
   go_wp2
   go_meet
   case rel => exact ⟨_, (false), tS, H', ⟨tO⟩, ⟨tG BK333.out⟩, ⟨tB⟩⟩
  rw [if_pos c8] at H
  have c8b0 := beq_iff_eq.mpr c8
  have c8b1 := bne_eq_false_iff_eq.mpr c8
  clear c8
  (first | rw [c8b0] | (simp only [i64_w, i32_w]; rw [c8b0]) | skip)
  obtain ⟨t335, A9, H⟩ := qBd H
  replace H' := Aq.mk H
  clear H
  have hcz10_0 : w7.cell? ⟨gb333, 0, none⟩ = some (.int .i64 a0_0) := (kQC BK333.out 0).trans rfl
  have hcz10_1 : w7.cell? ⟨gb333, 1, none⟩ = some (.int .i64 a0_1) := (kQC BK333.out 1).trans rfl
  have hfz10_0 := kQF BK333.out 0
  have hfz10_1 := kQF BK333.out 1
  go_wp2_with (first | (go_at_call 30; (with_reducible refine (spec_l01Basis.calls k a0_0 a0_1 _ _ l1 t335 _ ?s1 ?s2 A9.out).mono ?_); (case s1 => exact tC ((Kd.C_below HR1.out HB.out))); (case s2 => exact HC1.out); rintro e w11 ⟨rfl, hb⟩; refine qM2 (tQ BK333.out hb) (bQT tB hb) ?_; clear BK333 HB; intro BK333 HB; (try clear hb); (try clear hb2); (try clear hk); (try clear hi)))
  go_meet
  case rel => exact ⟨_, (!t335), tS, H', ⟨tO⟩, ⟨tG BK333.out⟩, ⟨tB⟩⟩
 clear HC4
 try clear c1
 try clear c8
 try clear c8b0
 try clear c8b1
 try clear hcz10_0
 try clear hcz10_1
 try clear hcz6_0
 try clear hcz6_1
 try clear hfz10_0
 try clear hfz10_1
 try clear hfz6_0
 try clear hfz6_1
 obtain ⟨kq, x23_3, rfl, HA, HJ3, BK333, HB⟩ := hcut
 cases kq with
 | zero => exact absurd HA.out (by simp [spec_DualBasis.j0])
 | succ kj3 =>
  have H := HA.out
  clear HA
  simp only [spec_DualBasis.j0] at H
  have HC12 := Aq.mk H
  clear H
  go_upto_if 23 with (fail)
  go_cut [6] (fun v6 wc => ∃ (kq : Nat) (x6_11 : Int), v6 = .int .i64 x6_11 ∧ Aq (spec_DualBasis.j1 kq l1 x6_11 a0_0 a0_1 = some (r1, r2)) ∧ Aq (kq ≤ kj3) ∧ Aq (wc.heap[gb333]? = some (.cells #[.int .i64 a0_0, .int .i64 a0_1] 26 (0, 0))) ∧ Aq (Below w.heap.size w wc))
  case first =>
   have H := HC12.out
   clear HC12
   by_cases c13 : x23_3 = true
   ·subst c13
    rw [if_pos rfl] at H
    replace H' := Aq.mk H
    clear H
    go_wp2
    go_meet
    case rel => exact ⟨_, (4), tS, H', ⟨by have := HJ3.out; first | omega | exact Nat.le_refl _⟩, ⟨tG BK333.out⟩, ⟨tB⟩⟩
   replace c13 := Bool.eq_false_iff.mpr c13
   subst c13
   rw [if_neg (show ¬ (false = true) by decide)] at H
   replace H' := Aq.mk H
   clear H
   go_wp2
   go_meet
   case rel => exact ⟨_, (t334), tS, H', ⟨by have := HJ3.out; first | omega | exact Nat.le_refl _⟩, ⟨tG BK333.out⟩, ⟨tB⟩⟩
  clear HC12
  try clear c1
  try clear c8
  try clear c8b0
  try clear c8b1
  try clear c13
  try clear hcz10_0
  try clear hcz10_1
  try clear hcz6_0
  try clear hcz6_1
  try clear hfz10_0
  try clear hfz10_1
  try clear hfz6_0
  try clear hfz6_1
  obtain ⟨kq, x6_11, rfl, HA, HJ11, BK333, HB⟩ := hcut
  cases kq with
  | zero => exact absurd HA.out (by simp [spec_DualBasis.j1])
  | succ kj11 =>
   have H := HA.out
   clear HA
   simp only [spec_DualBasis.j1] at H
   by_cases c14 : x6_11 = 0
   rotate_left
   ·rw [if_neg c14] at H
    have c14b0 := beq_eq_false_iff_ne.mpr c14
    have c14b1 := bne_iff_ne.mpr c14
    obtain ⟨y336, hy336⟩ : ∃ y_ : List Int, y_ = (([] : List Int)) := ⟨_, rfl⟩
    replace H : (some (y336, x6_11)) = some (r1, r2) := by first | (rw [hy336]; with_reducible exact H) | (have H2_ := (Option.bind_some _ _).symm.trans H; rw [hy336]; with_reducible exact H2_) | (have H2_ := (Option.bind_some _ _).symm.trans H; with_reducible exact H2_) | with_reducible exact H | (rw [hy336]; exact H) | exact H
    have Ny336 := Aq.mk hy336
    clear hy336
    simp only [Option.some.injEq, Prod.mk.injEq] at H
    obtain ⟨rfl, rfl⟩ := H
    go_wp2_with (first | ((with_reducible refine gQd (N := 26) rfl ?_); refine Kd.R_lit (Kd.int .i64) _ 2 ?hg (N := 26) ?hd (xs := ([] : List Int)) (inner := []) (ok := fun _ => True) (okp := fun _ => True) ?hr ?hp (fun _ hk => hk) trivial (Below.refl _ _) (Nat.le_refl _) (by simp) ?_; (case hd => rfl); (case hg => rfl); (case hr => exact tH); (case hp => exact (Reps.none _ _)); intro v337 w45 ho46 hb hg_ hnew_; clear hg_ hnew_; (first | rw [← Ny336.out] at ho46 | (simp only [Int.reduceToNat] at ho46; rw [← Ny336.out] at ho46)); refine qM3 (Kd.R_lower ho46 (bQZ tB)) (tQ BK333.out hb) (bQT tB hb) ?_; clear BK333 HB; intro HO338 BK333 HB; clear hb ho46))
    go_ret2
    exact ⟨_, tE, tR HO338.out, tB⟩
   rw [if_pos c14] at H
   have c14b0 := beq_iff_eq.mpr c14
   have c14b1 := bne_eq_false_iff_eq.mpr c14
   clear c14
   obtain ⟨y339, hy339⟩ : ∃ y_ : List Int, y_ = (([] : List Int)) := ⟨_, rfl⟩
   replace H : (spec_DualBasis.l0 kj11 l1 y339 0 a0_0 a0_1) = some (r1, r2) := by first | (rw [hy339]; with_reducible exact H) | (have H2_ := (Option.bind_some _ _).symm.trans H; rw [hy339]; with_reducible exact H2_) | (have H2_ := (Option.bind_some _ _).symm.trans H; with_reducible exact H2_) | with_reducible exact H | (rw [hy339]; exact H) | exact H
   have Ny339 := Aq.mk hy339
   clear hy339
   replace H' := Aq.mk H
   clear H
   go_wp2_with (first | ((with_reducible refine gQd (N := 28) rfl ?_); refine Kd.R_lit (Kd.int .i64) _ 2 ?hg (N := 28) ?hd (xs := ([] : List Int)) (inner := []) (ok := fun _ => True) (okp := fun _ => True) ?hr ?hp (fun _ hk => hk) trivial (Below.refl _ _) (Nat.le_refl _) (by simp) ?_; (case hd => rfl); (case hg => rfl); (case hr => exact tH); (case hp => exact (Reps.none _ _)); intro v340 w15 ho16 hb hg_ hnew_; clear hg_ hnew_; (first | rw [← Ny339.out] at ho16 | (simp only [Int.reduceToNat] at ho16; rw [← Ny339.out] at ho16)); refine qM3 (Kd.R_lower ho16 (bQZ tB)) (tQ BK333.out hb) (bQT tB hb) ?_; clear BK333 HB; intro HO341 BK333 HB; clear hb ho16))
   go_loopg [7, 8] kj11 (fun kq v7 v8 w' => ∃ (x7_3 : List Int) (x8_3 : Int), v8 = .int .i64 x8_3 ∧ Aq (spec_DualBasis.l0 kq l1 x7_3 x8_3 a0_0 a0_1 = some (r1, r2)) ∧ Aq (kq ≤ kj11) ∧ Aq (Kd.R (Kd.int .i64) 2 w' w.heap.size (fun _ => True) v7 x7_3) ∧ Aq (w'.heap[gb333]? = some (.cells #[.int .i64 a0_0, .int .i64 a0_1] 26 (0, 0))) ∧ Aq (Below w.heap.size w w'))
   case atStart => exact ⟨(y339), (0), tS, H', ⟨Nat.le_refl _⟩, ⟨tR HO341.out⟩, ⟨tG BK333.out⟩, ⟨tB⟩⟩
   clear H'
   try clear c1
   try clear c8
   try clear c8b0
   try clear c8b1
   try clear c13
   try clear c14
   try clear c14b0
   try clear c14b1
   try clear hcz10_0
   try clear hcz10_1
   try clear hcz6_0
   try clear hcz6_1
   try clear hfz10_0
   try clear hfz10_1
   try clear hfz6_0
   try clear hfz6_1
   obtain ⟨x7_3, x8_3, rfl, HA, HK3, HO_7, BK333, HB⟩ := hrel
   cases gk with
   | zero => exact absurd HA.out (by simp [spec_DualBasis.l0])
   | succ k3 =>
    have H := HA.out
    clear HA
    simp only [spec_DualBasis.l0] at H
    by_cases c17 : x8_3 < (l1.length : Int)
    rotate_left
    ·rw [if_neg c17] at H
     have c17b0 := decide_eq_false c17
     clear c17
     simp only [Option.some.injEq, Prod.mk.injEq] at H
     obtain ⟨rfl, rfl⟩ := H
     go_wp2
     go_ret2
     exact ⟨_, tE, tR HO_7.out, tB⟩
    rw [if_pos c17] at H
    have c17b0 := decide_eq_true c17
    clear c17
    replace H' := Aq.mk H
    clear H
    go_wp2
    go_loopg [7, 9] k3 (fun kq v7 v9 w' => ∃ (x7_4 : List Int) (x9_4 : Int), v9 = .int .i64 x9_4 ∧ Aq (spec_DualBasis.l1 kq l1 x7_4 x8_3 x9_4 a0_0 a0_1 = some (r1, r2)) ∧ Aq (kq ≤ k3) ∧ Aq (Kd.R (Kd.int .i64) 2 w' w.heap.size (fun _ => True) v7 x7_4) ∧ Aq (w'.heap[gb333]? = some (.cells #[.int .i64 a0_0, .int .i64 a0_1] 26 (0, 0))) ∧ Aq (Below w.heap.size w w'))
    case atStart => exact ⟨(x7_3), (0), tS, H', ⟨Nat.le_refl _⟩, ⟨tR HO_7.out⟩, ⟨tG BK333.out⟩, ⟨tB⟩⟩
    clear H'
    try clear c1
    try clear c8
    try clear c8b0
    try clear c8b1
    try clear c13
    try clear c14
    try clear c14b0
    try clear c14b1
    try clear c17
    try clear c17b0
    try clear hcz10_0
    try clear hcz10_1
    try clear hcz6_0
    try clear hcz6_1
    try clear hfz10_0
    try clear hfz10_1
    try clear hfz6_0
    try clear hfz6_1
    obtain ⟨x7_4, x9_4, rfl, HA, HK4, HO_7, BK333, HB⟩ := hrel
    cases gk with
    | zero => exact absurd HA.out (by simp [spec_DualBasis.l1])
    | succ k4 =>
     have H := HA.out
     clear HA
     simp only [spec_DualBasis.l1] at H
     obtain ⟨t342, A18, H⟩ := qBd H
     by_cases c19 : x9_4 < t342
     rotate_left
     ·rw [if_neg c19] at H
      have c19b0 := decide_eq_false c19
      clear c19
      replace H' := Aq.mk H
      clear H
      have hcz43_0 : wr.cell? ⟨gb333, 0, none⟩ = some (.int .i64 a0_0) := (kQC BK333.out 0).trans rfl
      have hcz43_1 : wr.cell? ⟨gb333, 1, none⟩ = some (.int .i64 a0_1) := (kQC BK333.out 1).trans rfl
      have hfz43_0 := kQF BK333.out 0
      have hfz43_1 := kQF BK333.out 1
      go_wp2_with (first | ((with_reducible refine gQc (f := 36) rfl ?_); refine goesL_ (some 37) rfl rfl Try.func36 (by kernel_rfl) rfl #[.agg #[.int .i64 a0_0, .int .i64 a0_1]] rfl tL ?_; (with_reducible refine (spec_l01Size.calls a0_0 a0_1 t342 _ A18.out).mono ?_); rintro e w44 ⟨rfl, hb⟩; refine ⟨_, rfl, ?_⟩; refine qM3 (Kd.R_below (tR HO_7.out) hb) (tQ BK333.out hb) (bQT tB hb) ?_; clear HO_7 BK333 HB; intro HO_7 BK333 HB; (try clear hb); (try clear hb2); (try clear hk); (try clear hi)))
      go_roundg k4
      case measure => have := HJ3.out; have := HJ11.out; have := HK3.out; have := HK4.out; omega
      case rel => exact ⟨(x7_4), (wrap64 (x8_3 + 1)), tS, H', ⟨by have := HJ3.out; have := HJ11.out; have := HK3.out; have := HK4.out; omega⟩, ⟨tR HO_7.out⟩, ⟨tG BK333.out⟩, ⟨tB⟩⟩
     rw [if_pos c19] at H
     have c19b0 := decide_eq_true c19
     clear c19
     replace H' := Aq.mk H
     clear H
     have hcz20_0 : wr.cell? ⟨gb333, 0, none⟩ = some (.int .i64 a0_0) := (kQC BK333.out 0).trans rfl
     have hcz20_1 : wr.cell? ⟨gb333, 1, none⟩ = some (.int .i64 a0_1) := (kQC BK333.out 1).trans rfl
     have hfz20_0 := kQF BK333.out 0
     have hfz20_1 := kQF BK333.out 1
     go_wp2_with (first | ((with_reducible refine gQc (f := 36) rfl ?_); refine goesL_ (some 37) rfl rfl Try.func36 (by kernel_rfl) rfl #[.agg #[.int .i64 a0_0, .int .i64 a0_1]] rfl tL ?_; (with_reducible refine (spec_l01Size.calls a0_0 a0_1 t342 _ A18.out).mono ?_); rintro e w21 ⟨rfl, hb⟩; refine ⟨_, rfl, ?_⟩; refine qM3 (Kd.R_below (tR HO_7.out) hb) (tQ BK333.out hb) (bQT tB hb) ?_; clear HO_7 BK333 HB; intro HO_7 BK333 HB; (try clear hb); (try clear hb2); (try clear hk); (try clear hi)))
     go_loopg [10, 11] k4 (fun kq v10 v11 w' => ∃ (x10_5 : Bool) (x11_5 : Int), v10 = .bool x10_5 ∧ v11 = .int .i64 x11_5 ∧ Aq (spec_DualBasis.l2 kq l1 x7_4 x8_3 x9_4 x10_5 x11_5 a0_0 a0_1 = some (r1, r2)) ∧ Aq (kq ≤ k4) ∧ Aq (Kd.R (Kd.int .i64) 2 w' w.heap.size (fun _ => True) u7 x7_4) ∧ Aq (w'.heap[gb333]? = some (.cells #[.int .i64 a0_0, .int .i64 a0_1] 26 (0, 0))) ∧ Aq (Below w.heap.size w w'))
     case atStart => exact ⟨(true), (0), tS, tS, H', ⟨Nat.le_refl _⟩, ⟨tR HO_7.out⟩, ⟨tG BK333.out⟩, ⟨tB⟩⟩
     clear H'
     try clear c1
     try clear c8
     try clear c8b0
     try clear c8b1
     try clear c13
     try clear c14
     try clear c14b0
     try clear c14b1
     try clear c17
     try clear c17b0
     try clear c19
     try clear c19b0
     try clear hcz10_0
     try clear hcz10_1
     try clear hcz20_0
     try clear hcz20_1
     try clear hcz6_0
     try clear hcz6_1
     try clear hfz10_0
     try clear hfz10_1
     try clear hfz20_0
     try clear hfz20_1
     try clear hfz6_0
     try clear hfz6_1
     obtain ⟨x10_5, x11_5, rfl, rfl, HA, HK5, HO_7, BK333, HB⟩ := hrel
     cases gk with
     | zero => exact absurd HA.out (by simp [spec_DualBasis.l2])
     | succ k5 =>
      have H := HA.out
      clear HA
      simp only [spec_DualBasis.l2] at H
      by_cases c22 : x11_5 < (l1.length : Int)
      rotate_left
      ·rw [if_neg c22] at H
       have c22b0 := decide_eq_false c22
       clear c22
       by_cases c40 : x10_5 = true
       rotate_left
       ·replace c40 := Bool.eq_false_iff.mpr c40
        subst c40
        rw [if_neg (show ¬ (false = true) by decide)] at H
        replace H' := Aq.mk H
        clear H
        go_wp2
        go_roundg k5
        case measure => have := HJ3.out; have := HJ11.out; have := HK3.out; have := HK4.out; have := HK5.out; omega
        case rel => exact ⟨(x7_4), (wrap64 (x9_4 + 1)), tS, H', ⟨by have := HJ3.out; have := HJ11.out; have := HK3.out; have := HK4.out; have := HK5.out; omega⟩, ⟨tR HO_7.out⟩, ⟨tG BK333.out⟩, ⟨tB⟩⟩
       subst c40
       rw [if_pos rfl] at H
       by_cases c41 : x7_4.length < 17592186044416
       rotate_left
       ·rw [if_neg c41] at H
        exact absurd H (by simp)
       rw [if_pos c41] at H
       have LMc41 := Aq.mk c41
       clear c41
       obtain ⟨y343, hy343⟩ : ∃ y_ : List Int, y_ = (x7_4 ++ [x9_4]) := ⟨_, rfl⟩
       replace H : (spec_DualBasis.l1 k5 l1 y343 x8_3 (wrap64 (x9_4 + 1)) a0_0 a0_1) = some (r1, r2) := by first | (rw [hy343]; with_reducible exact H) | (have H2_ := (Option.bind_some _ _).symm.trans H; rw [hy343]; with_reducible exact H2_) | (have H2_ := (Option.bind_some _ _).symm.trans H; with_reducible exact H2_) | with_reducible exact H | (rw [hy343]; exact H) | exact H
       have Ny343 := Aq.mk hy343
       clear hy343
       replace H' := Aq.mk H
       clear H
       go_wp2_with (first | ((with_reducible refine gate_builtin (b := .append) (xs := #[.tmp 65, .tmp 67]) rfl ?_); at_builtin; refine Kd.R_append (Kd.int .i64) (w0 := w) w.heap.size rfl (.tmp 65) (.tmp 67) 29 2 (.int .i64 0) 8 rfl Try.underlying29 info2 rfl (by decide) (by omega) u7 x7_4 x9_4 [.int .i64 x9_4] (fun _ => True) (fun _ => False) rfl rfl ?aP (fun _ hk => hk.elim) ?aF ?aO ?aB ?aS ?aL ?_; (case aP => exact rfl); (case aB => exact tB); (case aF => exact (fun _ _ => trivial)); (case aO => exact (tR HO_7.out)); (case aS => exact (bQZ tB)); (case aL => have := LMc41.out; omega); intro v344 w42 ho hb hg hat; rw [← Ny343.out] at ho; refine qM3 (blk_grown (g := gb333) (o := .cells #[.int .i64 a0_0, .int .i64 a0_1] 26 (0, 0)) (tG BK333.out) hg (Kd.R_ne HO_7.out BK333.out (by decide))) hb ho ?_; clear BK333 HB HO_7; intro BK333 HB HO345; clear ho hb hg hat))
       go_roundg k5
       case measure => have := HJ3.out; have := HJ11.out; have := HK3.out; have := HK4.out; have := HK5.out; omega
       case rel => exact ⟨(y343), (wrap64 (x9_4 + 1)), tS, H', ⟨by have := HJ3.out; have := HJ11.out; have := HK3.out; have := HK4.out; have := HK5.out; omega⟩, ⟨tR HO345.out⟩, ⟨tG BK333.out⟩, ⟨tB⟩⟩
      rw [if_pos c22] at H
      have c22b0 := decide_eq_true c22
      clear c22
      by_cases c23 : x11_5 = x8_3
      ·rw [if_pos c23] at H
       have c23b0 := beq_iff_eq.mpr c23
       have c23b1 := bne_eq_false_iff_eq.mpr c23
       clear c23
       by_cases c24 : x10_5 = true
       rotate_left
       ·replace c24 := Bool.eq_false_iff.mpr c24
        subst c24
        rw [if_neg (show ¬ (false = true) by decide)] at H
        replace H' := Aq.mk H
        clear H
        try go_wp2
        have n0_ := Aq.mk (Kd.RqD HO_7.out)
        have n1_ := Aq.mk (kQD BK333.out)
        have n2_ := Aq.mk (bQ1 HB.out)
        clear HO_7
        clear BK333
        clear HB
        have HO_7 := n0_
        have BK333 := n1_
        have HB := n2_
        clear n0_ n1_ n2_
        refine start_ (n := 15) (S := fun w' => True) (ds := []) #[false, false, false, false, false, false, false, false, false, false, false, false, false, false, false] (by kernel_rfl) rfl rfl trivial (fun hHeld => ?_); refine with_tabW spec_DualBasis.tab20 spec_DualBasis.bits20 (fun HT_ HW_ => ?_)
        generalize wr.drew = w31 at HO_7 BK333 HB hHeld ⊢
        refine tP0 0 50 (bm 15 1) ?_
        refine tP0 1 51 (bm 15 3) ?_
        refine pure_ (i := 2) (N := some 52) (v := undef) (a' := ?_) #[true, true, true, false, false, false, false, false, false, false, false, false, false, false, false] rfl rfl (any_of HT_.out (by kernel_rfl)) (fun _ _ _ h => h) (Or.inr ⟨by rfl, rfl⟩) ?_ ?_
        rotate_left
        ·simp only [Act.put, qSa, qSb, qSc, i64_w, i32_w]
         rfl
        refine pure_ (i := 3) (N := some 53) (v := undef) (a' := ?_) #[true, true, true, true, false, false, false, false, false, false, false, false, false, false, false] rfl rfl (any_of HT_.out (by kernel_rfl)) (fun _ _ _ h => h) (Or.inr ⟨by rfl, rfl⟩) ?_ ?_
        rotate_left
        ·simp only [Act.put, qSa, qSb, qSc, i64_w, i32_w]
         rfl
        refine pure_ (i := 4) (N := some 54) (v := undef) (a' := ?_) #[true, true, true, true, true, false, false, false, false, false, false, false, false, false, false] rfl rfl (any_of HT_.out (by kernel_rfl)) (fun _ _ _ h => h) (Or.inr ⟨by rfl, rfl⟩) ?_ ?_
        rotate_left
        ·simp only [Act.put, qSa, qSb, qSc, i64_w, i32_w]
         rfl
        refine pure_ (i := 5) (N := some 55) (v := undef) (a' := ?_) #[true, true, true, true, true, true, false, false, false, false, false, false, false, false, false] rfl rfl (any_of HT_.out (by kernel_rfl)) (fun _ _ _ h => h) (Or.inr ⟨by rfl, rfl⟩) ?_ ?_
        rotate_left
        ·simp only [Act.put, qSa, qSb, qSc, i64_w, i32_w]
         rfl
        refine pure_ (i := 6) (N := some 56) (v := undef) (a' := ?_) #[true, true, true, true, true, true, true, false, false, false, false, false, false, false, false] rfl rfl (any_of HT_.out (by kernel_rfl)) (fun _ _ _ h => h) (Or.inr ⟨by rfl, rfl⟩) ?_ ?_
        rotate_left
        ·simp only [Act.put, qSa, qSb, qSc, i64_w, i32_w]
         rfl
        refine pure_ (i := 7) (N := some 57) (v := undef) (a' := ?_) #[true, true, true, true, true, true, true, true, false, false, false, false, false, false, false] rfl rfl (any_of HT_.out (by kernel_rfl)) (fun _ _ _ h => h) (Or.inr ⟨by rfl, rfl⟩) ?_ ?_
        rotate_left
        ·simp only [Act.put, qSa, qSb, qSc, i64_w, i32_w]
         rfl
        refine pure_ (i := 8) (N := some 58) (v := undef) (a' := ?_) #[true, true, true, true, true, true, true, true, true, false, false, false, false, false, false] rfl rfl (any_of HT_.out (by kernel_rfl)) (fun _ _ _ h => h) (Or.inr ⟨by rfl, rfl⟩) ?_ ?_
        rotate_left
        ·simp only [Act.put, qSa, qSb, qSc, i64_w, i32_w]
         rfl
        refine pure_ (i := 9) (N := some 59) (v := undef) (a' := ?_) #[true, true, true, true, true, true, true, true, true, true, false, false, false, false, false] rfl rfl (any_of HT_.out (by kernel_rfl)) (fun _ _ _ h => h) (Or.inr ⟨by rfl, rfl⟩) ?_ ?_
        rotate_left
        ·simp only [Act.put, qSa, qSb, qSc, i64_w, i32_w]
         rfl
        refine pure_ (i := 10) (N := some 60) (v := undef) (a' := ?_) #[true, true, true, true, true, true, true, true, true, true, true, false, false, false, false] rfl rfl (any_of HT_.out (by kernel_rfl)) (fun _ _ _ h => h) (Or.inr ⟨by rfl, rfl⟩) ?_ ?_
        rotate_left
        ·simp only [Act.put, qSa, qSb, qSc, i64_w, i32_w]
         rfl
        refine pure_ (i := 11) (N := some 61) (v := undef) (a' := ?_) #[true, true, true, true, true, true, true, true, true, true, true, true, false, false, false] rfl rfl (any_of HT_.out (by kernel_rfl)) (fun _ _ _ h => h) (Or.inr ⟨by rfl, rfl⟩) ?_ ?_
        rotate_left
        ·simp only [Act.put, qSa, qSb, qSc, i64_w, i32_w]
         rfl
        refine pure_ (i := 12) (N := some 62) (v := undef) (a' := ?_) #[true, true, true, true, true, true, true, true, true, true, true, true, true, false, false] rfl rfl (any_of HT_.out (by kernel_rfl)) (fun _ _ _ h => h) (Or.inr ⟨by rfl, rfl⟩) ?_ ?_
        rotate_left
        ·simp only [Act.put, qSa, qSb, qSc, i64_w, i32_w]
         rfl
        refine tP0 13 63 (bm 15 16383) ?_
        refine tP0 14 10 (bm 15 32767) ?_
        refine done_ (done_of HT_.out (by kernel_rfl)) ?_
        try go_wp2
        go_roundg k5
        case measure => have := HJ3.out; have := HJ11.out; have := HK3.out; have := HK4.out; have := HK5.out; omega
        case rel => exact ⟨(false), (wrap64 (x11_5 + 1)), tS, tS, H', ⟨by have := HJ3.out; have := HJ11.out; have := HK3.out; have := HK4.out; have := HK5.out; omega⟩, ⟨tR HO_7.out⟩, ⟨tG BK333.out⟩, ⟨tB⟩⟩
       subst c24
       rw [if_pos rfl] at H
       by_cases c25 : 0 ≤ x11_5
       rotate_left
       ·rw [if_neg c25] at H
        exact absurd H (by simp)
       rw [if_pos c25] at H
       have c25b0 := decide_eq_true c25
       clear c25
       obtain ⟨t347, A26, H⟩ := qBd H
       obtain ⟨t348, A27, H⟩ := qBd H
       replace H' := Aq.mk H
       clear H
       try go_wp2
       have n0_ := Aq.mk (Kd.RqD HO_7.out)
       have n1_ := Aq.mk (kQD BK333.out)
       have n2_ := Aq.mk (bQ1 HB.out)
       clear HO_7
       clear BK333
       clear HB
       have HO_7 := n0_
       have BK333 := n1_
       have HB := n2_
       clear n0_ n1_ n2_
       have p346 : 0 ≤ (x11_5 : Int) := of_decide_eq_true tA
       have q346 : x11_5 < (l1.length : Int) := of_decide_eq_true tA
       obtain ⟨ad346, e346, hx346_0⟩ := Kd.at_int HR1.out x11_5 p346 q346
       have hw346_0 := hx346_0
       cases e346
       replace hx346_0 := (HB.out.cell (World.block_lt_of_cell? w _ hx346_0)).trans hx346_0
       replace p346 := eq_true p346
       replace q346 := eq_true q346
       refine start_ (n := 15) (S := fun w' => w'.cell? ⟨gb333, 0, none⟩ = some (.int .i64 a0_0) ∧ w'.cell? ⟨gb333, 1, none⟩ = some (.int .i64 a0_1) ∧ w'.cell? (ad346.add (x11_5).toNat) = some (.int .i64 (rd l1 x11_5))) (ds := []) #[false, false, false, false, false, false, false, false, false, false, false, false, false, false, false] (by kernel_rfl) rfl rfl ⟨(kQC BK333.out 0).trans rfl, (kQC BK333.out 1).trans rfl, (tcw tB hw346_0)⟩ (fun hHeld => ?_); refine with_tabW spec_DualBasis.tab20 spec_DualBasis.bits20 (fun HT_ HW_ => ?_)
       generalize wr.drew = w28 at HO_7 BK333 HB hx346_0 hHeld ⊢
       refine tP0 0 50 (bm 15 1) ?_
       refine tP0 1 51 (bm 15 3) ?_
       refine tP0 4 54 (bm 15 19) ?_
       refine tP0 5 55 (bm 15 51) ?_
       refine tP0 6 56 (bm 15 115) ?_
       refine tP0 8 58 (bm 15 371) ?_
       refine tP0 11 61 (bm 15 2419) ?_
       refine tT3 2 52 (bm 15 2423) ?_
       refine tT3 3 53 (bm 15 2431) ?_
       refine tT3 7 57 (bm 15 2559) ?_
       refine one_ (i := 9) (N := some 59) (bm 15 3071) rfl rfl (one_of HT_.out (by kernel_rfl)) (by decide) (fun K hK => ?_)
       refine goes_ Try.func48 (by kernel_rfl) rfl #[.agg #[.int .i64 a0_0, .int .i64 a0_1], .int .i64 (rd l1 x11_5), .int .i64 x9_4] (by rfl) rfl rfl tL ?_
       with_reducible refine (spec_l01Mul.calls k5 a0_0 a0_1 (rd l1 x11_5) x9_4 t347 _ A26.out).mono ?_
       rintro e w29 ⟨rfl, hb⟩
       refine ⟨_, rfl, ?_⟩
       have n0_ := Aq.mk (Kd.R_below (tR HO_7.out) hb)
       have n1_ := Aq.mk (tQ BK333.out hb)
       have n2_ := Aq.mk (bQT tB hb)
       clear HO_7
       clear BK333
       clear HB
       have HO_7 := n0_
       have BK333 := n1_
       have HB := n2_
       clear n0_ n1_ n2_
       (try clear hb)
       (try clear hb2)
       (try clear hk)
       (try clear hi)
       refine hK.out _ _ ⟨(kQC BK333.out 0).trans rfl, (kQC BK333.out 1).trans rfl, (tcw tB hw346_0)⟩ (fun hHeld => ?_)
       clear hK K
       refine tN 59 ?_
       refine one_ (i := 10) (N := some 60) (bm 15 4095) rfl rfl (one_of HT_.out (by kernel_rfl)) (by decide) (fun K hK => ?_)
       refine goes_ Try.func47 (by kernel_rfl) rfl #[.agg #[.int .i64 a0_0, .int .i64 a0_1], .int .i64 t347] (by rfl) rfl rfl tL ?_
       with_reducible refine (spec_l01Trace.calls k5 a0_0 a0_1 t347 t348 _ A27.out).mono ?_
       rintro e w30 ⟨rfl, hb⟩
       refine ⟨_, rfl, ?_⟩
       have n0_ := Aq.mk (Kd.R_below (tR HO_7.out) hb)
       have n1_ := Aq.mk (tQ BK333.out hb)
       have n2_ := Aq.mk (bQT tB hb)
       clear HO_7
       clear BK333
       clear HB
       have HO_7 := n0_
       have BK333 := n1_
       have HB := n2_
       clear n0_ n1_ n2_
       (try clear hb)
       (try clear hb2)
       (try clear hk)
       (try clear hi)
       refine hK.out _ _ ⟨(kQC BK333.out 0).trans rfl, (kQC BK333.out 1).trans rfl, (tcw tB hw346_0)⟩ (fun hHeld => ?_)
       clear hK K
       refine tN 60 ?_
       refine tP0 12 62 (bm 15 8191) ?_
       refine tP0 13 63 (bm 15 16383) ?_
       refine tP0 14 10 (bm 15 32767) ?_
       refine done_ (done_of HT_.out (by kernel_rfl)) ?_
       try go_wp2
       go_roundg k5
       case measure => have := HJ3.out; have := HJ11.out; have := HK3.out; have := HK4.out; have := HK5.out; omega
       case rel => exact ⟨((t348 == 1)), (wrap64 (x11_5 + 1)), tS, tS, H', ⟨by have := HJ3.out; have := HJ11.out; have := HK3.out; have := HK4.out; have := HK5.out; omega⟩, ⟨tR HO_7.out⟩, ⟨tG BK333.out⟩, ⟨tB⟩⟩
      rw [if_neg c23] at H
      have c23b0 := beq_eq_false_iff_ne.mpr c23
      have c23b1 := bne_iff_ne.mpr c23
      by_cases c32 : x10_5 = true
      rotate_left
      ·replace c32 := Bool.eq_false_iff.mpr c32
       subst c32
       rw [if_neg (show ¬ (false = true) by decide)] at H
       replace H' := Aq.mk H
       clear H
       try go_wp2
       have n0_ := Aq.mk (Kd.RqD HO_7.out)
       have n1_ := Aq.mk (kQD BK333.out)
       have n2_ := Aq.mk (bQ1 HB.out)
       clear HO_7
       clear BK333
       clear HB
       have HO_7 := n0_
       have BK333 := n1_
       have HB := n2_
       clear n0_ n1_ n2_
       refine start_ (n := 15) (S := fun w' => True) (ds := []) #[false, false, false, false, false, false, false, false, false, false, false, false, false, false, false] (by kernel_rfl) rfl rfl trivial (fun hHeld => ?_); refine with_tabW spec_DualBasis.tab20 spec_DualBasis.bits20 (fun HT_ HW_ => ?_)
       generalize wr.drew = w39 at HO_7 BK333 HB hHeld ⊢
       refine tP0 0 50 (bm 15 1) ?_
       refine tP0 1 51 (bm 15 3) ?_
       refine pure_ (i := 2) (N := some 52) (v := undef) (a' := ?_) #[true, true, true, false, false, false, false, false, false, false, false, false, false, false, false] rfl rfl (any_of HT_.out (by kernel_rfl)) (fun _ _ _ h => h) (Or.inr ⟨by rfl, rfl⟩) ?_ ?_
       rotate_left
       ·simp only [Act.put, qSa, qSb, qSc, i64_w, i32_w]
        rfl
       refine pure_ (i := 3) (N := some 53) (v := undef) (a' := ?_) #[true, true, true, true, false, false, false, false, false, false, false, false, false, false, false] rfl rfl (any_of HT_.out (by kernel_rfl)) (fun _ _ _ h => h) (Or.inr ⟨by rfl, rfl⟩) ?_ ?_
       rotate_left
       ·simp only [Act.put, qSa, qSb, qSc, i64_w, i32_w]
        rfl
       refine pure_ (i := 4) (N := some 54) (v := undef) (a' := ?_) #[true, true, true, true, true, false, false, false, false, false, false, false, false, false, false] rfl rfl (any_of HT_.out (by kernel_rfl)) (fun _ _ _ h => h) (Or.inr ⟨by rfl, rfl⟩) ?_ ?_
       rotate_left
       ·simp only [Act.put, qSa, qSb, qSc, i64_w, i32_w]
        rfl
       refine pure_ (i := 5) (N := some 55) (v := undef) (a' := ?_) #[true, true, true, true, true, true, false, false, false, false, false, false, false, false, false] rfl rfl (any_of HT_.out (by kernel_rfl)) (fun _ _ _ h => h) (Or.inr ⟨by rfl, rfl⟩) ?_ ?_
       rotate_left
       ·simp only [Act.put, qSa, qSb, qSc, i64_w, i32_w]
        rfl
       refine pure_ (i := 6) (N := some 56) (v := undef) (a' := ?_) #[true, true, true, true, true, true, true, false, false, false, false, false, false, false, false] rfl rfl (any_of HT_.out (by kernel_rfl)) (fun _ _ _ h => h) (Or.inr ⟨by rfl, rfl⟩) ?_ ?_
       rotate_left
       ·simp only [Act.put, qSa, qSb, qSc, i64_w, i32_w]
        rfl
       refine pure_ (i := 7) (N := some 57) (v := undef) (a' := ?_) #[true, true, true, true, true, true, true, true, false, false, false, false, false, false, false] rfl rfl (any_of HT_.out (by kernel_rfl)) (fun _ _ _ h => h) (Or.inr ⟨by rfl, rfl⟩) ?_ ?_
       rotate_left
       ·simp only [Act.put, qSa, qSb, qSc, i64_w, i32_w]
        rfl
       refine pure_ (i := 8) (N := some 58) (v := undef) (a' := ?_) #[true, true, true, true, true, true, true, true, true, false, false, false, false, false, false] rfl rfl (any_of HT_.out (by kernel_rfl)) (fun _ _ _ h => h) (Or.inr ⟨by rfl, rfl⟩) ?_ ?_
       rotate_left
       ·simp only [Act.put, qSa, qSb, qSc, i64_w, i32_w]
        rfl
       refine pure_ (i := 9) (N := some 59) (v := undef) (a' := ?_) #[true, true, true, true, true, true, true, true, true, true, false, false, false, false, false] rfl rfl (any_of HT_.out (by kernel_rfl)) (fun _ _ _ h => h) (Or.inr ⟨by rfl, rfl⟩) ?_ ?_
       rotate_left
       ·simp only [Act.put, qSa, qSb, qSc, i64_w, i32_w]
        rfl
       refine pure_ (i := 10) (N := some 60) (v := undef) (a' := ?_) #[true, true, true, true, true, true, true, true, true, true, true, false, false, false, false] rfl rfl (any_of HT_.out (by kernel_rfl)) (fun _ _ _ h => h) (Or.inr ⟨by rfl, rfl⟩) ?_ ?_
       rotate_left
       ·simp only [Act.put, qSa, qSb, qSc, i64_w, i32_w]
        rfl
       refine pure_ (i := 11) (N := some 61) (v := undef) (a' := ?_) #[true, true, true, true, true, true, true, true, true, true, true, true, false, false, false] rfl rfl (any_of HT_.out (by kernel_rfl)) (fun _ _ _ h => h) (Or.inr ⟨by rfl, rfl⟩) ?_ ?_
       rotate_left
       ·simp only [Act.put, qSa, qSb, qSc, i64_w, i32_w]
        rfl
       refine pure_ (i := 12) (N := some 62) (v := undef) (a' := ?_) #[true, true, true, true, true, true, true, true, true, true, true, true, true, false, false] rfl rfl (any_of HT_.out (by kernel_rfl)) (fun _ _ _ h => h) (Or.inr ⟨by rfl, rfl⟩) ?_ ?_
       rotate_left
       ·simp only [Act.put, qSa, qSb, qSc, i64_w, i32_w]
        rfl
       refine tP0 13 63 (bm 15 16383) ?_
       refine tP0 14 10 (bm 15 32767) ?_
       refine done_ (done_of HT_.out (by kernel_rfl)) ?_
       try go_wp2
       go_roundg k5
       case measure => have := HJ3.out; have := HJ11.out; have := HK3.out; have := HK4.out; have := HK5.out; omega
       case rel => exact ⟨(false), (wrap64 (x11_5 + 1)), tS, tS, H', ⟨by have := HJ3.out; have := HJ11.out; have := HK3.out; have := HK4.out; have := HK5.out; omega⟩, ⟨tR HO_7.out⟩, ⟨tG BK333.out⟩, ⟨tB⟩⟩
      subst c32
      rw [if_pos rfl] at H
      by_cases c33 : 0 ≤ x11_5
      rotate_left
      ·rw [if_neg c33] at H
       exact absurd H (by simp)
      rw [if_pos c33] at H
      have c33b0 := decide_eq_true c33
      clear c33
      obtain ⟨t350, A34, H⟩ := qBd H
      obtain ⟨t351, A35, H⟩ := qBd H
      replace H' := Aq.mk H
      clear H
      try go_wp2
      have n0_ := Aq.mk (Kd.RqD HO_7.out)
      have n1_ := Aq.mk (kQD BK333.out)
      have n2_ := Aq.mk (bQ1 HB.out)
      clear HO_7
      clear BK333
      clear HB
      have HO_7 := n0_
      have BK333 := n1_
      have HB := n2_
      clear n0_ n1_ n2_
      have p349 : 0 ≤ (x11_5 : Int) := of_decide_eq_true tA
      have q349 : x11_5 < (l1.length : Int) := of_decide_eq_true tA
      obtain ⟨ad349, e349, hx349_0⟩ := Kd.at_int HR1.out x11_5 p349 q349
      have hw349_0 := hx349_0
      cases e349
      replace hx349_0 := (HB.out.cell (World.block_lt_of_cell? w _ hx349_0)).trans hx349_0
      replace p349 := eq_true p349
      replace q349 := eq_true q349
      refine start_ (n := 15) (S := fun w' => w'.cell? ⟨gb333, 0, none⟩ = some (.int .i64 a0_0) ∧ w'.cell? ⟨gb333, 1, none⟩ = some (.int .i64 a0_1) ∧ w'.cell? (ad349.add (x11_5).toNat) = some (.int .i64 (rd l1 x11_5))) (ds := []) #[false, false, false, false, false, false, false, false, false, false, false, false, false, false, false] (by kernel_rfl) rfl rfl ⟨(kQC BK333.out 0).trans rfl, (kQC BK333.out 1).trans rfl, (tcw tB hw349_0)⟩ (fun hHeld => ?_); refine with_tabW spec_DualBasis.tab20 spec_DualBasis.bits20 (fun HT_ HW_ => ?_)
      generalize wr.drew = w36 at HO_7 BK333 HB hx349_0 hHeld ⊢
      refine tP0 0 50 (bm 15 1) ?_
      refine tP0 1 51 (bm 15 3) ?_
      refine tP0 4 54 (bm 15 19) ?_
      refine tP0 5 55 (bm 15 51) ?_
      refine tP0 6 56 (bm 15 115) ?_
      refine tP0 8 58 (bm 15 371) ?_
      refine tP0 11 61 (bm 15 2419) ?_
      refine tT3 2 52 (bm 15 2423) ?_
      refine tT3 3 53 (bm 15 2431) ?_
      refine tT3 7 57 (bm 15 2559) ?_
      refine one_ (i := 9) (N := some 59) (bm 15 3071) rfl rfl (one_of HT_.out (by kernel_rfl)) (by decide) (fun K hK => ?_)
      refine goes_ Try.func48 (by kernel_rfl) rfl #[.agg #[.int .i64 a0_0, .int .i64 a0_1], .int .i64 (rd l1 x11_5), .int .i64 x9_4] (by rfl) rfl rfl tL ?_
      with_reducible refine (spec_l01Mul.calls k5 a0_0 a0_1 (rd l1 x11_5) x9_4 t350 _ A34.out).mono ?_
      rintro e w37 ⟨rfl, hb⟩
      refine ⟨_, rfl, ?_⟩
      have n0_ := Aq.mk (Kd.R_below (tR HO_7.out) hb)
      have n1_ := Aq.mk (tQ BK333.out hb)
      have n2_ := Aq.mk (bQT tB hb)
      clear HO_7
      clear BK333
      clear HB
      have HO_7 := n0_
      have BK333 := n1_
      have HB := n2_
      clear n0_ n1_ n2_
      (try clear hb)
      (try clear hb2)
      (try clear hk)
      (try clear hi)
      refine hK.out _ _ ⟨(kQC BK333.out 0).trans rfl, (kQC BK333.out 1).trans rfl, (tcw tB hw349_0)⟩ (fun hHeld => ?_)
      clear hK K
      refine tN 59 ?_
      refine one_ (i := 10) (N := some 60) (bm 15 4095) rfl rfl (one_of HT_.out (by kernel_rfl)) (by decide) (fun K hK => ?_)
      refine goes_ Try.func47 (by kernel_rfl) rfl #[.agg #[.int .i64 a0_0, .int .i64 a0_1], .int .i64 t350] (by rfl) rfl rfl tL ?_
      with_reducible refine (spec_l01Trace.calls k5 a0_0 a0_1 t350 t351 _ A35.out).mono ?_
      rintro e w38 ⟨rfl, hb⟩
      refine ⟨_, rfl, ?_⟩
      have n0_ := Aq.mk (Kd.R_below (tR HO_7.out) hb)
      have n1_ := Aq.mk (tQ BK333.out hb)
      have n2_ := Aq.mk (bQT tB hb)
      clear HO_7
      clear BK333
      clear HB
      have HO_7 := n0_
      have BK333 := n1_
      have HB := n2_
      clear n0_ n1_ n2_
      (try clear hb)
      (try clear hb2)
      (try clear hk)
      (try clear hi)
      refine hK.out _ _ ⟨(kQC BK333.out 0).trans rfl, (kQC BK333.out 1).trans rfl, (tcw tB hw349_0)⟩ (fun hHeld => ?_)
      clear hK K
      refine tN 60 ?_
      refine tP0 12 62 (bm 15 8191) ?_
      refine tP0 13 63 (bm 15 16383) ?_
      refine tP0 14 10 (bm 15 32767) ?_
      refine done_ (done_of HT_.out (by kernel_rfl)) ?_
      try go_wp2
      go_roundg k5
      case measure => have := HJ3.out; have := HJ11.out; have := HK3.out; have := HK4.out; have := HK5.out; omega
      case rel => exact ⟨((t351 == 0)), (wrap64 (x11_5 + 1)), tS, tS, H', ⟨by have := HJ3.out; have := HJ11.out; have := HK3.out; have := HK4.out; have := HK5.out; omega⟩, ⟨tR HO_7.out⟩, ⟨tG BK333.out⟩, ⟨tB⟩⟩
end Go.Proofs.Ytbgbblgdbcjibaa.P
