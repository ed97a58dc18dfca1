/- Functions of the program and what they tell, as the printing program wrote it. -/
import Derived.Test.YtpigghpimgkilaaPx0
import Derived.Test.YtpigghpimgkilaaPx4
import Derived.Test.YtpigghpimgkilaaPx5
import Derived.Test.YtpigghpimgkilaaPx9
import Derived.Test.YtpigghpimgkilaaPx15
namespace Go.Proofs.Ytpigghpimgkilaa.P
open Go.Shelf Go.RowKit Go.Proofs.YtpigghpimgkilaaW.PrintWords Go.Proofs.YtpigghpimgkilaaW.PrintLast Go.Proofs.YtpigghpimgkilaaW.PrintMore
attribute [local go_sem] max2_int min2_int max_two min_two max_three min_three max_four min_four
set_option linter.unusedVariables false
set_option linter.unusedSimpArgs false
set_option maxHeartbeats 8000000
set_option maxRecDepth 100000
def impl_Field_value.l0 : Nat → Int → Int → List Int → Int → Int → Int → Int → Option (Int)
  | 0, _, _, _, _, _, _, _ => none
  | k + 1, x2, x7, x10, x11, x12, x428000, x428001 => if x12 < x11 then (if 0 ≤ x12 then (if x12 < (x10.length : Int) then ((impl_Field_square.f k x428000 x428001 x2 x12).bind fun t429 => ((impl_Field_mul.f k x428000 x428001 (rd x10 x12) t429).bind fun t430 => (impl_Field_value.l0 k x2 (Go.bits .xor .i64 x7 t430) x10 x11 (wrap64 (x12 + 1)) x428000 x428001))) else (none)) else (none)) else (some x7)
def impl_Field_value.f (k : Nat) (a0_0 : Int) (a0_1 : Int) (l1 : List Int) (a2 : Int) : Option (Int) := impl_Field_value.l0 k a2 0 l1 (l1.length : Int) 0 a0_0 a0_1
theorem impl_Field_value.mono_l : ∀ k, (∀ y0 y1 y2 y3 y4 y5 y6, LeO (impl_Field_value.l0 k y0 y1 y2 y3 y4 y5 y6) (impl_Field_value.l0 (k + 1) y0 y1 y2 y3 y4 y5 y6))
 | 0 => fun _ _ _ _ _ _ _ r h => by simp [impl_Field_value.l0] at h
 | k + 1 => by
  have ih0 := impl_Field_value.mono_l k
  ·intro y0 y1 y2 y3 y4 y5 y6
   unfold impl_Field_value.l0
   repeat' first
   | (with_reducible first | apply ih0 | apply impl_Field_mul.mono | apply impl_Field_square.mono | exact LeO.refl _ | exact LeO.none _ | refine LeO.ite ?_ ?_ | refine LeO.bind ?_ (fun _ => ?_))
   | exact LeO.none _
   | refine LeO.ite ?_ ?_
   | refine LeO.bind ?_ (fun _ => ?_)
theorem impl_Field_value.mono : ∀ a0 a1 a2 a3 k, LeO (impl_Field_value.f k a0 a1 a2 a3) (impl_Field_value.f (k + 1) a0 a1 a2 a3) := by
 intro a0 a1 a2 a3 k
 have ih0 := impl_Field_value.mono_l k
 unfold impl_Field_value.f
 repeat' first
  | (with_reducible first | apply ih0 | apply impl_Field_mul.mono | apply impl_Field_square.mono | exact LeO.refl _ | exact LeO.none _ | refine LeO.ite ?_ ?_ | refine LeO.bind ?_ (fun _ => ?_))
  | exact LeO.none _
  | refine LeO.ite ?_ ?_
  | refine LeO.bind ?_ (fun _ => ?_)
def impl_Field_value.T5 : Bool × List (List Nat × List Nat) := (true, [([], []), ([], []), ([], []), ([], []), ([], []), ([], []), ([3, 4, 5], [3, 4, 5]), ([1, 2, 6, 6], [1, 2, 6]), ([0, 7], [0, 7]), ([8, 7, 0, 1, 2, 3, 4, 5, 6, 7, 8], [0, 8])])
def impl_Field_value.B5 : List Nat := [0, 0, 0, 0, 0, 0, 56, 126, 255, 511]
theorem impl_Field_value.tab5 : rtab .any (opsOf Try.f62 5) = impl_Field_value.T5 := by kernel_rfl
theorem impl_Field_value.bits5 : waitsOk impl_Field_value.T5.2 impl_Field_value.B5 = true := by kernel_rfl
theorem impl_Field_value.calls (k : Nat) (a0_0 : Int) (a0_1 : Int) (A1 : Option Addr) (c1 : Nat) (l1 : List Int) (a2 : Int) (r : Int) (w : World) (hr1 : Kd.C (Kd.int .i64) w A1 l1.length l1) (hc1 : l1.length ≤ c1) (h : impl_Field_value.f k a0_0 a0_1 l1 a2 = some r) :
 Calls Try.prog 62 #[.agg #[.int .i64 a0_0, .int .i64 a0_1], .slice A1 l1.length c1, .int .i64 a2] w fun e w' => e = .returned (.int .i64 r) ∧ Below w.heap.size w w' := by
 have hu27 := Try.underlying27
 have HR1 := Aq.mk hr1
 have HC1 := Aq.mk hc1
 clear hr1 hc1
 have HB := Aq.mk (Below.refl w.heap.size w)
 have H : (impl_Field_value.l0 k a2 0 l1 (l1.length : Int) 0 a0_0 a0_1) = some r := h
 clear h
 replace H' := Aq.mk H
 clear H
 go_enter Try.func62, Try.ntmps62
 go_wp2_with (first | ((with_reducible refine gQd (N := 3) rfl ?_); refine xQe ?hg (N := 3) ?hd (cs := #[.int .i64 a0_0, .int .i64 a0_1]) (t := 27) ?hr ?_; (case hd => rfl); (case hg => rfl); (case hr => exact tH); intro gb427 hg w4 hbox hb; refine qM4 (bQT tB hb) hbox (tZ w hg) (tZ w hg) ?_; clear HB; intro HB BK427 GW427 GE427; clear hb hbox hg))
 go_loopg [7, 12] k (fun kq v7 v12 w' => ∃ (x7_1 : Int) (x12_1 : Int), v7 = .int .i64 x7_1 ∧ v12 = .int .i64 x12_1 ∧ Aq (impl_Field_value.l0 kq a2 x7_1 l1 (l1.length : Int) x12_1 a0_0 a0_1 = some r) ∧ Aq (kq ≤ k) ∧ Aq (w'.heap[gb427]? = some (.cells #[.int .i64 a0_0, .int .i64 a0_1] 27 (0, 0))) ∧ Aq (Below w.heap.size w w'))
 case atStart => exact ⟨(0), (0), tS, tS, H', ⟨Nat.le_refl _⟩, ⟨tG BK427.out⟩, ⟨tB⟩⟩
 clear H'
 try clear c1
 obtain ⟨x7_1, x12_1, rfl, rfl, HA, HK1, BK427, HB⟩ := hrel
 cases gk with
 | zero => exact absurd HA.out (by simp [impl_Field_value.l0])
 | succ k1 =>
  have H := HA.out
  clear HA
  simp only [impl_Field_value.l0] at H
  by_cases c5 : x12_1 < (l1.length : Int)
  rotate_left
  ·rw [if_neg c5] at H
   have c5b0 := decide_eq_false c5
   clear c5
   obtain rfl := Option.some.inj H
   go_wp2
   go_ret
   exact ⟨tE, tB⟩
  rw [if_pos c5] at H
  have c5b0 := decide_eq_true c5
  clear c5
  by_cases c6 : 0 ≤ x12_1
  rotate_left
  ·rw [if_neg c6] at H
   exact absurd H (by simp)
  rw [if_pos c6] at H
  have c6b0 := decide_eq_true c6
  clear c6
  by_cases c7 : x12_1 < (l1.length : Int)
  rotate_left
  ·rw [if_neg c7] at H
   exact absurd H (by simp)
  rw [if_pos c7] at H
  have c7b0 := decide_eq_true c7
  clear c7
  obtain ⟨t429, A8, H⟩ := qBd H
  obtain ⟨t430, A9, H⟩ := qBd H
  replace H' := Aq.mk H
  clear H
  have p428 : 0 ≤ (x12_1 : Int) := of_decide_eq_true tA
  have q428 : x12_1 < (l1.length : Int) := of_decide_eq_true tA
  obtain ⟨ad428, e428, hx428_0⟩ := Kd.at_int HR1.out x12_1 p428 q428
  cases e428
  replace hx428_0 := (HB.out.cell (World.block_lt_of_cell? w _ hx428_0)).trans hx428_0
  replace p428 := eq_true p428
  replace q428 := eq_true q428
  try go_wp2
  have n0_ := Aq.mk (kQD BK427.out)
  have n1_ := Aq.mk (bQ1 HB.out)
  clear BK427
  clear HB
  have BK427 := n0_
  have HB := n1_
  clear n0_ n1_
  refine start_ (n := 10) (S := fun w' => w'.cell? ⟨gb427, 0, none⟩ = some (.int .i64 a0_0) ∧ w'.cell? ⟨gb427, 1, none⟩ = some (.int .i64 a0_1)) (ds := []) #[false, false, false, false, false, false, false, false, false, false] (by kernel_rfl) rfl rfl ⟨(kQC BK427.out 0).trans rfl, (kQC BK427.out 1).trans rfl⟩ (fun hHeld => ?_); refine with_tabW impl_Field_value.tab5 impl_Field_value.bits5 (fun HT_ HW_ => ?_)
  generalize wr.drew = w10 at BK427 HB hHeld ⊢
  refine tP0 0 17 (bm 10 1) ?_
  refine tP0 2 19 (bm 10 5) ?_
  refine tP0 4 21 (bm 10 21) ?_
  refine tP0 5 22 (bm 10 53) ?_
  refine tT2 1 18 (bm 10 55) ?_
  refine tT2 3 20 (bm 10 63) ?_
  refine one_ (i := 6) (N := some 23) (bm 10 127) rfl rfl (one_of HT_.out (by kernel_rfl)) (by decide) (fun K hK => ?_)
  refine goes_ Try.func56 (by kernel_rfl) rfl #[.agg #[.int .i64 a0_0, .int .i64 a0_1], .int .i64 a2, .int .i64 x12_1] (by rfl) rfl rfl tL ?_
  with_reducible refine (impl_Field_square.calls k1 a0_0 a0_1 a2 x12_1 t429 _ A8.out).mono ?_
  rintro e w11 ⟨rfl, hb⟩
  refine ⟨_, rfl, ?_⟩
  have n0_ := Aq.mk (tQ BK427.out hb)
  have n1_ := Aq.mk (bQT tB hb)
  clear BK427
  clear HB
  have BK427 := n0_
  have HB := n1_
  clear n0_ n1_
  (try clear hb)
  (try clear hb2)
  (try clear hk)
  (try clear hi)
  refine hK.out _ _ ⟨(kQC BK427.out 0).trans rfl, (kQC BK427.out 1).trans rfl⟩ (fun hHeld => ?_)
  clear hK K
  refine tN 23 ?_
  refine one_ (i := 7) (N := some 24) (bm 10 255) rfl rfl (one_of HT_.out (by kernel_rfl)) (by decide) (fun K hK => ?_)
  refine goes_ Try.func57 (by kernel_rfl) rfl #[.agg #[.int .i64 a0_0, .int .i64 a0_1], .int .i64 (rd l1 x12_1), .int .i64 t429] (by rfl) rfl rfl tL ?_
  with_reducible refine (impl_Field_mul.calls k1 a0_0 a0_1 (rd l1 x12_1) t429 t430 _ A9.out).mono ?_
  rintro e w12 ⟨rfl, hb⟩
  refine ⟨_, rfl, ?_⟩
  have n0_ := Aq.mk (tQ BK427.out hb)
  have n1_ := Aq.mk (bQT tB hb)
  clear BK427
  clear HB
  have BK427 := n0_
  have HB := n1_
  clear n0_ n1_
  (try clear hb)
  (try clear hb2)
  (try clear hk)
  (try clear hi)
  refine hK.out _ _ ⟨(kQC BK427.out 0).trans rfl, (kQC BK427.out 1).trans rfl⟩ (fun hHeld => ?_)
  clear hK K
  refine tN 24 ?_
  refine tP0 8 25 (bm 10 511) ?_
  refine tP0 9 7 (bm 10 1023) ?_
  refine done_ (done_of HT_.out (by kernel_rfl)) ?_
  try go_wp2
  go_roundg k1
  case measure => have := HK1.out; omega
  case rel => exact ⟨(Go.bits .xor .i64 x7_1 t430), (wrap64 (x12_1 + 1)), tS, tS, H', ⟨by have := HK1.out; omega⟩, ⟨tG BK427.out⟩, ⟨tB⟩⟩
def impl_Field_annihilator.l0 : Nat → List Int → List Int → Int → Int → Int → Int → Option (List Int)
  | 0, _, _, _, _, _, _ => none
  | k + 1, x5, x10, x11, x12, x432000, x432001 => if x12 < x11 then (if 0 ≤ x12 then (if x12 < (x10.length : Int) then ((impl_Field_value.f k x432000 x432001 x5 (rd x10 x12)).bind fun t436 => (if t436 = 0 then (impl_Field_annihilator.l0 k x5 x10 x11 (wrap64 (x12 + 1)) x432000 x432001) else ((impl_Field_compose.f k x432000 x432001 (([t436, 1] : List Int)) x5).bind fun t440 => (impl_Field_annihilator.l0 k t440 x10 x11 (wrap64 (x12 + 1)) x432000 x432001)))) else (none)) else (none)) else (some x5)
def impl_Field_annihilator.f (k : Nat) (a0_0 : Int) (a0_1 : Int) (l1 : List Int) : Option (List Int) := impl_Field_annihilator.l0 k (([1] : List Int)) l1 (l1.length : Int) 0 a0_0 a0_1
theorem impl_Field_annihilator.mono_l : ∀ k, (∀ y0 y1 y2 y3 y4 y5, LeO (impl_Field_annihilator.l0 k y0 y1 y2 y3 y4 y5) (impl_Field_annihilator.l0 (k + 1) y0 y1 y2 y3 y4 y5))
 | 0 => fun _ _ _ _ _ _ r h => by simp [impl_Field_annihilator.l0] at h
 | k + 1 => by
  have ih0 := impl_Field_annihilator.mono_l k
  ·intro y0 y1 y2 y3 y4 y5
   unfold impl_Field_annihilator.l0
   repeat' first
   | (with_reducible first | apply ih0 | apply impl_Field_compose.mono | apply impl_Field_value.mono | exact LeO.refl _ | exact LeO.none _ | refine LeO.ite ?_ ?_ | refine LeO.bind ?_ (fun _ => ?_))
   | exact LeO.none _
   | refine LeO.ite ?_ ?_
   | refine LeO.bind ?_ (fun _ => ?_)
theorem impl_Field_annihilator.mono : ∀ a0 a1 a2 k, LeO (impl_Field_annihilator.f k a0 a1 a2) (impl_Field_annihilator.f (k + 1) a0 a1 a2) := by
 intro a0 a1 a2 k
 have ih0 := impl_Field_annihilator.mono_l k
 unfold impl_Field_annihilator.f
 repeat' first
  | (with_reducible first | apply ih0 | apply impl_Field_compose.mono | apply impl_Field_value.mono | exact LeO.refl _ | exact LeO.none _ | refine LeO.ite ?_ ?_ | refine LeO.bind ?_ (fun _ => ?_))
  | exact LeO.none _
  | refine LeO.ite ?_ ?_
  | refine LeO.bind ?_ (fun _ => ?_)
theorem impl_Field_annihilator.calls (k : Nat) (a0_0 : Int) (a0_1 : Int) (A1 : Option Addr) (c1 : Nat) (l1 : List Int) (r : List Int) (w : World) (hr1 : Kd.C (Kd.int .i64) w A1 l1.length l1) (hc1 : l1.length ≤ c1) (h : impl_Field_annihilator.f k a0_0 a0_1 l1 = some r) :
 Calls Try.prog 37 #[.agg #[.int .i64 a0_0, .int .i64 a0_1], .slice A1 l1.length c1] w fun e w' => ∃ v0_ : Value, e = .returned (v0_) ∧ Kd.R (Kd.int .i64) 2 w' w.heap.size (fun _ => True) v0_ r ∧ Below w.heap.size w w' := by
 have hu27 := Try.underlying27
 have HR1 := Aq.mk hr1
 have HC1 := Aq.mk hc1
 clear hr1 hc1
 have HB := Aq.mk (Below.refl w.heap.size w)
 have H : (impl_Field_annihilator.l0 k (([1] : List Int)) l1 (l1.length : Int) 0 a0_0 a0_1) = some r := h
 clear h
 obtain ⟨y432, hy432⟩ : ∃ y_ : List Int, y_ = (([1] : List Int)) := ⟨_, rfl⟩
 replace H : (impl_Field_annihilator.l0 k y432 l1 (l1.length : Int) 0 a0_0 a0_1) = some r := by first | (rw [hy432]; with_reducible exact H) | (have H2_ := (Option.bind_some _ _).symm.trans H; rw [hy432]; with_reducible exact H2_) | (have H2_ := (Option.bind_some _ _).symm.trans H; with_reducible exact H2_) | with_reducible exact H | (rw [hy432]; exact H) | exact H
 have Ny432 := Aq.mk hy432
 clear hy432
 replace H' := Aq.mk H
 clear H
 go_enter Try.func37, Try.ntmps37
 go_wp2_with (first | ((with_reducible refine gQd (N := 2) rfl ?_); refine xQe ?hg (N := 2) ?hd (cs := #[.int .i64 a0_0, .int .i64 a0_1]) (t := 27) ?hr ?_; (case hd => rfl); (case hg => rfl); (case hr => exact tH); intro gb431 hg w3 hbox hb; refine qM4 (bQT tB hb) hbox (tZ w hg) (tZ w hg) ?_; clear HB; intro HB BK431 GW431 GE431; clear hb hbox hg) | ((with_reducible refine gQd (N := 9) rfl ?_); refine Kd.R_lit (Kd.int .i64) _ 2 ?hg (N := 9) ?hd (xs := ([1] : List Int)) (inner := [.int .i64 1]) (ok := fun _ => True) (okp := fun _ => True) ?hr ?hp (fun _ hk => hk) trivial (Below.refl _ _) (Nat.le_refl _) (by simp) ?_; (case hd => rfl); (case hg => rfl); (case hr => exact tH); (case hp => exact (Reps.one (show Kd.M (Kd.int .i64) _ _ _ 1 [.int .i64 1] from rfl) (Reps.none _ _))); intro v433 w4 ho5 hb hg_ hnew_; clear hg_ hnew_; (first | rw [← Ny432.out] at ho5 | (simp only [Int.reduceToNat] at ho5; rw [← Ny432.out] at ho5)); refine qM3 (Kd.R_lower ho5 (bQZ tB)) (tQ BK431.out hb) (bQT tB hb) ?_; clear BK431 HB; intro HO434 BK431 HB; clear hb ho5))
 go_loopg [5, 12] k (fun kq v5 v12 w' => ∃ (x5_1 : List Int) (x12_1 : Int), v12 = .int .i64 x12_1 ∧ Aq (impl_Field_annihilator.l0 kq x5_1 l1 (l1.length : Int) x12_1 a0_0 a0_1 = some r) ∧ Aq (kq ≤ k) ∧ Aq (Kd.R (Kd.int .i64) 2 w' w.heap.size (fun _ => True) v5 x5_1) ∧ Aq (w'.heap[gb431]? = some (.cells #[.int .i64 a0_0, .int .i64 a0_1] 27 (0, 0))) ∧ Aq (Below w.heap.size w w'))
 case atStart => exact ⟨(y432), (0), tS, H', ⟨Nat.le_refl _⟩, ⟨tR HO434.out⟩, ⟨tG BK431.out⟩, ⟨tB⟩⟩
 clear H'
 try clear c1
 obtain ⟨x5_1, x12_1, rfl, HA, HK1, HO_5, BK431, HB⟩ := hrel
 cases gk with
 | zero => exact absurd HA.out (by simp [impl_Field_annihilator.l0])
 | succ k1 =>
  have H := HA.out
  clear HA
  simp only [impl_Field_annihilator.l0] at H
  by_cases c6 : x12_1 < (l1.length : Int)
  rotate_left
  ·rw [if_neg c6] at H
   have c6b0 := decide_eq_false c6
   clear c6
   obtain rfl := Option.some.inj H
   go_wp2
   go_ret
   exact ⟨_, tE, tR HO_5.out, tB⟩
  rw [if_pos c6] at H
  have c6b0 := decide_eq_true c6
  clear c6
  by_cases c7 : 0 ≤ x12_1
  rotate_left
  ·rw [if_neg c7] at H
   exact absurd H (by simp)
  rw [if_pos c7] at H
  have c7b0 := decide_eq_true c7
  clear c7
  by_cases c8 : x12_1 < (l1.length : Int)
  rotate_left
  ·rw [if_neg c8] at H
   exact absurd H (by simp)
  rw [if_pos c8] at H
  have c8b0 := decide_eq_true c8
  clear c8
  obtain ⟨t436, A9, H⟩ := qBd H
  by_cases c10 : t436 = 0
  ·rw [if_pos c10] at H
   have c10b0 := beq_iff_eq.mpr c10
   have c10b1 := bne_eq_false_iff_eq.mpr c10
   clear c10
   replace H' := Aq.mk H
   clear H
   have p435 : 0 ≤ (x12_1 : Int) := of_decide_eq_true tA
   have q435 : x12_1 < (l1.length : Int) := of_decide_eq_true tA
   obtain ⟨ad435, e435, hx435_0⟩ := Kd.at_int HR1.out x12_1 p435 q435
   cases e435
   replace hx435_0 := (HB.out.cell (World.block_lt_of_cell? w _ hx435_0)).trans hx435_0
   replace p435 := eq_true p435
   replace q435 := eq_true q435
   have hcz11_0 : wr.cell? ⟨gb431, 0, none⟩ = some (.int .i64 a0_0) := (kQC BK431.out 0).trans rfl
   have hcz11_1 : wr.cell? ⟨gb431, 1, none⟩ = some (.int .i64 a0_1) := (kQC BK431.out 1).trans rfl
   have hfz11_0 := kQF BK431.out 0
   have hfz11_1 := kQF BK431.out 1
   obtain ⟨Ao12, co12, eo12⟩ := Kd.R_slice HO_5.out
   subst eo12
   go_wp2_with (first | ((with_reducible refine gQc (f := 62) rfl ?_); refine goesL_ (some 19) rfl rfl Try.func62 (by kernel_rfl) rfl #[.agg #[.int .i64 a0_0, .int .i64 a0_1], .slice Ao12 x5_1.length co12, .int .i64 (rd l1 x12_1)] rfl tL ?_; (with_reducible refine (impl_Field_value.calls k1 a0_0 a0_1 _ _ x5_1 (rd l1 x12_1) t436 _ ?s1 ?s2 A9.out).mono ?_); (case s1 => exact tC ((Kd.R_reads' HO_5.out).2.2)); (case s2 => exact (Kd.R_reads' HO_5.out).2.1); rintro e w13 ⟨rfl, hb⟩; refine ⟨_, rfl, ?_⟩; refine qM3 (Kd.R_below (tR HO_5.out) hb) (tQ BK431.out hb) (bQT tB hb) ?_; clear HO_5 BK431 HB; intro HO_5 BK431 HB; (try clear hb); (try clear hb2); (try clear hk); (try clear hi)))
   go_roundg k1
   case measure => have := HK1.out; omega
   case rel => exact ⟨(x5_1), (wrap64 (x12_1 + 1)), tS, H', ⟨by have := HK1.out; omega⟩, ⟨tR HO_5.out⟩, ⟨tG BK431.out⟩, ⟨tB⟩⟩
  rw [if_neg c10] at H
  have c10b0 := beq_eq_false_iff_ne.mpr c10
  have c10b1 := bne_iff_ne.mpr c10
  obtain ⟨y437, hy437⟩ : ∃ y_ : List Int, y_ = (([t436, 1] : List Int)) := ⟨_, rfl⟩
  replace H : ((impl_Field_compose.f k1 a0_0 a0_1 y437 x5_1).bind fun t440 => (impl_Field_annihilator.l0 k1 t440 l1 (l1.length : Int) (wrap64 (x12_1 + 1)) a0_0 a0_1)) = some r := by first | (rw [hy437]; with_reducible exact H) | (have H2_ := (Option.bind_some _ _).symm.trans H; rw [hy437]; with_reducible exact H2_) | (have H2_ := (Option.bind_some _ _).symm.trans H; with_reducible exact H2_) | with_reducible exact H | (rw [hy437]; exact H) | exact H
  have Ny437 := Aq.mk hy437
  clear hy437
  obtain ⟨t440, A14, H⟩ := qBd H
  replace H' := Aq.mk H
  clear H
  have p435 : 0 ≤ (x12_1 : Int) := of_decide_eq_true tA
  have q435 : x12_1 < (l1.length : Int) := of_decide_eq_true tA
  obtain ⟨ad435, e435, hx435_0⟩ := Kd.at_int HR1.out x12_1 p435 q435
  cases e435
  replace hx435_0 := (HB.out.cell (World.block_lt_of_cell? w _ hx435_0)).trans hx435_0
  replace p435 := eq_true p435
  replace q435 := eq_true q435
  have hcz15_0 : wr.cell? ⟨gb431, 0, none⟩ = some (.int .i64 a0_0) := (kQC BK431.out 0).trans rfl
  have hcz15_1 : wr.cell? ⟨gb431, 1, none⟩ = some (.int .i64 a0_1) := (kQC BK431.out 1).trans rfl
  have hfz15_0 := kQF BK431.out 0
  have hfz15_1 := kQF BK431.out 1
  obtain ⟨Ao16, co16, eo16⟩ := Kd.R_slice HO_5.out
  subst eo16
  go_wp2_with (first | ((with_reducible refine gQc (f := 62) rfl ?_); refine goesL_ (some 19) rfl rfl Try.func62 (by kernel_rfl) rfl #[.agg #[.int .i64 a0_0, .int .i64 a0_1], .slice Ao16 x5_1.length co16, .int .i64 (rd l1 x12_1)] rfl tL ?_; (with_reducible refine (impl_Field_value.calls k1 a0_0 a0_1 _ _ x5_1 (rd l1 x12_1) t436 _ ?s1 ?s2 A9.out).mono ?_); (case s1 => exact tC ((Kd.R_reads' HO_5.out).2.2)); (case s2 => exact (Kd.R_reads' HO_5.out).2.1); rintro e w17 ⟨rfl, hb⟩; refine ⟨_, rfl, ?_⟩; refine qM3 (Kd.R_below (tR HO_5.out) hb) (tQ BK431.out hb) (bQT tB hb) ?_; clear HO_5 BK431 HB; intro HO_5 BK431 HB; (try clear hb); (try clear hb2); (try clear hk); (try clear hi); have hcz18_0 : w17.cell? ⟨gb431, 0, none⟩ = some (.int .i64 a0_0) := (kQC BK431.out 0).trans rfl; have hcz18_1 : w17.cell? ⟨gb431, 1, none⟩ = some (.int .i64 a0_1) := (kQC BK431.out 1).trans rfl; have hfz18_0 := kQF BK431.out 0; have hfz18_1 := kQF BK431.out 1) | ((with_reducible refine gQd (N := 24) rfl ?_); refine Kd.R_lit (Kd.int .i64) _ 2 ?hg (N := 24) ?hd (xs := ([t436, 1] : List Int)) (inner := [.int .i64 t436, .int .i64 1]) (ok := fun _ => True) (okp := fun _ => True) ?hr ?hp (fun _ hk => hk) trivial (Below.refl _ _) (Nat.le_refl _) (by simp) ?_; (case hd => rfl); (case hg => rfl); (case hr => exact tH); (case hp => exact (Reps.one (show Kd.M (Kd.int .i64) _ _ _ t436 [.int .i64 t436] from rfl) (Reps.one (show Kd.M (Kd.int .i64) _ _ _ 1 [.int .i64 1] from rfl) (Reps.none _ _)))); intro v438 w19 ho20 hb hg_ hnew_; clear hg_ hnew_; (first | rw [← Ny437.out] at ho20 | (simp only [Int.reduceToNat] at ho20; rw [← Ny437.out] at ho20)); refine qM4 (Kd.R_elder' (tR HO_5.out) (Kd.R_base ho20) hb) (Kd.R_lower (Kd.R_new' ho20 (Kd.R_lt (tR HO_5.out))) (bQZ tB)) (tQ BK431.out hb) (bQT tB hb) ?_; clear HO_5 BK431 HB; intro HO_5 HO439 BK431 HB; clear hb ho20; obtain ⟨Ao21, co21, eo21⟩ := Kd.R_slice HO439.out; subst eo21) | ((with_reducible refine gQc (f := 33) rfl ?_); refine goesL_ (some 26) rfl rfl Try.func33 (by kernel_rfl) rfl #[.agg #[.int .i64 a0_0, .int .i64 a0_1], .slice Ao21 y437.length co21, .slice Ao16 x5_1.length co16] rfl tL ?_; (with_reducible refine (impl_Field_compose.calls k1 a0_0 a0_1 _ _ y437 _ _ x5_1 t440 _ ?s1 ?s2 ?s3 ?s4 A14.out).mono ?_); (case s1 => exact tC ((Kd.R_reads' HO439.out).2.2)); (case s2 => exact (Kd.R_reads' HO439.out).2.1); (case s3 => exact tC ((Kd.R_reads' HO_5.out).2.2)); (case s4 => exact (Kd.R_reads' HO_5.out).2.1); rintro e w22 ⟨v441, rfl, ho0, hb⟩; refine ⟨_, rfl, ?_⟩; refine qM5 (Kd.R_elder' (tR HO_5.out) (Kd.R_base ho0) hb) (Kd.R_elder' (tR HO439.out) (Kd.R_base ho0) hb) (Kd.R_lower (Kd.R_new' (Kd.R_new' ho0 (Kd.R_lt (tR HO_5.out))) (Kd.R_lt (tR HO439.out))) (bQZ tB)) (tQ BK431.out hb) (bQT tB hb) ?_; clear HO_5 HO439 BK431 HB; intro HO_5 HO439 HO442 BK431 HB; (try clear hb); (try clear hb2); (try clear hk); (try clear hi); (try clear ho0)))
  go_roundg k1
  case measure => have := HK1.out; omega
  case rel => exact ⟨(t440), (wrap64 (x12_1 + 1)), tS, H', ⟨by have := HK1.out; omega⟩, ⟨by (with_reducible repeat (first | apply Kd.RqA | apply Kd.RqN | apply Kd.RqD)); exact Kd.R_mono HO442.out (fun _ hk => trivial)⟩, ⟨tG BK431.out⟩, ⟨tB⟩⟩
def impl_AnnihilatorOf.f (k : Nat) (a0_0 : Int) (a0_1 : Int) (l1 : List Int) : Option (List Int × Int) := (impl_Field_code.f k a0_0 a0_1 true l1).bind fun t444 => (if t444 = 0 then ((impl_Field_annihilator.f k a0_0 a0_1 l1).bind fun t445 => (some (t445, 0))) else (some (([] : List Int), t444)))
theorem impl_AnnihilatorOf.mono : ∀ a0 a1 a2 k, LeO (impl_AnnihilatorOf.f k a0 a1 a2) (impl_AnnihilatorOf.f (k + 1) a0 a1 a2) := by
 intro a0 a1 a2 k
 unfold impl_AnnihilatorOf.f
 repeat' first
  | (with_reducible first | apply impl_Field_annihilator.mono | apply impl_Field_code.mono | exact LeO.refl _ | exact LeO.none _ | refine LeO.ite ?_ ?_ | refine LeO.bind ?_ (fun _ => ?_))
  | exact LeO.none _
  | refine LeO.ite ?_ ?_
  | refine LeO.bind ?_ (fun _ => ?_)
theorem impl_AnnihilatorOf.calls (k : Nat) (a0_0 : Int) (a0_1 : Int) (A1 : Option Addr) (c1 : Nat) (l1 : List Int) (r1 : List Int) (r2 : Int) (w : World) (hr1 : Kd.C (Kd.int .i64) w A1 l1.length l1) (hc1 : l1.length ≤ c1) (h : impl_AnnihilatorOf.f k a0_0 a0_1 l1 = some (r1, r2)) :
 Calls Try.prog 17 #[.agg #[.int .i64 a0_0, .int .i64 a0_1], .slice A1 l1.length c1] w fun e w' => ∃ v0_ : Value, e = .returned (.tuple #[v0_, .int .i64 r2]) ∧ Kd.R (Kd.int .i64) 2 w' w.heap.size (fun _ => True) v0_ r1 ∧ Below w.heap.size w w' := by
 have hu27 := Try.underlying27
 have HR1 := Aq.mk hr1
 have HC1 := Aq.mk hc1
 clear hr1 hc1
 have HB := Aq.mk (Below.refl w.heap.size w)
 have H : ((impl_Field_code.f k a0_0 a0_1 true l1).bind fun t444 => (if t444 = 0 then ((impl_Field_annihilator.f k a0_0 a0_1 l1).bind fun t445 => (some (t445, 0))) else (some (([] : List Int), t444)))) = some (r1, r2) := h
 clear h
 obtain ⟨t444, A3, H⟩ := qBd H
 by_cases c4 : t444 = 0
 rotate_left
 ·rw [if_neg c4] at H
  have c4b0 := beq_eq_false_iff_ne.mpr c4
  have c4b1 := bne_iff_ne.mpr c4
  simp only [Option.some.injEq, Prod.mk.injEq] at H
  obtain ⟨rfl, rfl⟩ := H
  go_enter Try.func17, Try.ntmps17
  go_wp2_with (first | ((with_reducible refine gQd (N := 2) rfl ?_); refine xQe ?hg (N := 2) ?hd (cs := #[.int .i64 a0_0, .int .i64 a0_1]) (t := 27) ?hr ?_; (case hd => rfl); (case hg => rfl); (case hr => exact tH); intro gb443 hg w11 hbox hb; refine qM4 (bQT tB hb) hbox (tZ w hg) (tZ w hg) ?_; clear HB; intro HB BK443 GW443 GE443; clear hb hbox hg; have hcz12_0 : w11.cell? ⟨gb443, 0, none⟩ = some (.int .i64 a0_0) := (kQC BK443.out 0).trans rfl; have hcz12_1 : w11.cell? ⟨gb443, 1, none⟩ = some (.int .i64 a0_1) := (kQC BK443.out 1).trans rfl; have hfz12_0 := kQF BK443.out 0; have hfz12_1 := kQF BK443.out 1) | ((with_reducible refine gQc (f := 36) rfl ?_); refine goesL_ (some 9) rfl rfl Try.func36 (by kernel_rfl) rfl #[.agg #[.int .i64 a0_0, .int .i64 a0_1], .bool true, .slice A1 l1.length c1] rfl tL ?_; (with_reducible refine (impl_Field_code.calls k a0_0 a0_1 true _ _ l1 t444 _ ?s1 ?s2 A3.out).mono ?_); (case s1 => exact tC ((Kd.C_below HR1.out HB.out))); (case s2 => exact HC1.out); rintro e w13 ⟨rfl, hb⟩; refine ⟨_, rfl, ?_⟩; refine qM2 (tQ BK443.out hb) (bQT tB hb) ?_; clear BK443 HB; intro BK443 HB; (try clear hb); (try clear hb2); (try clear hk); (try clear hi)))
  go_ret2
  exact ⟨_, tE, by first | exact Kd.R_nil _ _ _ _ _ | exact Kd.N_nil _ _ _ _ _ | exact Kd.V_nil _ _ _ _ _ | exact Kd.Q_nil _ _ _ _ _ | exact Kd.S_nil _ _ _ _ _, tB⟩
 rw [if_pos c4] at H
 have c4b0 := beq_iff_eq.mpr c4
 have c4b1 := bne_eq_false_iff_eq.mpr c4
 clear c4
 obtain ⟨t445, A5, H⟩ := qBd H
 simp only [Option.some.injEq, Prod.mk.injEq] at H
 obtain ⟨rfl, rfl⟩ := H
 go_enter Try.func17, Try.ntmps17
 go_wp2_with (first | ((with_reducible refine gQd (N := 2) rfl ?_); refine xQe ?hg (N := 2) ?hd (cs := #[.int .i64 a0_0, .int .i64 a0_1]) (t := 27) ?hr ?_; (case hd => rfl); (case hg => rfl); (case hr => exact tH); intro gb443 hg w6 hbox hb; refine qM4 (bQT tB hb) hbox (tZ w hg) (tZ w hg) ?_; clear HB; intro HB BK443 GW443 GE443; clear hb hbox hg; have hcz7_0 : w6.cell? ⟨gb443, 0, none⟩ = some (.int .i64 a0_0) := (kQC BK443.out 0).trans rfl; have hcz7_1 : w6.cell? ⟨gb443, 1, none⟩ = some (.int .i64 a0_1) := (kQC BK443.out 1).trans rfl; have hfz7_0 := kQF BK443.out 0; have hfz7_1 := kQF BK443.out 1) | ((with_reducible refine gQc (f := 36) rfl ?_); refine goesL_ (some 9) rfl rfl Try.func36 (by kernel_rfl) rfl #[.agg #[.int .i64 a0_0, .int .i64 a0_1], .bool true, .slice A1 l1.length c1] rfl tL ?_; (with_reducible refine (impl_Field_code.calls k a0_0 a0_1 true _ _ l1 t444 _ ?s1 ?s2 A3.out).mono ?_); (case s1 => exact tC ((Kd.C_below HR1.out HB.out))); (case s2 => exact HC1.out); rintro e w8 ⟨rfl, hb⟩; refine ⟨_, rfl, ?_⟩; refine qM2 (tQ BK443.out hb) (bQT tB hb) ?_; clear BK443 HB; intro BK443 HB; (try clear hb); (try clear hb2); (try clear hk); (try clear hi); have hcz9_0 : w8.cell? ⟨gb443, 0, none⟩ = some (.int .i64 a0_0) := (kQC BK443.out 0).trans rfl; have hcz9_1 : w8.cell? ⟨gb443, 1, none⟩ = some (.int .i64 a0_1) := (kQC BK443.out 1).trans rfl; have hfz9_0 := kQF BK443.out 0; have hfz9_1 := kQF BK443.out 1) | ((with_reducible refine gQc (f := 37) rfl ?_); refine goesL_ (some 15) rfl rfl Try.func37 (by kernel_rfl) rfl #[.agg #[.int .i64 a0_0, .int .i64 a0_1], .slice A1 l1.length c1] rfl tL ?_; (with_reducible refine (impl_Field_annihilator.calls k a0_0 a0_1 _ _ l1 t445 _ ?s1 ?s2 A5.out).mono ?_); (case s1 => exact tC ((Kd.C_below HR1.out HB.out))); (case s2 => exact HC1.out); rintro e w10 ⟨v446, rfl, ho0, hb⟩; refine ⟨_, rfl, ?_⟩; refine qM3 (Kd.R_lower ho0 (bQZ tB)) (tQ BK443.out hb) (bQT tB hb) ?_; clear BK443 HB; intro HO447 BK443 HB; (try clear hb); (try clear hb2); (try clear hk); (try clear hi); (try clear ho0)))
 go_ret2
 exact ⟨_, tE, tR HO447.out, tB⟩
end Go.Proofs.Ytpigghpimgkilaa.P
