/- Functions of the program and what they tell, as the printing program wrote it. -/
import Derived.Test.YthjfilmdobkmlaaPx0
namespace Go.Proofs.Ythjfilmdobkmlaa.P
open Go.Shelf Go.RowKit Go.Proofs.YthjfilmdobkmlaaW.PrintWords Go.Proofs.YthjfilmdobkmlaaW.PrintLast Go.Proofs.YthjfilmdobkmlaaW.PrintMore
attribute [local go_sem] max2_int min2_int max_two min_two max_three min_three max_four min_four
set_option linter.unusedVariables false
set_option linter.unusedSimpArgs false
set_option maxHeartbeats 8000000
set_option maxRecDepth 100000
def impl_sumOf.l0 : Nat → Int → Int → List Int → Int → Int → Option (Int)
  | 0, _, _, _, _, _ => none
  | k + 1, x1, x5, x8, x9, x10 => if x10 < x9 then (if 0 ≤ x10 then (if x10 < (x8.length : Int) then (if (Go.bits .and .i64 (shr .i64 x1 x10) 1) = 1 then (impl_sumOf.l0 k x1 (Go.bits .xor .i64 x5 (rd x8 x10)) x8 x9 (wrap64 (x10 + 1))) else (impl_sumOf.l0 k x1 x5 x8 x9 (wrap64 (x10 + 1)))) else (none)) else (none)) else (some x5)
def impl_sumOf.f (k : Nat) (l0 : List Int) (a1 : Int) : Option (Int) := impl_sumOf.l0 k a1 0 l0 (l0.length : Int) 0
theorem impl_sumOf.mono_l : ∀ k, (∀ y0 y1 y2 y3 y4, LeO (impl_sumOf.l0 k y0 y1 y2 y3 y4) (impl_sumOf.l0 (k + 1) y0 y1 y2 y3 y4))
 | 0 => fun _ _ _ _ _ r h => by simp [impl_sumOf.l0] at h
 | k + 1 => by
  have ih0 := impl_sumOf.mono_l k
  ·intro y0 y1 y2 y3 y4
   unfold impl_sumOf.l0
   repeat' first
   | (with_reducible first | apply ih0 | exact LeO.refl _ | exact LeO.none _ | refine LeO.ite ?_ ?_ | refine LeO.bind ?_ (fun _ => ?_))
   | exact LeO.none _
   | refine LeO.ite ?_ ?_
   | refine LeO.bind ?_ (fun _ => ?_)
theorem impl_sumOf.mono : ∀ a0 a1 k, LeO (impl_sumOf.f k a0 a1) (impl_sumOf.f (k + 1) a0 a1) := by
 intro a0 a1 k
 have ih0 := impl_sumOf.mono_l k
 unfold impl_sumOf.f
 repeat' first
  | (with_reducible first | apply ih0 | exact LeO.refl _ | exact LeO.none _ | refine LeO.ite ?_ ?_ | refine LeO.bind ?_ (fun _ => ?_))
  | exact LeO.none _
  | refine LeO.ite ?_ ?_
  | refine LeO.bind ?_ (fun _ => ?_)
theorem impl_sumOf.calls (k : Nat) (A0 : Option Addr) (c0 : Nat) (l0 : List Int) (a1 : Int) (r : Int) (w : World) (hr0 : Kd.C (Kd.int .i64) w A0 l0.length l0) (hc0 : l0.length ≤ c0) (h : impl_sumOf.f k l0 a1 = some r) :
 Calls Try.prog 50 #[.slice A0 l0.length c0, .int .i64 a1] w fun e w' => e = .returned (.int .i64 r) ∧ Dq w w' := by
 have HR0 := Aq.mk hr0
 have HC0 := Aq.mk hc0
 clear hr0 hc0
 have H : (impl_sumOf.l0 k a1 0 l0 (l0.length : Int) 0) = some r := h
 clear h
 replace H' := Aq.mk H
 clear H
 go_enter Try.func50, Try.ntmps50
 go_wp2
 go_loopg [5, 10] k (fun kq v5 v10 w' => ∃ (x5_1 : Int) (x10_1 : Int), v5 = .int .i64 x5_1 ∧ v10 = .int .i64 x10_1 ∧ Aq (impl_sumOf.l0 kq a1 x5_1 l0 (l0.length : Int) x10_1 = some r) ∧ Aq (kq ≤ k) ∧ Dq w w')
 case atStart => exact ⟨(0), (0), tS, tS, H', ⟨Nat.le_refl _⟩, tD⟩
 clear H'
 obtain ⟨x5_1, x10_1, rfl, rfl, HA, HK1, ⟨m1, rfl⟩⟩ := hrel
 cases gk with
 | zero => exact absurd HA.out (by simp [impl_sumOf.l0])
 | succ k1 =>
  have H := HA.out
  clear HA
  simp only [impl_sumOf.l0] at H
  by_cases c3 : x10_1 < (l0.length : Int)
  rotate_left
  ·rw [if_neg c3] at H
   have c3b0 := decide_eq_false c3
   clear c3
   obtain rfl := Option.some.inj H
   go_wp2
   go_ret
   exact ⟨tS, tD⟩
  rw [if_pos c3] at H
  have c3b0 := decide_eq_true c3
  clear c3
  by_cases c4 : 0 ≤ x10_1
  rotate_left
  ·rw [if_neg c4] at H
   exact absurd H (by simp)
  rw [if_pos c4] at H
  have c4b0 := decide_eq_true c4
  clear c4
  by_cases c5 : x10_1 < (l0.length : Int)
  rotate_left
  ·rw [if_neg c5] at H
   exact absurd H (by simp)
  rw [if_pos c5] at H
  have c5b0 := decide_eq_true c5
  clear c5
  have c6b0 := eq_true (of_decide_eq_true tA : 0 ≤ x10_1)
  obtain ⟨ji7, hji7⟩ : ∃ j_ : Int, (shr .i64 a1 x10_1) = j_ := ⟨_, rfl⟩
  first | rw [hji7] at H | simp only [hji7] at H | skip
  have hji7_ : (a1 / 2 ^ min x10_1.toNat 64) = ji7 := hji7
  have hji7z : x10_1 ≤ 64 → (a1 / 2 ^ x10_1.toNat) = ji7 := shr_small hji7
  by_cases c8 : (Go.bits .and .i64 (ji7) 1) = 1
  ·rw [if_pos c8] at H
   have c8b0 := beq_iff_eq.mpr c8
   have c8b1 := bne_eq_false_iff_eq.mpr c8
   clear c8
   replace H' := Aq.mk H
   clear H
   have p263 : 0 ≤ (x10_1 : Int) := of_decide_eq_true tA
   have q263 : x10_1 < (l0.length : Int) := of_decide_eq_true tA
   obtain ⟨ad263, e263, hx263_0⟩ := Kd.at_int HR0.out x10_1 p263 q263
   cases e263
   replace p263 := eq_true p263
   replace q263 := eq_true q263
   go_wp2
   go_roundg k1
   case measure => have := HK1.out; omega
   case rel => exact ⟨(Go.bits .xor .i64 x5_1 (rd l0 x10_1)), (wrap64 (x10_1 + 1)), tS, tS, H', ⟨by have := HK1.out; omega⟩, tD⟩
  rw [if_neg c8] at H
  have c8b0 := beq_eq_false_iff_ne.mpr c8
  have c8b1 := bne_iff_ne.mpr c8
  replace H' := Aq.mk H
  clear H
  have p263 : 0 ≤ (x10_1 : Int) := of_decide_eq_true tA
  have q263 : x10_1 < (l0.length : Int) := of_decide_eq_true tA
  obtain ⟨ad263, e263, hx263_0⟩ := Kd.at_int HR0.out x10_1 p263 q263
  cases e263
  replace p263 := eq_true p263
  replace q263 := eq_true q263
  go_wp2
  go_roundg k1
  case measure => have := HK1.out; omega
  case rel => exact ⟨(x5_1), (wrap64 (x10_1 + 1)), tS, tS, H', ⟨by have := HK1.out; omega⟩, tD⟩
def impl_Matrix_mul.l0 : Nat → List Int → Int → Int → Int → List Int → Int → List Int → Option (Int × List Int)
  | 0, _, _, _, _, _, _, _ => none
  | k + 1, x12, x13, x14, x301000, x301001, x303000, x303001 => if x14 < x13 then (if 0 ≤ x14 then (if x14 < (x12.length : Int) then ((impl_sumOf.f k x301001 (rd x12 x14)).bind fun t304 => (if x303001.length < 17592186044416 then (impl_Matrix_mul.l0 k x12 x13 (wrap64 (x14 + 1)) x301000 x301001 x303000 (x303001 ++ [t304])) else (none))) else (none)) else (none)) else (some (x303000, x303001))
def impl_Matrix_mul.f (k : Nat) (a0_0 : Int) (l0_1 : List Int) (a1_0 : Int) (l1_1 : List Int) : Option (Int × List Int) := impl_Matrix_mul.l0 k l0_1 (l0_1.length : Int) 0 a1_0 l1_1 a1_0 ([] : List Int)
theorem impl_Matrix_mul.mono_l : ∀ k, (∀ y0 y1 y2 y3 y4 y5 y6, LeO (impl_Matrix_mul.l0 k y0 y1 y2 y3 y4 y5 y6) (impl_Matrix_mul.l0 (k + 1) y0 y1 y2 y3 y4 y5 y6))
 | 0 => fun _ _ _ _ _ _ _ r h => by simp [impl_Matrix_mul.l0] at h
 | k + 1 => by
  have ih0 := impl_Matrix_mul.mono_l k
  ·intro y0 y1 y2 y3 y4 y5 y6
   unfold impl_Matrix_mul.l0
   repeat' first
   | (with_reducible first | apply ih0 | apply impl_sumOf.mono | exact LeO.refl _ | exact LeO.none _ | refine LeO.ite ?_ ?_ | refine LeO.bind ?_ (fun _ => ?_))
   | exact LeO.none _
   | refine LeO.ite ?_ ?_
   | refine LeO.bind ?_ (fun _ => ?_)
theorem impl_Matrix_mul.mono : ∀ a0 a1 a2 a3 k, LeO (impl_Matrix_mul.f k a0 a1 a2 a3) (impl_Matrix_mul.f (k + 1) a0 a1 a2 a3) := by
 intro a0 a1 a2 a3 k
 have ih0 := impl_Matrix_mul.mono_l k
 unfold impl_Matrix_mul.f
 repeat' first
  | (with_reducible first | apply ih0 | apply impl_sumOf.mono | exact LeO.refl _ | exact LeO.none _ | refine LeO.ite ?_ ?_ | refine LeO.bind ?_ (fun _ => ?_))
  | exact LeO.none _
  | refine LeO.ite ?_ ?_
  | refine LeO.bind ?_ (fun _ => ?_)
def impl_Matrix_mul.T5 : Bool × List (List Nat × List Nat) := (true, [([], []), ([0], [0]), ([], []), ([2], [2]), ([], []), ([3, 4], [3, 4]), ([5], [5]), ([1, 6, 5], [1, 6]), ([0, 1, 2, 3, 4, 5, 6, 7], []), ([8, 7, 7, 0, 1, 2, 3, 4, 5, 6, 7], [7, 8])])
def impl_Matrix_mul.B5 : List Nat := [0, 1, 0, 4, 0, 28, 60, 127, 255, 511]
theorem impl_Matrix_mul.tab5 : rtab .any (opsOf Try.f54 5) = impl_Matrix_mul.T5 := by kernel_rfl
theorem impl_Matrix_mul.bits5 : waitsOk impl_Matrix_mul.T5.2 impl_Matrix_mul.B5 = true := by kernel_rfl
theorem impl_Matrix_mul.calls (k : Nat) (a0_0 : Int) (A0_1 : Option Addr) (c0_1 : Nat) (l0_1 : List Int) (a1_0 : Int) (A1_1 : Option Addr) (c1_1 : Nat) (l1_1 : List Int) (r1 : Int) (r2 : List Int) (w : World) (hr0_1 : Kd.C (Kd.int .i64) w A0_1 l0_1.length l0_1) (hc0_1 : l0_1.length ≤ c0_1) (hr1_1 : Kd.C (Kd.int .i64) w A1_1 l1_1.length l1_1) (hc1_1 : l1_1.length ≤ c1_1) (h : impl_Matrix_mul.f k a0_0 l0_1 a1_0 l1_1 = some (r1, r2)) :
 Calls Try.prog 54 #[.agg #[.int .i64 a0_0, .slice A0_1 l0_1.length c0_1], .agg #[.int .i64 a1_0, .slice A1_1 l1_1.length c1_1]] w fun e w' => ∃ v1_ : Value, e = .returned (.agg #[.int .i64 r1, v1_]) ∧ Kd.R (Kd.int .i64) 2 w' w.heap.size (fun _ => True) v1_ r2 ∧ Below w.heap.size w w' := by
 have hu27 := Try.underlying27
 have HR0_1 := Aq.mk hr0_1
 have HC0_1 := Aq.mk hc0_1
 clear hr0_1 hc0_1
 have HR1_1 := Aq.mk hr1_1
 have HC1_1 := Aq.mk hc1_1
 clear hr1_1 hc1_1
 have HB := Aq.mk (Below.refl w.heap.size w)
 have H : (impl_Matrix_mul.l0 k l0_1 (l0_1.length : Int) 0 a1_0 l1_1 a1_0 ([] : List Int)) = some (r1, r2) := h
 clear h
 replace H' := Aq.mk H
 clear H
 go_enter Try.func54, Try.ntmps54
 go_wp2_with (first | ((with_reducible refine gQd (N := 2) rfl ?_); refine xQe ?hg (N := 2) ?hd (cs := #[.int .i64 a0_0, .slice A0_1 l0_1.length c0_1]) (t := 27) ?hr ?_; (case hd => rfl); (case hg => rfl); (case hr => exact tH); intro gb299 hg w3 hbox hb; refine qM4 (bQT tB hb) hbox (tZ w hg) (tZ w hg) ?_; clear HB; intro HB BK299 GW299 GE299; clear hb hbox hg) | ((with_reducible refine gQd (N := 3) rfl ?_); refine xQe ?hg (N := 3) ?hd (cs := #[.int .i64 a1_0, .slice A1_1 l1_1.length c1_1]) (t := 27) ?hr ?_; (case hd => rfl); (case hg => rfl); (case hr => exact tH); intro gb300 hg w4 hbox hb; refine qM7 (tQ BK299.out hb) (bQT tB hb) hbox (tZ w hg) (tZ w hg) ((by rw [hg]; exact Nat.ne_of_lt (blk_lt (g := gb299) (o := .cells #[.int .i64 a0_0, .slice A0_1 l0_1.length c0_1] 27 (0, 0)) (tG BK299.out)) : gb299 ≠ gb300)) ((by rw [hg]; exact Nat.ne_of_gt (blk_lt (g := gb299) (o := .cells #[.int .i64 a0_0, .slice A0_1 l0_1.length c0_1] 27 (0, 0)) (tG BK299.out)) : gb300 ≠ gb299)) ?_; clear BK299 HB; intro BK299 HB BK300 GW300 GE300 NB299_300 NB300_299; clear hb hbox hg) | ((with_reducible refine gQd (N := 4) rfl ?_); refine xQe ?hg (N := 4) ?hd (cs := #[.int .i64 0, .slice none 0 0]) (t := 27) ?hr ?_; (case hd => rfl); (case hg => rfl); (case hr => exact tH); intro gb301 hg w5 hbox hb; refine qM10 (tQ BK299.out hb) (tQ BK300.out hb) (bQT tB hb) hbox (tZ w hg) (tZ w hg) ((by rw [hg]; exact Nat.ne_of_lt (blk_lt (g := gb299) (o := .cells #[.int .i64 a0_0, .slice A0_1 l0_1.length c0_1] 27 (0, 0)) (tG BK299.out)) : gb299 ≠ gb301)) ((by rw [hg]; exact Nat.ne_of_gt (blk_lt (g := gb299) (o := .cells #[.int .i64 a0_0, .slice A0_1 l0_1.length c0_1] 27 (0, 0)) (tG BK299.out)) : gb301 ≠ gb299)) ((by rw [hg]; exact Nat.ne_of_lt (blk_lt (g := gb300) (o := .cells #[.int .i64 a1_0, .slice A1_1 l1_1.length c1_1] 27 (0, 0)) (tG BK300.out)) : gb300 ≠ gb301)) ((by rw [hg]; exact Nat.ne_of_gt (blk_lt (g := gb300) (o := .cells #[.int .i64 a1_0, .slice A1_1 l1_1.length c1_1] 27 (0, 0)) (tG BK300.out)) : gb301 ≠ gb300)) ?_; clear BK299 BK300 HB; intro BK299 BK300 HB BK301 GW301 GE301 NB299_301 NB301_299 NB300_301 NB301_300; clear hb hbox hg; have hnb6 := NB300_299.out; have hnc6 := NB299_300.out; have hnb7 := NB300_301.out; have hnc7 := NB301_300.out; have hcz8_0 : w5.cell? ⟨gb300, 0, none⟩ = some (.int .i64 a1_0) := (kQC BK300.out 0).trans rfl; have hcz8_1 : w5.cell? ⟨gb300, 1, none⟩ = some (.slice A1_1 l1_1.length c1_1) := (kQC BK300.out 1).trans rfl; have hfz8_0 := kQF BK300.out 0; have hfz8_1 := kQF BK300.out 1) | ((with_reducible refine gQd (N := 5) rfl ?_); refine xQe ?hg (N := 5) ?hd (cs := #[.int .i64 0, .slice none 0 0]) (t := 27) ?hr ?_; (case hd => rfl); (case hg => rfl); (case hr => exact tH); intro gb302 hg w9 hbox hb; refine qM13 (tQ BK299.out hb) (tQ BK300.out hb) (tQ BK301.out hb) (bQT tB hb) hbox (tZ w hg) (tZ w hg) ((by rw [hg]; exact Nat.ne_of_lt (blk_lt (g := gb299) (o := .cells #[.int .i64 a0_0, .slice A0_1 l0_1.length c0_1] 27 (0, 0)) (tG BK299.out)) : gb299 ≠ gb302)) ((by rw [hg]; exact Nat.ne_of_gt (blk_lt (g := gb299) (o := .cells #[.int .i64 a0_0, .slice A0_1 l0_1.length c0_1] 27 (0, 0)) (tG BK299.out)) : gb302 ≠ gb299)) ((by rw [hg]; exact Nat.ne_of_lt (blk_lt (g := gb300) (o := .cells #[.int .i64 a1_0, .slice A1_1 l1_1.length c1_1] 27 (0, 0)) (tG BK300.out)) : gb300 ≠ gb302)) ((by rw [hg]; exact Nat.ne_of_gt (blk_lt (g := gb300) (o := .cells #[.int .i64 a1_0, .slice A1_1 l1_1.length c1_1] 27 (0, 0)) (tG BK300.out)) : gb302 ≠ gb300)) ((by rw [hg]; exact Nat.ne_of_lt (blk_lt (g := gb301) (o := .cells #[.int .i64 0, .slice none 0 0] 27 (0, 0)) (tG BK301.out)) : gb301 ≠ gb302)) ((by rw [hg]; exact Nat.ne_of_gt (blk_lt (g := gb301) (o := .cells #[.int .i64 0, .slice none 0 0] 27 (0, 0)) (tG BK301.out)) : gb302 ≠ gb301)) ?_; clear BK299 BK300 BK301 HB; intro BK299 BK300 BK301 HB BK302 GW302 GE302 NB299_302 NB302_299 NB300_302 NB302_300 NB301_302 NB302_301; clear hb hbox hg; have hnb10 := NB302_299.out; have hnc10 := NB299_302.out; have hnb11 := NB302_300.out; have hnc11 := NB300_302.out; have hnb12 := NB302_301.out; have hnc12 := NB301_302.out; have hcz13_0 : w9.cell? ⟨gb302, 0, none⟩ = some (.int .i64 0) := (kQC BK302.out 0).trans rfl; have hcz13_1 : w9.cell? ⟨gb302, 1, none⟩ = some (.slice none 0 0) := (kQC BK302.out 1).trans rfl; have hfz13_0 := kQF BK302.out 0; have hfz13_1 := kQF BK302.out 1; have hnb14 := NB299_301.out; have hnc14 := NB301_299.out; have hcz15_0 : w9.cell? ⟨gb299, 0, none⟩ = some (.int .i64 a0_0) := (kQC BK299.out 0).trans rfl; have hcz15_1 : w9.cell? ⟨gb299, 1, none⟩ = some (.slice A0_1 l0_1.length c0_1) := (kQC BK299.out 1).trans rfl; have hfz15_0 := kQF BK299.out 0; have hfz15_1 := kQF BK299.out 1))
 go_loopg [14] k (fun kq v14 w' => ∃ (x14_1 : Int) (x303001_1 : List Int) (u303001 : Value), v14 = .int .i64 x14_1 ∧ Aq (impl_Matrix_mul.l0 kq l0_1 (l0_1.length : Int) x14_1 a1_0 l1_1 a1_0 x303001_1 = some (r1, r2)) ∧ Aq (kq ≤ k) ∧ Aq (Kd.R (Kd.int .i64) 2 w' w.heap.size (fun _ => True) u303001 x303001_1) ∧ Aq (w'.heap[gb299]? = some (.cells #[.int .i64 a0_0, (.slice A0_1 l0_1.length c0_1)] 27 (0, 0))) ∧ Aq (w'.heap[gb300]? = some (.cells #[.int .i64 a1_0, (.slice A1_1 l1_1.length c1_1)] 27 (0, 0))) ∧ Aq (w'.heap[gb301]? = some (.cells #[.int .i64 0, (.slice none 0 0)] 27 (0, 0))) ∧ Aq (w'.heap[gb302]? = some (.cells #[.int .i64 a1_0, u303001] 27 (0, 0))) ∧ Aq (Below w.heap.size w w'))
 case atStart => exact ⟨(0), (([] : List Int)), (.slice none 0 0), tS, H', ⟨Nat.le_refl _⟩, ⟨by first | exact Kd.R_nil _ _ _ _ _ | exact Kd.N_nil _ _ _ _ _ | exact Kd.V_nil _ _ _ _ _ | exact Kd.Q_nil _ _ _ _ _ | exact Kd.S_nil _ _ _ _ _⟩, ⟨by (with_reducible repeat (first | refine kQN ?_ _ | refine kQD ?_ | refine kQA ?_ _)); refine kQR ?_ NB299_302.out _; (with_reducible repeat (first | refine kQN ?_ _ | refine kQD ?_ | refine kQA ?_ _)); refine kQR ?_ NB299_302.out _; (with_reducible repeat (first | refine kQN ?_ _ | refine kQD ?_ | refine kQA ?_ _)); exact BK299.out⟩, ⟨by (with_reducible repeat (first | refine kQN ?_ _ | refine kQD ?_ | refine kQA ?_ _)); refine kQR ?_ NB300_302.out _; (with_reducible repeat (first | refine kQN ?_ _ | refine kQD ?_ | refine kQA ?_ _)); refine kQR ?_ NB300_302.out _; (with_reducible repeat (first | refine kQN ?_ _ | refine kQD ?_ | refine kQA ?_ _)); exact BK300.out⟩, ⟨by (with_reducible repeat (first | refine kQN ?_ _ | refine kQD ?_ | refine kQA ?_ _)); refine kQR ?_ NB301_302.out _; (with_reducible repeat (first | refine kQN ?_ _ | refine kQD ?_ | refine kQA ?_ _)); refine kQR ?_ NB301_302.out _; (with_reducible repeat (first | refine kQN ?_ _ | refine kQD ?_ | refine kQA ?_ _)); exact BK301.out⟩, ⟨by (with_reducible repeat (first | refine kQN ?_ _ | refine kQD ?_ | refine kQA ?_ _)); refine kQP (cs := #[.int .i64 a1_0, .slice none 0 0]) ?_ 1 _ rfl; (with_reducible repeat (first | refine kQN ?_ _ | refine kQD ?_ | refine kQA ?_ _)); refine kQP (cs := #[.int .i64 0, .slice none 0 0]) ?_ 0 _ rfl; (with_reducible repeat (first | refine kQN ?_ _ | refine kQD ?_ | refine kQA ?_ _)); exact BK302.out⟩, ⟨tB⟩⟩
 clear H'
 try clear hcz13_0
 try clear hcz13_1
 try clear hcz15_0
 try clear hcz15_1
 try clear hcz8_0
 try clear hcz8_1
 try clear hfz13_0
 try clear hfz13_1
 try clear hfz15_0
 try clear hfz15_1
 try clear hfz8_0
 try clear hfz8_1
 obtain ⟨x14_1, x303001_1, u303001, rfl, HA, HK1, HO_303001, BK299, BK300, BK301, BK302, HB⟩ := hrel
 cases gk with
 | zero => exact absurd HA.out (by simp [impl_Matrix_mul.l0])
 | succ k1 =>
  have H := HA.out
  clear HA
  simp only [impl_Matrix_mul.l0] at H
  by_cases c16 : x14_1 < (l0_1.length : Int)
  rotate_left
  ·rw [if_neg c16] at H
   have c16b0 := decide_eq_false c16
   clear c16
   simp only [Option.some.injEq, Prod.mk.injEq] at H
   obtain ⟨rfl, rfl⟩ := H
   have hnb25 := NB302_299.out
   have hnc25 := NB299_302.out
   have hnb26 := NB302_300.out
   have hnc26 := NB300_302.out
   have hnb27 := NB302_301.out
   have hnc27 := NB301_302.out
   have hcz28_0 : wr.cell? ⟨gb302, 0, none⟩ = some (.int .i64 a1_0) := (kQC BK302.out 0).trans rfl
   have hcz28_1 : wr.cell? ⟨gb302, 1, none⟩ = some (u303001) := (kQC BK302.out 1).trans rfl
   have hfz28_0 := kQF BK302.out 0
   have hfz28_1 := kQF BK302.out 1
   have hnb29 := NB301_299.out
   have hnc29 := NB299_301.out
   have hnb30 := NB301_300.out
   have hnc30 := NB300_301.out
   have hcz31_0 : wr.cell? ⟨gb301, 0, none⟩ = some (.int .i64 0) := (kQC BK301.out 0).trans rfl
   have hcz31_1 : wr.cell? ⟨gb301, 1, none⟩ = some (.slice none 0 0) := (kQC BK301.out 1).trans rfl
   have hfz31_0 := kQF BK301.out 0
   have hfz31_1 := kQF BK301.out 1
   obtain ⟨Ao32, co32, eo32⟩ := Kd.R_slice HO_303001.out
   subst eo32
   go_wp2
   refine bodyPost_ret (results_cell_row rfl _ _ gb301 27 #[.int .i64 a1_0, .slice Ao32 x303001_1.length co32] (0, 0) _ rfl (by (with_reducible repeat (first | refine kQN ?_ _ | refine kQD ?_ | refine kQA ?_ _)); refine kQP (cs := #[.int .i64 a1_0, .slice none 0 0]) ?_ 1 _ rfl; (with_reducible repeat (first | refine kQN ?_ _ | refine kQD ?_ | refine kQA ?_ _)); refine kQP (cs := #[.int .i64 0, .slice none 0 0]) ?_ 0 _ rfl; (with_reducible repeat (first | refine kQN ?_ _ | refine kQD ?_ | refine kQA ?_ _)); exact BK301.out) Try.underlying27 rfl (by kernel_rfl)) rfl ?_
   exact ⟨_, tE, by (with_reducible repeat (first | apply Kd.RqA | apply Kd.RqN | apply Kd.RqD)); exact Kd.R_mono (Kd.R_far (p := ⟨gb301, 1, none⟩) (Kd.R_far (p := ⟨gb301, 0, none⟩) (Kd.R_types HO_303001.out BK301.out (by decide)) (fun _ hk => hk.2) (.int .i64 a1_0)) (fun _ hk => hk.2) (.slice Ao32 x303001_1.length co32)) (fun _ hk => trivial), tB⟩
  rw [if_pos c16] at H
  have c16b0 := decide_eq_true c16
  clear c16
  by_cases c17 : 0 ≤ x14_1
  rotate_left
  ·rw [if_neg c17] at H
   exact absurd H (by simp)
  rw [if_pos c17] at H
  have c17b0 := decide_eq_true c17
  clear c17
  by_cases c18 : x14_1 < (l0_1.length : Int)
  rotate_left
  ·rw [if_neg c18] at H
   exact absurd H (by simp)
  rw [if_pos c18] at H
  have c18b0 := decide_eq_true c18
  clear c18
  obtain ⟨t304, A19, H⟩ := qBd H
  by_cases c20 : x303001_1.length < 17592186044416
  rotate_left
  ·rw [if_neg c20] at H
   exact absurd H (by simp)
  rw [if_pos c20] at H
  have LMc20 := Aq.mk c20
  clear c20
  obtain ⟨y305, hy305⟩ : ∃ y_ : List Int, y_ = (x303001_1 ++ [t304]) := ⟨_, rfl⟩
  replace H : (impl_Matrix_mul.l0 k1 l0_1 (l0_1.length : Int) (wrap64 (x14_1 + 1)) a1_0 l1_1 a1_0 y305) = some (r1, r2) := by first | (rw [hy305]; with_reducible exact H) | (have H2_ := (Option.bind_some _ _).symm.trans H; rw [hy305]; with_reducible exact H2_) | (have H2_ := (Option.bind_some _ _).symm.trans H; with_reducible exact H2_) | with_reducible exact H | (rw [hy305]; exact H) | exact H
  have Ny305 := Aq.mk hy305
  clear hy305
  replace H' := Aq.mk H
  clear H
  have p303 : 0 ≤ (x14_1 : Int) := of_decide_eq_true tA
  have q303 : x14_1 < (l0_1.length : Int) := of_decide_eq_true tA
  obtain ⟨ad303, e303, hx303_0⟩ := Kd.at_int HR0_1.out x14_1 p303 q303
  cases e303
  replace hx303_0 := (HB.out.cell (World.block_lt_of_cell? w _ hx303_0)).trans hx303_0
  replace p303 := eq_true p303
  replace q303 := eq_true q303
  try go_wp2
  have n0_ := Aq.mk (Kd.RqD HO_303001.out)
  have n1_ := Aq.mk (kQD BK299.out)
  have n2_ := Aq.mk (kQD BK300.out)
  have n3_ := Aq.mk (kQD BK301.out)
  have n4_ := Aq.mk (kQD BK302.out)
  have n5_ := Aq.mk (bQ1 HB.out)
  clear HO_303001
  clear BK299
  clear BK300
  clear BK301
  clear BK302
  clear HB
  have HO_303001 := n0_
  have BK299 := n1_
  have BK300 := n2_
  have BK301 := n3_
  have BK302 := n4_
  have HB := n5_
  clear n0_ n1_ n2_ n3_ n4_ n5_
  refine start_ (n := 10) (S := fun w' => w'.cell? ⟨gb302, 0, none⟩ = some (.int .i64 a1_0) ∧ w'.cell? ⟨gb302, 1, none⟩ = some (u303001) ∧ w'.cell? ⟨gb300, 0, none⟩ = some (.int .i64 a1_0) ∧ w'.cell? ⟨gb300, 1, none⟩ = some (.slice A1_1 l1_1.length c1_1)) (ds := [9]) #[false, false, false, false, false, false, false, false, false, false] (by kernel_rfl) rfl rfl ⟨(kQC BK302.out 0).trans rfl, (kQC BK302.out 1).trans rfl, (kQC BK300.out 0).trans rfl, (kQC BK300.out 1).trans rfl⟩ (fun hHeld => ?_); refine with_tabW impl_Matrix_mul.tab5 impl_Matrix_mul.bits5 (fun HT_ HW_ => ?_)
  generalize wr.drew = w21 at HO_303001 BK299 BK300 BK301 BK302 HB hHeld ⊢
  refine tP0 0 18 (bm 10 1) ?_
  refine tP0 2 20 (bm 10 5) ?_
  refine tP0 4 22 (bm 10 21) ?_
  refine tT4 1 19 (bm 10 23) ?_
  refine tT4 3 21 (bm 10 31) ?_
  refine one_ (i := 5) (N := some 23) (bm 10 63) rfl rfl (one_of HT_.out (by kernel_rfl)) (by decide) (fun K hK => ?_)
  refine goes_ Try.func50 (by kernel_rfl) rfl #[.slice A1_1 l1_1.length c1_1, .int .i64 (rd l0_1 x14_1)] (by rfl) rfl rfl tL ?_
  with_reducible refine (impl_sumOf.calls k1 _ _ l1_1 (rd l0_1 x14_1) t304 _ ?s1 ?s2 A19.out).mono ?_
  (case s1 => exact tC ((Kd.C_below HR1_1.out HB.out)))
  (case s2 => exact HC1_1.out)
  rintro e w' ⟨rfl, ⟨nd, rfl⟩⟩
  refine ⟨_, rfl, ?_⟩
  refine hK.out _ _ ⟨(kQC BK302.out 0).trans rfl, (kQC BK302.out 1).trans rfl, (kQC BK300.out 0).trans rfl, (kQC BK300.out 1).trans rfl⟩ (fun hHeld => ?_)
  clear hK K
  refine tN 23 ?_
  refine one_ (i := 6) (N := some 24) (bm 10 127) rfl rfl (one_of HT_.out (by kernel_rfl)) (by decide) (fun K hK => ?_)
  refine value_ (w1 := ?_) (v := ?_) (by rfl) rfl ?_ ?_
  rotate_left 2
  ·go_simp
   constructor
   ·rfl
   rfl
  refine hK.out _ _ ⟨(kQC (kQA BK302.out _) 0).trans rfl, (kQC (kQA BK302.out _) 1).trans rfl, (kQC (kQA BK300.out _) 0).trans rfl, (kQC (kQA BK300.out _) 1).trans rfl⟩ (fun hHeld => ?_)
  clear hK K
  refine tN 24 ?_
  refine one_ (i := 7) (N := some 25) (bm 10 255) rfl rfl (one_of HT_.out (by kernel_rfl)) (by decide) (fun K hK => ?_)
  refine Kd.R_append_step (Kd.int .i64) (w0 := w) w.heap.size (by rfl) (.tmp 19) (.tmp 24) 25 2 (.int .i64 0) 8 rfl Try.underlying25 info2 rfl (by decide) (by omega) u303001 x303001_1 t304 [.int .i64 t304] (fun _ => True) (fun _ => False) rfl rfl ?aP (fun _ hk => hk.elim) ?aF ?aO ?aB ?aS ?aL ?_
  (case aP => exact rfl)
  (case aB => exact tB)
  (case aF => exact (fun _ _ => trivial))
  (case aO => exact (tR HO_303001.out))
  (case aS => exact (bQZ tB))
  (case aL => have := LMc20.out; omega)
  intro v306 w22 ho hb hg hat
  rw [← Ny305.out] at ho
  have n0_ := Aq.mk (blk_grown (g := gb299) (o := .cells #[.int .i64 a0_0, .slice (some ad303) l0_1.length c0_1] 27 (0, 0)) (tG BK299.out) hg (Kd.R_ne HO_303001.out BK299.out (by decide)))
  have n1_ := Aq.mk (blk_grown (g := gb300) (o := .cells #[.int .i64 a1_0, .slice A1_1 l1_1.length c1_1] 27 (0, 0)) (tG BK300.out) hg (Kd.R_ne HO_303001.out BK300.out (by decide)))
  have n2_ := Aq.mk (blk_grown (g := gb301) (o := .cells #[.int .i64 0, .slice none 0 0] 27 (0, 0)) (tG BK301.out) hg (Kd.R_ne HO_303001.out BK301.out (by decide)))
  have n3_ := Aq.mk (blk_grown (g := gb302) (o := .cells #[.int .i64 a1_0, u303001] 27 (0, 0)) (tG BK302.out) hg (Kd.R_ne HO_303001.out BK302.out (by decide)))
  have n4_ := Aq.mk (hb)
  have n5_ := Aq.mk (ho)
  clear BK299
  clear BK300
  clear BK301
  clear BK302
  clear HB
  clear HO_303001
  have BK299 := n0_
  have BK300 := n1_
  have BK301 := n2_
  have BK302 := n3_
  have HB := n4_
  have HO307 := n5_
  clear n0_ n1_ n2_ n3_ n4_ n5_
  clear ho hb hg hat
  obtain ⟨Ao23, co23, eo23⟩ := Kd.R_slice HO307.out
  (first | subst eo23 | (injection eo23 with f1_ f2_ f3_; have f4_ := f1_.symm; have f5_ := f3_.symm; clear f1_ f2_ f3_; subst f4_; subst f5_))
  refine hK.out _ _ ⟨(kQC BK302.out 0).trans rfl, (kQC BK302.out 1).trans rfl, (kQC BK300.out 0).trans rfl, (kQC BK300.out 1).trans rfl⟩ (fun hHeld => ?_)
  clear hK K
  refine tN 25 ?_
  refine tP0 8 26 (bm 10 511) ?_
  refine last_ (i := 9) (N := none) #[true, true, true, true, true, true, true, true, true, true] rfl rfl (one_of HT_.out (by kernel_rfl)) (by decide) (fun K hK => ?_)
  have hs24 : w22.cell? ⟨gb302, 1, none⟩ = some (u303001) := (kQC BK302.out 1).trans rfl
  have hfs24 := kQF BK302.out 1
  have hns24_0 := NB299_302.out
  have hns24_1 := NB300_302.out
  have hns24_2 := NB301_302.out
  have hms24_0 := NB302_299.out
  have hms24_1 := NB302_300.out
  have hms24_2 := NB302_301.out
  refine skip_ (w1 := ?_) (by rfl) rfl ?_ ?_
  rotate_left
  ·go_simp
   rfl
  refine hK.out _ _ ?_
  clear hK K
  refine done_ (done_of HT_.out (by kernel_rfl)) ?_
  try go_wp2
  go_roundg k1
  case measure => have := HK1.out; omega
  case rel => exact ⟨(wrap64 (x14_1 + 1)), (y305), (.slice Ao23 y305.length co23), tS, H', ⟨by have := HK1.out; omega⟩, ⟨by (with_reducible repeat (first | apply Kd.RqA | apply Kd.RqN | apply Kd.RqD)); exact Kd.R_mono (Kd.R_far (p := ⟨gb302, 1, none⟩) (Kd.R_types HO307.out BK302.out (by decide)) (fun _ hk => hk.2) (.slice Ao23 y305.length co23)) (fun _ hk => trivial)⟩, ⟨by (with_reducible repeat (first | refine kQN ?_ _ | refine kQD ?_ | refine kQA ?_ _)); refine kQR ?_ NB299_302.out _; (with_reducible repeat (first | refine kQN ?_ _ | refine kQD ?_ | refine kQA ?_ _)); exact BK299.out⟩, ⟨by (with_reducible repeat (first | refine kQN ?_ _ | refine kQD ?_ | refine kQA ?_ _)); refine kQR ?_ NB300_302.out _; (with_reducible repeat (first | refine kQN ?_ _ | refine kQD ?_ | refine kQA ?_ _)); exact BK300.out⟩, ⟨by (with_reducible repeat (first | refine kQN ?_ _ | refine kQD ?_ | refine kQA ?_ _)); refine kQR ?_ NB301_302.out _; (with_reducible repeat (first | refine kQN ?_ _ | refine kQD ?_ | refine kQA ?_ _)); exact BK301.out⟩, ⟨by (with_reducible repeat (first | refine kQN ?_ _ | refine kQD ?_ | refine kQA ?_ _)); refine kQP (cs := #[.int .i64 a1_0, u303001]) ?_ 1 _ rfl; (with_reducible repeat (first | refine kQN ?_ _ | refine kQD ?_ | refine kQA ?_ _)); exact BK302.out⟩, ⟨tB⟩⟩
end Go.Proofs.Ythjfilmdobkmlaa.P
