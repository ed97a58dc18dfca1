/- Functions of the program and what they tell, as the printing program wrote it. -/
import Derived.Test.YtbgbblgdbcjibaaPx0
import Derived.Test.YtbgbblgdbcjibaaPx12
import Derived.Test.YtbgbblgdbcjibaaPx26
namespace Go.Proofs.Ytbgbblgdbcjibaa.P
open Go.Shelf Go.RowKit Go.Proofs.YtbgbblgdbcjibaaW.PrintWords Go.Proofs.YtbgbblgdbcjibaaW.PrintLast Go.Proofs.YtbgbblgdbcjibaaW.PrintMore
attribute [local go_sem] max2_int min2_int max_two min_two max_three min_three max_four min_four
set_option linter.unusedVariables false
set_option linter.unusedSimpArgs false
set_option maxHeartbeats 8000000
set_option maxRecDepth 100000
def spec_MatrixOfLinear.l0 : Nat → List Int → List Int → Int → Int → Int → Int → List Int → Option (Int × List Int × Int)
  | 0, _, _, _, _, _, _, _ => none
  | k + 1, x1, x2, x10, x528000, x528001, x532000, x532001 => if x10 < (x1.length : Int) then (if 0 ≤ x10 then ((spec_l03Value.f k x528000 x528001 x2 (rd x1 x10)).bind fun t533 => ((spec_l03Coordinates.f k x1 t533).bind fun t534 => (if x532001.length < 17592186044416 then (spec_MatrixOfLinear.l0 k x1 x2 (wrap64 (x10 + 1)) x528000 x528001 x532000 (x532001 ++ [t534])) else (none)))) else (none)) else (some (x532000, x532001, 0))
def spec_MatrixOfLinear.f (k : Nat) (a0_0 : Int) (a0_1 : Int) (l1 : List Int) (l2 : List Int) : Option (Int × List Int × Int) := (spec_ValidLinear.f k a0_0 a0_1 l2).bind fun t529 => (if t529 = true then ((spec_l03Based.f k a0_0 a0_1 l1).bind fun t530 => (if t530 = 0 then (spec_MatrixOfLinear.l0 k l1 l2 0 a0_0 a0_1 a0_0 ([] : List Int)) else (some (0, ([] : List Int), t530)))) else (some (0, ([] : List Int), 1)))
theorem spec_MatrixOfLinear.mono_l : ∀ k, (∀ y0 y1 y2 y3 y4 y5 y6, LeO (spec_MatrixOfLinear.l0 k y0 y1 y2 y3 y4 y5 y6) (spec_MatrixOfLinear.l0 (k + 1) y0 y1 y2 y3 y4 y5 y6))
 | 0 => fun _ _ _ _ _ _ _ r h => by simp [spec_MatrixOfLinear.l0] at h
 | k + 1 => by
  have ih0 := spec_MatrixOfLinear.mono_l k
  ·intro y0 y1 y2 y3 y4 y5 y6
   unfold spec_MatrixOfLinear.l0
   repeat' first
   | (with_reducible first | apply ih0 | apply spec_ValidLinear.mono | apply spec_l03Based.mono | apply spec_l03Coordinates.mono | apply spec_l03Value.mono | exact LeO.refl _ | exact LeO.none _ | refine LeO.ite ?_ ?_ | refine LeO.bind ?_ (fun _ => ?_))
   | exact LeO.none _
   | refine LeO.ite ?_ ?_
   | refine LeO.bind ?_ (fun _ => ?_)
theorem spec_MatrixOfLinear.mono : ∀ a0 a1 a2 a3 k, LeO (spec_MatrixOfLinear.f k a0 a1 a2 a3) (spec_MatrixOfLinear.f (k + 1) a0 a1 a2 a3) := by
 intro a0 a1 a2 a3 k
 have ih0 := spec_MatrixOfLinear.mono_l k
 unfold spec_MatrixOfLinear.f
 repeat' first
  | (with_reducible first | apply ih0 | apply spec_ValidLinear.mono | apply spec_l03Based.mono | apply spec_l03Coordinates.mono | apply spec_l03Value.mono | exact LeO.refl _ | exact LeO.none _ | refine LeO.ite ?_ ?_ | refine LeO.bind ?_ (fun _ => ?_))
  | exact LeO.none _
  | refine LeO.ite ?_ ?_
  | refine LeO.bind ?_ (fun _ => ?_)
def spec_MatrixOfLinear.T10 : Bool × List (List Nat × List Nat) := (true, [([], []), ([0], [0]), ([], []), ([], []), ([], []), ([], []), ([], []), ([5, 6], [5, 6]), ([7], [7]), ([3, 4, 8], [3, 4, 8]), ([2, 9, 9], [2, 9]), ([10], [10]), ([1, 11, 10], [1, 11]), ([0, 1, 2, 3, 4, 5, 6, 7, 8, 9, 10, 11, 12], []), ([13, 12, 12, 0, 1, 2, 3, 4, 5, 6, 7, 8, 9, 10, 11, 12], [12, 13])])
def spec_MatrixOfLinear.B10 : List Nat := [0, 1, 0, 0, 0, 0, 0, 96, 224, 504, 1020, 2044, 4095, 8191, 16383]
theorem spec_MatrixOfLinear.tab10 : rtab .any (opsOf Try.f24 10) = spec_MatrixOfLinear.T10 := by kernel_rfl
theorem spec_MatrixOfLinear.bits10 : waitsOk spec_MatrixOfLinear.T10.2 spec_MatrixOfLinear.B10 = true := by kernel_rfl
theorem spec_MatrixOfLinear.calls (k : Nat) (a0_0 : Int) (a0_1 : Int) (A1 : Option Addr) (c1 : Nat) (l1 : List Int) (A2 : Option Addr) (c2 : Nat) (l2 : List Int) (r1 : Int) (r2 : List Int) (r3 : Int) (w : World) (hr1 : Kd.C (Kd.int .i64) w A1 l1.length l1) (hc1 : l1.length ≤ c1) (hr2 : Kd.C (Kd.int .i64) w A2 l2.length l2) (hc2 : l2.length ≤ c2) (h : spec_MatrixOfLinear.f k a0_0 a0_1 l1 l2 = some (r1, r2, r3)) :
 Calls Try.prog 24 #[.agg #[.int .i64 a0_0, .int .i64 a0_1], .slice A1 l1.length c1, .slice A2 l2.length c2] w fun e w' => ∃ v1_ : Value, e = .returned (.tuple #[.agg #[.int .i64 r1, v1_], .int .i64 r3]) ∧ Kd.R (Kd.int .i64) 2 w' w.heap.size (fun _ => True) v1_ r2 ∧ Below w.heap.size w w' := by
 have hu26 := Try.underlying26
 have hu41 := Try.underlying41
 have HR1 := Aq.mk hr1
 have HC1 := Aq.mk hc1
 clear hr1 hc1
 have HR2 := Aq.mk hr2
 have HC2 := Aq.mk hc2
 clear hr2 hc2
 have HB := Aq.mk (Below.refl w.heap.size w)
 have H : ((spec_ValidLinear.f k a0_0 a0_1 l2).bind fun t529 => (if t529 = true then ((spec_l03Based.f k a0_0 a0_1 l1).bind fun t530 => (if t530 = 0 then (spec_MatrixOfLinear.l0 k l1 l2 0 a0_0 a0_1 a0_0 ([] : List Int)) else (some (0, ([] : List Int), t530)))) else (some (0, ([] : List Int), 1)))) = some (r1, r2, r3) := h
 clear h
 obtain ⟨t529, A4, H⟩ := qBd H
 by_cases c5 : t529 = true
 rotate_left
 ·replace c5 := Bool.eq_false_iff.mpr c5
  subst c5
  rw [if_neg (show ¬ (false = true) by decide)] at H
  simp only [Option.some.injEq, Prod.mk.injEq] at H
  obtain ⟨rfl, rfl, rfl⟩ := H
  go_enter Try.func24, Try.ntmps24
  go_wp2_with (first | ((with_reducible refine gQd (N := 3) rfl ?_); refine xQe ?hg (N := 3) ?hd (cs := #[.int .i64 a0_0, .int .i64 a0_1]) (t := 26) ?hr ?_; (case hd => rfl); (case hg => rfl); (case hr => exact tH); intro gb527 hg w44 hbox hb; refine qM4 (bQT tB hb) hbox (tZ w hg) (tZ w hg) ?_; clear HB; intro HB BK527 GW527 GE527; clear hb hbox hg) | ((with_reducible refine gQd (N := 6) rfl ?_); refine xQe ?hg (N := 6) ?hd (cs := #[.int .i64 0, .slice none 0 0]) (t := 41) ?hr ?_; (case hd => rfl); (case hg => rfl); (case hr => exact tH); intro gb528 hg w45 hbox hb; refine qM7 (tQ BK527.out hb) (bQT tB hb) hbox (tZ w hg) (tZ w hg) ((by rw [hg]; exact Nat.ne_of_lt (blk_lt (g := gb527) (o := .cells #[.int .i64 a0_0, .int .i64 a0_1] 26 (0, 0)) (tG BK527.out)) : gb527 ≠ gb528)) ((by rw [hg]; exact Nat.ne_of_gt (blk_lt (g := gb527) (o := .cells #[.int .i64 a0_0, .int .i64 a0_1] 26 (0, 0)) (tG BK527.out)) : gb528 ≠ gb527)) ?_; clear BK527 HB; intro BK527 HB BK528 GW528 GE528 NB527_528 NB528_527; clear hb hbox hg; have hnb46 := NB527_528.out; have hnc46 := NB528_527.out; have hcz47_0 : w45.cell? ⟨gb527, 0, none⟩ = some (.int .i64 a0_0) := (kQC BK527.out 0).trans rfl; have hcz47_1 : w45.cell? ⟨gb527, 1, none⟩ = some (.int .i64 a0_1) := (kQC BK527.out 1).trans rfl; have hfz47_0 := kQF BK527.out 0; have hfz47_1 := kQF BK527.out 1) | ((with_reducible refine gQc (f := 53) rfl ?_); refine goesL_ (some 13) rfl rfl Try.func53 (by kernel_rfl) rfl #[.agg #[.int .i64 a0_0, .int .i64 a0_1], .slice A2 l2.length c2] rfl tL ?_; (with_reducible refine (spec_ValidLinear.calls k a0_0 a0_1 _ _ l2 false _ ?s1 ?s2 A4.out).mono ?_); (case s1 => exact tC ((Kd.C_below HR2.out HB.out))); (case s2 => exact HC2.out); rintro e w48 ⟨rfl, hb⟩; refine ⟨_, rfl, ?_⟩; refine qM3 (tQ BK527.out hb) (tQ BK528.out hb) (bQT tB hb) ?_; clear BK527 BK528 HB; intro BK527 BK528 HB; (try clear hb); (try clear hb2); (try clear hk); (try clear hi); have hcz49_0 : w48.cell? ⟨gb528, 0, none⟩ = some (.int .i64 0) := (kQC BK528.out 0).trans rfl; have hcz49_1 : w48.cell? ⟨gb528, 1, none⟩ = some (.slice none 0 0) := (kQC BK528.out 1).trans rfl; have hfz49_0 := kQF BK528.out 0; have hfz49_1 := kQF BK528.out 1))
  refine bodyPost_ret (results_ct rfl _ _ gb528 41 #[.int .i64 0, .slice none 0 0] (0, 0) _ rfl (by (with_reducible repeat (first | refine kQN ?_ _ | refine kQD ?_ | refine kQA ?_ _)); refine kQP (cs := #[.int .i64 0, .slice none 0 0]) ?_ 1 _ rfl; (with_reducible repeat (first | refine kQN ?_ _ | refine kQD ?_ | refine kQA ?_ _)); refine kQP (cs := #[.int .i64 0, .slice none 0 0]) ?_ 0 _ rfl; (with_reducible repeat (first | refine kQN ?_ _ | refine kQD ?_ | refine kQA ?_ _)); exact BK528.out) Try.underlying41 rfl (by kernel_rfl)) rfl ?_
  exact ⟨_, tE, by first | exact Kd.R_nil _ _ _ _ _ | exact Kd.N_nil _ _ _ _ _ | exact Kd.V_nil _ _ _ _ _ | exact Kd.Q_nil _ _ _ _ _ | exact Kd.S_nil _ _ _ _ _, tB⟩
 subst c5
 rw [if_pos rfl] at H
 obtain ⟨t530, A6, H⟩ := qBd H
 by_cases c7 : t530 = 0
 rotate_left
 ·rw [if_neg c7] at H
  have c7b0 := beq_eq_false_iff_ne.mpr c7
  have c7b1 := bne_iff_ne.mpr c7
  simp only [Option.some.injEq, Prod.mk.injEq] at H
  obtain ⟨rfl, rfl, rfl⟩ := H
  go_enter Try.func24, Try.ntmps24
  go_wp2_with (first | ((with_reducible refine gQd (N := 3) rfl ?_); refine xQe ?hg (N := 3) ?hd (cs := #[.int .i64 a0_0, .int .i64 a0_1]) (t := 26) ?hr ?_; (case hd => rfl); (case hg => rfl); (case hr => exact tH); intro gb527 hg w36 hbox hb; refine qM4 (bQT tB hb) hbox (tZ w hg) (tZ w hg) ?_; clear HB; intro HB BK527 GW527 GE527; clear hb hbox hg) | ((with_reducible refine gQd (N := 6) rfl ?_); refine xQe ?hg (N := 6) ?hd (cs := #[.int .i64 0, .slice none 0 0]) (t := 41) ?hr ?_; (case hd => rfl); (case hg => rfl); (case hr => exact tH); intro gb528 hg w37 hbox hb; refine qM7 (tQ BK527.out hb) (bQT tB hb) hbox (tZ w hg) (tZ w hg) ((by rw [hg]; exact Nat.ne_of_lt (blk_lt (g := gb527) (o := .cells #[.int .i64 a0_0, .int .i64 a0_1] 26 (0, 0)) (tG BK527.out)) : gb527 ≠ gb528)) ((by rw [hg]; exact Nat.ne_of_gt (blk_lt (g := gb527) (o := .cells #[.int .i64 a0_0, .int .i64 a0_1] 26 (0, 0)) (tG BK527.out)) : gb528 ≠ gb527)) ?_; clear BK527 HB; intro BK527 HB BK528 GW528 GE528 NB527_528 NB528_527; clear hb hbox hg; have hnb38 := NB527_528.out; have hnc38 := NB528_527.out; have hcz39_0 : w37.cell? ⟨gb527, 0, none⟩ = some (.int .i64 a0_0) := (kQC BK527.out 0).trans rfl; have hcz39_1 : w37.cell? ⟨gb527, 1, none⟩ = some (.int .i64 a0_1) := (kQC BK527.out 1).trans rfl; have hfz39_0 := kQF BK527.out 0; have hfz39_1 := kQF BK527.out 1) | ((with_reducible refine gQc (f := 53) rfl ?_); refine goesL_ (some 13) rfl rfl Try.func53 (by kernel_rfl) rfl #[.agg #[.int .i64 a0_0, .int .i64 a0_1], .slice A2 l2.length c2] rfl tL ?_; (with_reducible refine (spec_ValidLinear.calls k a0_0 a0_1 _ _ l2 true _ ?s1 ?s2 A4.out).mono ?_); (case s1 => exact tC ((Kd.C_below HR2.out HB.out))); (case s2 => exact HC2.out); rintro e w40 ⟨rfl, hb⟩; refine ⟨_, rfl, ?_⟩; refine qM3 (tQ BK527.out hb) (tQ BK528.out hb) (bQT tB hb) ?_; clear BK527 BK528 HB; intro BK527 BK528 HB; (try clear hb); (try clear hb2); (try clear hk); (try clear hi); have hcz41_0 : w40.cell? ⟨gb527, 0, none⟩ = some (.int .i64 a0_0) := (kQC BK527.out 0).trans rfl; have hcz41_1 : w40.cell? ⟨gb527, 1, none⟩ = some (.int .i64 a0_1) := (kQC BK527.out 1).trans rfl; have hfz41_0 := kQF BK527.out 0; have hfz41_1 := kQF BK527.out 1) | ((with_reducible refine gQc (f := 58) rfl ?_); refine goesL_ (some 18) rfl rfl Try.func58 (by kernel_rfl) rfl #[.agg #[.int .i64 a0_0, .int .i64 a0_1], .slice A1 l1.length c1] rfl tL ?_; (with_reducible refine (spec_l03Based.calls k a0_0 a0_1 _ _ l1 t530 _ ?s1 ?s2 A6.out).mono ?_); (case s1 => exact tC ((Kd.C_below HR1.out HB.out))); (case s2 => exact HC1.out); rintro e w42 ⟨rfl, hb⟩; refine ⟨_, rfl, ?_⟩; refine qM3 (tQ BK527.out hb) (tQ BK528.out hb) (bQT tB hb) ?_; clear BK527 BK528 HB; intro BK527 BK528 HB; (try clear hb); (try clear hb2); (try clear hk); (try clear hi); have hcz43_0 : w42.cell? ⟨gb528, 0, none⟩ = some (.int .i64 0) := (kQC BK528.out 0).trans rfl; have hcz43_1 : w42.cell? ⟨gb528, 1, none⟩ = some (.slice none 0 0) := (kQC BK528.out 1).trans rfl; have hfz43_0 := kQF BK528.out 0; have hfz43_1 := kQF BK528.out 1))
  refine bodyPost_ret (results_ct rfl _ _ gb528 41 #[.int .i64 0, .slice none 0 0] (0, 0) _ rfl (by (with_reducible repeat (first | refine kQN ?_ _ | refine kQD ?_ | refine kQA ?_ _)); refine kQP (cs := #[.int .i64 0, .slice none 0 0]) ?_ 1 _ rfl; (with_reducible repeat (first | refine kQN ?_ _ | refine kQD ?_ | refine kQA ?_ _)); refine kQP (cs := #[.int .i64 0, .slice none 0 0]) ?_ 0 _ rfl; (with_reducible repeat (first | refine kQN ?_ _ | refine kQD ?_ | refine kQA ?_ _)); exact BK528.out) Try.underlying41 rfl (by kernel_rfl)) rfl ?_
  exact ⟨_, tE, by first | exact Kd.R_nil _ _ _ _ _ | exact Kd.N_nil _ _ _ _ _ | exact Kd.V_nil _ _ _ _ _ | exact Kd.Q_nil _ _ _ _ _ | exact Kd.S_nil _ _ _ _ _, tB⟩
 rw [if_pos c7] at H
 have c7b0 := beq_iff_eq.mpr c7
 have c7b1 := bne_eq_false_iff_eq.mpr c7
 clear c7
 replace H' := Aq.mk H
 clear H
 go_enter Try.func24, Try.ntmps24
 go_wp2_with (first | ((with_reducible refine gQd (N := 3) rfl ?_); refine xQe ?hg (N := 3) ?hd (cs := #[.int .i64 a0_0, .int .i64 a0_1]) (t := 26) ?hr ?_; (case hd => rfl); (case hg => rfl); (case hr => exact tH); intro gb527 hg w8 hbox hb; refine qM4 (bQT tB hb) hbox (tZ w hg) (tZ w hg) ?_; clear HB; intro HB BK527 GW527 GE527; clear hb hbox hg) | ((with_reducible refine gQd (N := 6) rfl ?_); refine xQe ?hg (N := 6) ?hd (cs := #[.int .i64 0, .slice none 0 0]) (t := 41) ?hr ?_; (case hd => rfl); (case hg => rfl); (case hr => exact tH); intro gb528 hg w9 hbox hb; refine qM7 (tQ BK527.out hb) (bQT tB hb) hbox (tZ w hg) (tZ w hg) ((by rw [hg]; exact Nat.ne_of_lt (blk_lt (g := gb527) (o := .cells #[.int .i64 a0_0, .int .i64 a0_1] 26 (0, 0)) (tG BK527.out)) : gb527 ≠ gb528)) ((by rw [hg]; exact Nat.ne_of_gt (blk_lt (g := gb527) (o := .cells #[.int .i64 a0_0, .int .i64 a0_1] 26 (0, 0)) (tG BK527.out)) : gb528 ≠ gb527)) ?_; clear BK527 HB; intro BK527 HB BK528 GW528 GE528 NB527_528 NB528_527; clear hb hbox hg; have hnb10 := NB527_528.out; have hnc10 := NB528_527.out; have hcz11_0 : w9.cell? ⟨gb527, 0, none⟩ = some (.int .i64 a0_0) := (kQC BK527.out 0).trans rfl; have hcz11_1 : w9.cell? ⟨gb527, 1, none⟩ = some (.int .i64 a0_1) := (kQC BK527.out 1).trans rfl; have hfz11_0 := kQF BK527.out 0; have hfz11_1 := kQF BK527.out 1) | ((with_reducible refine gQc (f := 53) rfl ?_); refine goesL_ (some 13) rfl rfl Try.func53 (by kernel_rfl) rfl #[.agg #[.int .i64 a0_0, .int .i64 a0_1], .slice A2 l2.length c2] rfl tL ?_; (with_reducible refine (spec_ValidLinear.calls k a0_0 a0_1 _ _ l2 true _ ?s1 ?s2 A4.out).mono ?_); (case s1 => exact tC ((Kd.C_below HR2.out HB.out))); (case s2 => exact HC2.out); rintro e w12 ⟨rfl, hb⟩; refine ⟨_, rfl, ?_⟩; refine qM3 (tQ BK527.out hb) (tQ BK528.out hb) (bQT tB hb) ?_; clear BK527 BK528 HB; intro BK527 BK528 HB; (try clear hb); (try clear hb2); (try clear hk); (try clear hi); have hcz13_0 : w12.cell? ⟨gb527, 0, none⟩ = some (.int .i64 a0_0) := (kQC BK527.out 0).trans rfl; have hcz13_1 : w12.cell? ⟨gb527, 1, none⟩ = some (.int .i64 a0_1) := (kQC BK527.out 1).trans rfl; have hfz13_0 := kQF BK527.out 0; have hfz13_1 := kQF BK527.out 1) | ((with_reducible refine gQc (f := 58) rfl ?_); refine goesL_ (some 18) rfl rfl Try.func58 (by kernel_rfl) rfl #[.agg #[.int .i64 a0_0, .int .i64 a0_1], .slice A1 l1.length c1] rfl tL ?_; (with_reducible refine (spec_l03Based.calls k a0_0 a0_1 _ _ l1 t530 _ ?s1 ?s2 A6.out).mono ?_); (case s1 => exact tC ((Kd.C_below HR1.out HB.out))); (case s2 => exact HC1.out); rintro e w14 ⟨rfl, hb⟩; refine ⟨_, rfl, ?_⟩; refine qM3 (tQ BK527.out hb) (tQ BK528.out hb) (bQT tB hb) ?_; clear BK527 BK528 HB; intro BK527 BK528 HB; (try clear hb); (try clear hb2); (try clear hk); (try clear hi); have hcz15_0 : w14.cell? ⟨gb527, 0, none⟩ = some (.int .i64 a0_0) := (kQC BK527.out 0).trans rfl; have hcz15_1 : w14.cell? ⟨gb527, 1, none⟩ = some (.int .i64 a0_1) := (kQC BK527.out 1).trans rfl; have hfz15_0 := kQF BK527.out 0; have hfz15_1 := kQF BK527.out 1) | ((with_reducible refine gQd (N := 9) rfl ?_); refine xQe ?hg (N := 9) ?hd (cs := #[.int .i64 0, .slice none 0 0]) (t := 41) ?hr ?_; (case hd => rfl); (case hg => rfl); (case hr => exact tH); intro gb531 hg w16 hbox hb; refine qM10 (tQ BK527.out hb) (tQ BK528.out hb) (bQT tB hb) hbox (tZ w hg) (tZ w hg) ((by rw [hg]; exact Nat.ne_of_lt (blk_lt (g := gb527) (o := .cells #[.int .i64 a0_0, .int .i64 a0_1] 26 (0, 0)) (tG BK527.out)) : gb527 ≠ gb531)) ((by rw [hg]; exact Nat.ne_of_gt (blk_lt (g := gb527) (o := .cells #[.int .i64 a0_0, .int .i64 a0_1] 26 (0, 0)) (tG BK527.out)) : gb531 ≠ gb527)) ((by rw [hg]; exact Nat.ne_of_lt (blk_lt (g := gb528) (o := .cells #[.int .i64 0, .slice none 0 0] 41 (0, 0)) (tG BK528.out)) : gb528 ≠ gb531)) ((by rw [hg]; exact Nat.ne_of_gt (blk_lt (g := gb528) (o := .cells #[.int .i64 0, .slice none 0 0] 41 (0, 0)) (tG BK528.out)) : gb531 ≠ gb528)) ?_; clear BK527 BK528 HB; intro BK527 BK528 HB BK531 GW531 GE531 NB527_531 NB531_527 NB528_531 NB531_528; clear hb hbox hg; have hnb17 := NB531_527.out; have hnc17 := NB527_531.out; have hnb18 := NB531_528.out; have hnc18 := NB528_531.out; have hcz19_0 : w16.cell? ⟨gb531, 0, none⟩ = some (.int .i64 0) := (kQC BK531.out 0).trans rfl; have hcz19_1 : w16.cell? ⟨gb531, 1, none⟩ = some (.slice none 0 0) := (kQC BK531.out 1).trans rfl; have hfz19_0 := kQF BK531.out 0; have hfz19_1 := kQF BK531.out 1))
 go_loopg [10] k (fun kq v10 w' => ∃ (x10_1 : Int) (x532001_1 : List Int) (u532001 : Value), v10 = .int .i64 x10_1 ∧ Aq (spec_MatrixOfLinear.l0 kq l1 l2 x10_1 a0_0 a0_1 a0_0 x532001_1 = some (r1, r2, r3)) ∧ Aq (kq ≤ k) ∧ Aq (Kd.R (Kd.int .i64) 2 w' w.heap.size (fun _ => True) u532001 x532001_1) ∧ Aq (w'.heap[gb527]? = some (.cells #[.int .i64 a0_0, .int .i64 a0_1] 26 (0, 0))) ∧ Aq (w'.heap[gb528]? = some (.cells #[.int .i64 0, (.slice none 0 0)] 41 (0, 0))) ∧ Aq (w'.heap[gb531]? = some (.cells #[.int .i64 a0_0, u532001] 41 (0, 0))) ∧ Aq (Below w.heap.size w w'))
 case atStart => exact ⟨(0), (([] : List Int)), (.slice none 0 0), tS, H', ⟨Nat.le_refl _⟩, ⟨by first | exact Kd.R_nil _ _ _ _ _ | exact Kd.N_nil _ _ _ _ _ | exact Kd.V_nil _ _ _ _ _ | exact Kd.Q_nil _ _ _ _ _ | exact Kd.S_nil _ _ _ _ _⟩, ⟨by (with_reducible repeat (first | refine kQN ?_ _ | refine kQD ?_ | refine kQA ?_ _)); refine kQR ?_ NB527_531.out _; (with_reducible repeat (first | refine kQN ?_ _ | refine kQD ?_ | refine kQA ?_ _)); refine kQR ?_ NB527_531.out _; (with_reducible repeat (first | refine kQN ?_ _ | refine kQD ?_ | refine kQA ?_ _)); exact BK527.out⟩, ⟨by (with_reducible repeat (first | refine kQN ?_ _ | refine kQD ?_ | refine kQA ?_ _)); refine kQR ?_ NB528_531.out _; (with_reducible repeat (first | refine kQN ?_ _ | refine kQD ?_ | refine kQA ?_ _)); refine kQR ?_ NB528_531.out _; (with_reducible repeat (first | refine kQN ?_ _ | refine kQD ?_ | refine kQA ?_ _)); exact BK528.out⟩, ⟨by (with_reducible repeat (first | refine kQN ?_ _ | refine kQD ?_ | refine kQA ?_ _)); refine kQP (cs := #[.int .i64 a0_0, .slice none 0 0]) ?_ 1 _ rfl; (with_reducible repeat (first | refine kQN ?_ _ | refine kQD ?_ | refine kQA ?_ _)); refine kQP (cs := #[.int .i64 0, .slice none 0 0]) ?_ 0 _ rfl; (with_reducible repeat (first | refine kQN ?_ _ | refine kQD ?_ | refine kQA ?_ _)); exact BK531.out⟩, ⟨tB⟩⟩
 clear H'
 try clear c1
 try clear c2
 try clear c5
 try clear c7
 try clear c7b0
 try clear c7b1
 try clear hcz11_0
 try clear hcz11_1
 try clear hcz13_0
 try clear hcz13_1
 try clear hcz15_0
 try clear hcz15_1
 try clear hcz19_0
 try clear hcz19_1
 try clear hfz11_0
 try clear hfz11_1
 try clear hfz13_0
 try clear hfz13_1
 try clear hfz15_0
 try clear hfz15_1
 try clear hfz19_0
 try clear hfz19_1
 obtain ⟨x10_1, x532001_1, u532001, rfl, HA, HK1, HO_532001, BK527, BK528, BK531, HB⟩ := hrel
 cases gk with
 | zero => exact absurd HA.out (by simp [spec_MatrixOfLinear.l0])
 | succ k1 =>
  have H := HA.out
  clear HA
  simp only [spec_MatrixOfLinear.l0] at H
  by_cases c20 : x10_1 < (l1.length : Int)
  rotate_left
  ·rw [if_neg c20] at H
   have c20b0 := decide_eq_false c20
   clear c20
   simp only [Option.some.injEq, Prod.mk.injEq] at H
   obtain ⟨rfl, rfl, rfl⟩ := H
   have hnb30 := NB531_527.out
   have hnc30 := NB527_531.out
   have hnb31 := NB531_528.out
   have hnc31 := NB528_531.out
   have hcz32_0 : wr.cell? ⟨gb531, 0, none⟩ = some (.int .i64 a0_0) := (kQC BK531.out 0).trans rfl
   have hcz32_1 : wr.cell? ⟨gb531, 1, none⟩ = some (u532001) := (kQC BK531.out 1).trans rfl
   have hfz32_0 := kQF BK531.out 0
   have hfz32_1 := kQF BK531.out 1
   have hnb33 := NB528_527.out
   have hnc33 := NB527_528.out
   have hcz34_0 : wr.cell? ⟨gb528, 0, none⟩ = some (.int .i64 0) := (kQC BK528.out 0).trans rfl
   have hcz34_1 : wr.cell? ⟨gb528, 1, none⟩ = some (.slice none 0 0) := (kQC BK528.out 1).trans rfl
   have hfz34_0 := kQF BK528.out 0
   have hfz34_1 := kQF BK528.out 1
   obtain ⟨Ao35, co35, eo35⟩ := Kd.R_slice HO_532001.out
   subst eo35
   go_wp2
   refine bodyPost_ret (results_ct rfl _ _ gb528 41 #[.int .i64 a0_0, .slice Ao35 x532001_1.length co35] (0, 0) _ rfl (by (with_reducible repeat (first | refine kQN ?_ _ | refine kQD ?_ | refine kQA ?_ _)); refine kQP (cs := #[.int .i64 a0_0, .slice none 0 0]) ?_ 1 _ rfl; (with_reducible repeat (first | refine kQN ?_ _ | refine kQD ?_ | refine kQA ?_ _)); refine kQP (cs := #[.int .i64 0, .slice none 0 0]) ?_ 0 _ rfl; (with_reducible repeat (first | refine kQN ?_ _ | refine kQD ?_ | refine kQA ?_ _)); exact BK528.out) Try.underlying41 rfl (by kernel_rfl)) rfl ?_
   exact ⟨_, tE, by (with_reducible repeat (first | apply Kd.RqA | apply Kd.RqN | apply Kd.RqD)); exact Kd.R_mono (Kd.R_far (p := ⟨gb528, 1, none⟩) (Kd.R_far (p := ⟨gb528, 0, none⟩) (Kd.R_types HO_532001.out BK528.out (by decide)) (fun _ hk => hk.2) (.int .i64 a0_0)) (fun _ hk => hk.2) (.slice Ao35 x532001_1.length co35)) (fun _ hk => trivial), tB⟩
  rw [if_pos c20] at H
  have c20b0 := decide_eq_true c20
  clear c20
  by_cases c21 : 0 ≤ x10_1
  rotate_left
  ·rw [if_neg c21] at H
   exact absurd H (by simp)
  rw [if_pos c21] at H
  have c21b0 := decide_eq_true c21
  clear c21
  obtain ⟨t533, A22, H⟩ := qBd H
  obtain ⟨t534, A23, H⟩ := qBd H
  by_cases c24 : x532001_1.length < 17592186044416
  rotate_left
  ·rw [if_neg c24] at H
   exact absurd H (by simp)
  rw [if_pos c24] at H
  have LMc24 := Aq.mk c24
  clear c24
  obtain ⟨y535, hy535⟩ : ∃ y_ : List Int, y_ = (x532001_1 ++ [t534]) := ⟨_, rfl⟩
  replace H : (spec_MatrixOfLinear.l0 k1 l1 l2 (wrap64 (x10_1 + 1)) a0_0 a0_1 a0_0 y535) = some (r1, r2, r3) := by first | (rw [hy535]; with_reducible exact H) | (have H2_ := (Option.bind_some _ _).symm.trans H; rw [hy535]; with_reducible exact H2_) | (have H2_ := (Option.bind_some _ _).symm.trans H; with_reducible exact H2_) | with_reducible exact H | (rw [hy535]; exact H) | exact H
  have Ny535 := Aq.mk hy535
  clear hy535
  replace H' := Aq.mk H
  clear H
  try go_wp2
  have n0_ := Aq.mk (Kd.RqD HO_532001.out)
  have n1_ := Aq.mk (kQD BK527.out)
  have n2_ := Aq.mk (kQD BK528.out)
  have n3_ := Aq.mk (kQD BK531.out)
  have n4_ := Aq.mk (bQ1 HB.out)
  clear HO_532001
  clear BK527
  clear BK528
  clear BK531
  clear HB
  have HO_532001 := n0_
  have BK527 := n1_
  have BK528 := n2_
  have BK531 := n3_
  have HB := n4_
  clear n0_ n1_ n2_ n3_ n4_
  have p532 : 0 ≤ (x10_1 : Int) := of_decide_eq_true tA
  have q532 : x10_1 < (l1.length : Int) := of_decide_eq_true tA
  obtain ⟨ad532, e532, hx532_0⟩ := Kd.at_int HR1.out x10_1 p532 q532
  have hw532_0 := hx532_0
  cases e532
  replace hx532_0 := (HB.out.cell (World.block_lt_of_cell? w _ hx532_0)).trans hx532_0
  replace p532 := eq_true p532
  replace q532 := eq_true q532
  refine start_ (n := 15) (S := fun w' => w'.cell? ⟨gb531, 0, none⟩ = some (.int .i64 a0_0) ∧ w'.cell? ⟨gb531, 1, none⟩ = some (u532001) ∧ w'.cell? ⟨gb527, 0, none⟩ = some (.int .i64 a0_0) ∧ w'.cell? ⟨gb527, 1, none⟩ = some (.int .i64 a0_1) ∧ w'.cell? (ad532.add (x10_1).toNat) = some (.int .i64 (rd l1 x10_1))) (ds := [14]) #[false, false, false, false, false, false, false, false, false, false, false, false, false, false, false] (by kernel_rfl) rfl rfl ⟨(kQC BK531.out 0).trans rfl, (kQC BK531.out 1).trans rfl, (kQC BK527.out 0).trans rfl, (kQC BK527.out 1).trans rfl, (tcw tB hw532_0)⟩ (fun hHeld => ?_); refine with_tabW spec_MatrixOfLinear.tab10 spec_MatrixOfLinear.bits10 (fun HT_ HW_ => ?_)
  generalize wr.drew = w25 at HO_532001 BK527 BK528 BK531 HB hx532_0 hHeld ⊢
  refine tP0 0 32 (bm 15 1) ?_
  refine tP0 2 34 (bm 15 5) ?_
  refine tP0 4 36 (bm 15 21) ?_
  refine tP0 5 37 (bm 15 53) ?_
  refine tP0 6 38 (bm 15 117) ?_
  refine tP0 7 39 (bm 15 245) ?_
  refine tT5 1 33 (bm 15 247) ?_
  refine tT5 3 35 (bm 15 255) ?_
  refine tT5 8 40 (bm 15 511) ?_
  refine one_ (i := 9) (N := some 41) (bm 15 1023) rfl rfl (one_of HT_.out (by kernel_rfl)) (by decide) (fun K hK => ?_)
  refine goes_ Try.func54 (by kernel_rfl) rfl #[.agg #[.int .i64 a0_0, .int .i64 a0_1], .slice A2 l2.length c2, .int .i64 (rd l1 x10_1)] (by rfl) rfl rfl tL ?_
  with_reducible refine (spec_l03Value.calls k1 a0_0 a0_1 _ _ l2 (rd l1 x10_1) t533 _ ?s1 ?s2 A22.out).mono ?_
  (case s1 => exact tC ((Kd.C_below HR2.out HB.out)))
  (case s2 => exact HC2.out)
  rintro e w26 ⟨rfl, hb⟩
  refine ⟨_, rfl, ?_⟩
  have n0_ := Aq.mk (Kd.R_below (tR HO_532001.out) hb)
  have n1_ := Aq.mk (tQ BK527.out hb)
  have n2_ := Aq.mk (tQ BK528.out hb)
  have n3_ := Aq.mk (tQ BK531.out hb)
  have n4_ := Aq.mk (bQT tB hb)
  clear HO_532001
  clear BK527
  clear BK528
  clear BK531
  clear HB
  have HO_532001 := n0_
  have BK527 := n1_
  have BK528 := n2_
  have BK531 := n3_
  have HB := n4_
  clear n0_ n1_ n2_ n3_ n4_
  (try clear hb)
  (try clear hb2)
  (try clear hk)
  (try clear hi)
  refine hK.out _ _ ⟨(kQC BK531.out 0).trans rfl, (kQC BK531.out 1).trans rfl, (kQC BK527.out 0).trans rfl, (kQC BK527.out 1).trans rfl, (tcw tB hw532_0)⟩ (fun hHeld => ?_)
  clear hK K
  refine tN 41 ?_
  refine one_ (i := 10) (N := some 42) (bm 15 2047) rfl rfl (one_of HT_.out (by kernel_rfl)) (by decide) (fun K hK => ?_)
  refine goes_ Try.func59 (by kernel_rfl) rfl #[.slice (some ad532) l1.length c1, .int .i64 t533] (by rfl) rfl rfl tL ?_
  with_reducible refine (spec_l03Coordinates.calls k1 _ _ l1 t533 t534 _ ?s1 ?s2 A23.out).mono ?_
  (case s1 => exact tC ((Kd.C_below HR1.out HB.out)))
  (case s2 => exact HC1.out)
  rintro e w' ⟨rfl, ⟨nd, rfl⟩⟩
  refine ⟨_, rfl, ?_⟩
  refine hK.out _ _ ⟨(kQC BK531.out 0).trans rfl, (kQC BK531.out 1).trans rfl, (kQC BK527.out 0).trans rfl, (kQC BK527.out 1).trans rfl, (tcw tB hw532_0)⟩ (fun hHeld => ?_)
  clear hK K
  refine tN 42 ?_
  refine one_ (i := 11) (N := some 43) (bm 15 4095) rfl rfl (one_of HT_.out (by kernel_rfl)) (by decide) (fun K hK => ?_)
  refine value_ (w1 := ?_) (v := ?_) (by rfl) rfl ?_ ?_
  rotate_left 2
  ·go_simp
   constructor
   ·rfl
   rfl
  refine hK.out _ _ ⟨(kQC (kQA BK531.out _) 0).trans rfl, (kQC (kQA BK531.out _) 1).trans rfl, (kQC (kQA BK527.out _) 0).trans rfl, (kQC (kQA BK527.out _) 1).trans rfl, (World.cell?_alloc_lt _ _ _ (World.block_lt_of_cell? _ _ ((tcw tB hw532_0)))).trans ((tcw tB hw532_0))⟩ (fun hHeld => ?_)
  clear hK K
  refine tN 43 ?_
  refine one_ (i := 12) (N := some 44) (bm 15 8191) rfl rfl (one_of HT_.out (by kernel_rfl)) (by decide) (fun K hK => ?_)
  refine Kd.R_append_step (Kd.int .i64) (w0 := w) w.heap.size (by rfl) (.tmp 33) (.tmp 43) 29 2 (.int .i64 0) 8 rfl Try.underlying29 info2 rfl (by decide) (by omega) u532001 x532001_1 t534 [.int .i64 t534] (fun _ => True) (fun _ => False) rfl rfl ?aP (fun _ hk => hk.elim) ?aF ?aO ?aB ?aS ?aL ?_
  (case aP => exact rfl)
  (case aB => exact tB)
  (case aF => exact (fun _ _ => trivial))
  (case aO => exact (tR HO_532001.out))
  (case aS => exact (bQZ tB))
  (case aL => have := LMc24.out; omega)
  intro v536 w27 ho hb hg hat
  rw [← Ny535.out] at ho
  have n0_ := Aq.mk (blk_grown (g := gb527) (o := .cells #[.int .i64 a0_0, .int .i64 a0_1] 26 (0, 0)) (tG BK527.out) hg (Kd.R_ne HO_532001.out BK527.out (by decide)))
  have n1_ := Aq.mk (blk_grown (g := gb528) (o := .cells #[.int .i64 0, .slice none 0 0] 41 (0, 0)) (tG BK528.out) hg (Kd.R_ne HO_532001.out BK528.out (by decide)))
  have n2_ := Aq.mk (blk_grown (g := gb531) (o := .cells #[.int .i64 a0_0, u532001] 41 (0, 0)) (tG BK531.out) hg (Kd.R_ne HO_532001.out BK531.out (by decide)))
  have n3_ := Aq.mk (hb)
  have n4_ := Aq.mk (ho)
  clear BK527
  clear BK528
  clear BK531
  clear HB
  clear HO_532001
  have BK527 := n0_
  have BK528 := n1_
  have BK531 := n2_
  have HB := n3_
  have HO537 := n4_
  clear n0_ n1_ n2_ n3_ n4_
  clear ho hb hg hat
  obtain ⟨Ao28, co28, eo28⟩ := Kd.R_slice HO537.out
  (first | subst eo28 | (injection eo28 with f1_ f2_ f3_; have f4_ := f1_.symm; have f5_ := f3_.symm; clear f1_ f2_ f3_; subst f4_; subst f5_))
  refine hK.out _ _ ⟨(kQC BK531.out 0).trans rfl, (kQC BK531.out 1).trans rfl, (kQC BK527.out 0).trans rfl, (kQC BK527.out 1).trans rfl, (tcw tB hw532_0)⟩ (fun hHeld => ?_)
  clear hK K
  refine tN 44 ?_
  refine tP0 13 45 (bm 15 16383) ?_
  refine last_ (i := 14) (N := none) #[true, true, true, true, true, true, true, true, true, true, true, true, true, true, true] rfl rfl (one_of HT_.out (by kernel_rfl)) (by decide) (fun K hK => ?_)
  have hs29 : w27.cell? ⟨gb531, 1, none⟩ = some (u532001) := (kQC BK531.out 1).trans rfl
  have hfs29 := kQF BK531.out 1
  have hns29_0 := NB527_531.out
  have hns29_1 := NB528_531.out
  have hms29_0 := NB531_527.out
  have hms29_1 := NB531_528.out
  refine skip_ (w1 := ?_) (by rfl) rfl ?_ ?_
  rotate_left
  ·go_simp
   rfl
  refine hK.out _ _ ?_
  clear hK K
  refine done_ (done_of HT_.out (by kernel_rfl)) ?_
  try go_wp2
  go_roundg k1
  case measure => have := HK1.out; omega
  case rel => exact ⟨(wrap64 (x10_1 + 1)), (y535), (.slice Ao28 y535.length co28), tS, H', ⟨by have := HK1.out; omega⟩, ⟨by (with_reducible repeat (first | apply Kd.RqA | apply Kd.RqN | apply Kd.RqD)); exact Kd.R_mono (Kd.R_far (p := ⟨gb531, 1, none⟩) (Kd.R_types HO537.out BK531.out (by decide)) (fun _ hk => hk.2) (.slice Ao28 y535.length co28)) (fun _ hk => trivial)⟩, ⟨by (with_reducible repeat (first | refine kQN ?_ _ | refine kQD ?_ | refine kQA ?_ _)); refine kQR ?_ NB527_531.out _; (with_reducible repeat (first | refine kQN ?_ _ | refine kQD ?_ | refine kQA ?_ _)); exact BK527.out⟩, ⟨by (with_reducible repeat (first | refine kQN ?_ _ | refine kQD ?_ | refine kQA ?_ _)); refine kQR ?_ NB528_531.out _; (with_reducible repeat (first | refine kQN ?_ _ | refine kQD ?_ | refine kQA ?_ _)); exact BK528.out⟩, ⟨by (with_reducible repeat (first | refine kQN ?_ _ | refine kQD ?_ | refine kQA ?_ _)); refine kQP (cs := #[.int .i64 a0_0, u532001]) ?_ 1 _ rfl; (with_reducible repeat (first | refine kQN ?_ _ | refine kQD ?_ | refine kQA ?_ _)); exact BK531.out⟩, ⟨tB⟩⟩
end Go.Proofs.Ytbgbblgdbcjibaa.P
