/- Functions of the program and what they tell, as the printing program wrote it. -/
import Derived.Test.YtbgbblgdbcjibaaPx0
import Derived.Test.YtbgbblgdbcjibaaPx9
import Derived.Test.YtbgbblgdbcjibaaPx11
import Derived.Test.YtbgbblgdbcjibaaPx22
namespace Go.Proofs.Ytbgbblgdbcjibaa.P
open Go.Shelf Go.RowKit Go.Proofs.YtbgbblgdbcjibaaW.PrintWords Go.Proofs.YtbgbblgdbcjibaaW.PrintLast Go.Proofs.YtbgbblgdbcjibaaW.PrintMore
attribute [local go_sem] max2_int min2_int max_two min_two max_three min_three max_four min_four
set_option linter.unusedVariables false
set_option linter.unusedSimpArgs false
set_option maxHeartbeats 8000000
set_option maxRecDepth 100000
def impl_DualBasis.l0 : Nat → List Int → Int → Int → Int → Int → List Int → Option (List Int × Int)
  | 0, _, _, _, _, _, _ => none
  | k + 1, x7, x17, x18, x360000, x360001, x361000 => if x18 < x17 then ((impl_Field_all.f k x360000 x360001).bind fun t366 => ((slices_IndexFunc_int64_int64_AT_impl_DualBasis_1.f k t366 x361000 x360000 x360001 x18).bind fun t369 => (if x7.length < 17592186044416 then (impl_DualBasis.l0 k (x7 ++ [t369]) x17 (wrap64 (x18 + 1)) x360000 x360001 x361000) else (none)))) else (some (x7, 0))
def impl_DualBasis.f (k : Nat) (a0_0 : Int) (a0_1 : Int) (l1 : List Int) : Option (List Int × Int) := (impl_Field_basisCode.f k a0_0 a0_1 l1 ([] : List Int)).bind fun t361 => (if t361 = 0 then (impl_DualBasis.l0 k (([] : List Int)) (l1.length : Int) 0 a0_0 a0_1 l1) else (some (([] : List Int), t361)))
theorem impl_DualBasis.mono_l : ∀ k, (∀ y0 y1 y2 y3 y4 y5, LeO (impl_DualBasis.l0 k y0 y1 y2 y3 y4 y5) (impl_DualBasis.l0 (k + 1) y0 y1 y2 y3 y4 y5))
 | 0 => fun _ _ _ _ _ _ r h => by simp [impl_DualBasis.l0] at h
 | k + 1 => by
  have ih0 := impl_DualBasis.mono_l k
  ·intro y0 y1 y2 y3 y4 y5
   unfold impl_DualBasis.l0
   repeat' first
   | (with_reducible first | apply ih0 | apply impl_Field_all.mono | apply impl_Field_basisCode.mono | apply slices_IndexFunc_int64_int64_AT_impl_DualBasis_1.mono | exact LeO.refl _ | exact LeO.none _ | refine LeO.ite ?_ ?_ | refine LeO.bind ?_ (fun _ => ?_))
   | exact LeO.none _
   | refine LeO.ite ?_ ?_
   | refine LeO.bind ?_ (fun _ => ?_)
theorem impl_DualBasis.mono : ∀ a0 a1 a2 k, LeO (impl_DualBasis.f k a0 a1 a2) (impl_DualBasis.f (k + 1) a0 a1 a2) := by
 intro a0 a1 a2 k
 have ih0 := impl_DualBasis.mono_l k
 unfold impl_DualBasis.f
 repeat' first
  | (with_reducible first | apply ih0 | apply impl_Field_all.mono | apply impl_Field_basisCode.mono | apply slices_IndexFunc_int64_int64_AT_impl_DualBasis_1.mono | exact LeO.refl _ | exact LeO.none _ | refine LeO.ite ?_ ?_ | refine LeO.bind ?_ (fun _ => ?_))
  | exact LeO.none _
  | refine LeO.ite ?_ ?_
  | refine LeO.bind ?_ (fun _ => ?_)
theorem impl_DualBasis.calls (k : Nat) (a0_0 : Int) (a0_1 : Int) (A1 : Option Addr) (c1 : Nat) (l1 : List Int) (r1 : List Int) (r2 : Int) (w : World) (hr1 : Kd.C (Kd.int .i64) w A1 l1.length l1) (hc1 : l1.length ≤ c1) (h : impl_DualBasis.f k a0_0 a0_1 l1 = some (r1, r2)) :
 Calls Try.prog 21 #[.agg #[.int .i64 a0_0, .int .i64 a0_1], .slice A1 l1.length c1] w fun e w' => ∃ v0_ : Value, e = .returned (.tuple #[v0_, .int .i64 r2]) ∧ Kd.R (Kd.int .i64) 2 w' w.heap.size (fun _ => True) v0_ r1 ∧ Below w.heap.size w w' := by
 have hu26 := Try.underlying26
 have HR1 := Aq.mk hr1
 have HC1 := Aq.mk hc1
 clear hr1 hc1
 have HB := Aq.mk (Below.refl w.heap.size w)
 have H : ((impl_Field_basisCode.f k a0_0 a0_1 l1 ([] : List Int)).bind fun t361 => (if t361 = 0 then (impl_DualBasis.l0 k (([] : List Int)) (l1.length : Int) 0 a0_0 a0_1 l1) else (some (([] : List Int), t361)))) = some (r1, r2) := h
 clear h
 obtain ⟨t361, A3, H⟩ := qBd H
 by_cases c4 : t361 = 0
 rotate_left
 ·rw [if_neg c4] at H
  have c4b0 := beq_eq_false_iff_ne.mpr c4
  have c4b1 := bne_iff_ne.mpr c4
  simp only [Option.some.injEq, Prod.mk.injEq] at H
  obtain ⟨rfl, rfl⟩ := H
  go_enter Try.func21, Try.ntmps21
  go_wp2_with (first | ((with_reducible refine gQd (N := 2) rfl ?_); refine xQe ?hg (N := 2) ?hd (cs := #[.int .i64 a0_0, .int .i64 a0_1]) (t := 26) ?hr ?_; (case hd => rfl); (case hg => rfl); (case hr => exact tH); intro gb359 hg w28 hbox hb; refine qM4 (bQT tB hb) hbox (tZ w hg) (tZ w hg) ?_; clear HB; intro HB BK359 GW359 GE359; clear hb hbox hg) | ((with_reducible refine gQd (N := 3) rfl ?_); refine xQe ?hg (N := 3) ?hd (cs := #[.slice A1 l1.length c1]) (t := 29) ?hr ?_; (case hd => rfl); (case hg => rfl); (case hr => exact tH); intro gb360 hg w29 hbox hb; refine qM7 (tQ BK359.out hb) (bQT tB hb) hbox (tZ w hg) (tZ w hg) ((by rw [hg]; exact Nat.ne_of_lt (blk_lt (g := gb359) (o := .cells #[.int .i64 a0_0, .int .i64 a0_1] 26 (0, 0)) (tG BK359.out)) : gb359 ≠ gb360)) ((by rw [hg]; exact Nat.ne_of_gt (blk_lt (g := gb359) (o := .cells #[.int .i64 a0_0, .int .i64 a0_1] 26 (0, 0)) (tG BK359.out)) : gb360 ≠ gb359)) ?_; clear BK359 HB; intro BK359 HB BK360 GW360 GE360 NB359_360 NB360_359; clear hb hbox hg; have hnb30 := NB359_360.out; have hnc30 := NB360_359.out; have hcz31_0 : w29.cell? ⟨gb359, 0, none⟩ = some (.int .i64 a0_0) := (kQC BK359.out 0).trans rfl; have hcz31_1 : w29.cell? ⟨gb359, 1, none⟩ = some (.int .i64 a0_1) := (kQC BK359.out 1).trans rfl; have hfz31_0 := kQF BK359.out 0; have hfz31_1 := kQF BK359.out 1; have hcz32_0 : w29.cell? ⟨gb360, 0, none⟩ = some (.slice A1 l1.length c1) := (kQC BK360.out 0).trans rfl; have hfz32_0 := kQF BK360.out 0) | ((with_reducible refine gQc (f := 46) rfl ?_); refine goesL_ (some 11) rfl rfl Try.func46 (by kernel_rfl) rfl #[.agg #[.int .i64 a0_0, .int .i64 a0_1], .slice A1 l1.length c1, .slice none 0 0] rfl tL ?_; (refine (impl_Field_basisCode.calls k a0_0 a0_1 _ _ l1 _ _ ([] : List Int) t361 _ ?s1 ?s2 ?s3 ?s4 A3.out).mono ?_); (case s1 => exact tC ((Kd.C_below HR1.out HB.out))); (case s2 => exact HC1.out); (case s3 => exact Kd.C_nil _ _); (case s4 => exact Nat.le_refl _); rintro e w33 ⟨rfl, hb⟩; refine ⟨_, rfl, ?_⟩; refine qM3 (tQ BK359.out hb) (tQ BK360.out hb) (bQT tB hb) ?_; clear BK359 BK360 HB; intro BK359 BK360 HB; (try clear hb); (try clear hb2); (try clear hk); (try clear hi)))
  go_ret2
  exact ⟨_, tE, by first | exact Kd.R_nil _ _ _ _ _ | exact Kd.N_nil _ _ _ _ _ | exact Kd.V_nil _ _ _ _ _ | exact Kd.Q_nil _ _ _ _ _ | exact Kd.S_nil _ _ _ _ _, tB⟩
 rw [if_pos c4] at H
 have c4b0 := beq_iff_eq.mpr c4
 have c4b1 := bne_eq_false_iff_eq.mpr c4
 clear c4
 obtain ⟨y362, hy362⟩ : ∃ y_ : List Int, y_ = (([] : List Int)) := ⟨_, rfl⟩
 replace H : (impl_DualBasis.l0 k y362 (l1.length : Int) 0 a0_0 a0_1 l1) = some (r1, r2) := by first | (rw [hy362]; with_reducible exact H) | (have H2_ := (Option.bind_some _ _).symm.trans H; rw [hy362]; with_reducible exact H2_) | (have H2_ := (Option.bind_some _ _).symm.trans H; with_reducible exact H2_) | with_reducible exact H | (rw [hy362]; exact H) | exact H
 have Ny362 := Aq.mk hy362
 clear hy362
 replace H' := Aq.mk H
 clear H
 go_enter Try.func21, Try.ntmps21
 go_wp2_with (first | ((with_reducible refine gQd (N := 2) rfl ?_); refine xQe ?hg (N := 2) ?hd (cs := #[.int .i64 a0_0, .int .i64 a0_1]) (t := 26) ?hr ?_; (case hd => rfl); (case hg => rfl); (case hr => exact tH); intro gb359 hg w5 hbox hb; refine qM4 (bQT tB hb) hbox (tZ w hg) (tZ w hg) ?_; clear HB; intro HB BK359 GW359 GE359; clear hb hbox hg) | ((with_reducible refine gQd (N := 3) rfl ?_); refine xQe ?hg (N := 3) ?hd (cs := #[.slice A1 l1.length c1]) (t := 29) ?hr ?_; (case hd => rfl); (case hg => rfl); (case hr => exact tH); intro gb360 hg w6 hbox hb; refine qM7 (tQ BK359.out hb) (bQT tB hb) hbox (tZ w hg) (tZ w hg) ((by rw [hg]; exact Nat.ne_of_lt (blk_lt (g := gb359) (o := .cells #[.int .i64 a0_0, .int .i64 a0_1] 26 (0, 0)) (tG BK359.out)) : gb359 ≠ gb360)) ((by rw [hg]; exact Nat.ne_of_gt (blk_lt (g := gb359) (o := .cells #[.int .i64 a0_0, .int .i64 a0_1] 26 (0, 0)) (tG BK359.out)) : gb360 ≠ gb359)) ?_; clear BK359 HB; intro BK359 HB BK360 GW360 GE360 NB359_360 NB360_359; clear hb hbox hg; have hnb7 := NB359_360.out; have hnc7 := NB360_359.out; have hcz8_0 : w6.cell? ⟨gb359, 0, none⟩ = some (.int .i64 a0_0) := (kQC BK359.out 0).trans rfl; have hcz8_1 : w6.cell? ⟨gb359, 1, none⟩ = some (.int .i64 a0_1) := (kQC BK359.out 1).trans rfl; have hfz8_0 := kQF BK359.out 0; have hfz8_1 := kQF BK359.out 1; have hcz9_0 : w6.cell? ⟨gb360, 0, none⟩ = some (.slice A1 l1.length c1) := (kQC BK360.out 0).trans rfl; have hfz9_0 := kQF BK360.out 0) | ((with_reducible refine gQc (f := 46) rfl ?_); refine goesL_ (some 11) rfl rfl Try.func46 (by kernel_rfl) rfl #[.agg #[.int .i64 a0_0, .int .i64 a0_1], .slice A1 l1.length c1, .slice none 0 0] rfl tL ?_; (refine (impl_Field_basisCode.calls k a0_0 a0_1 _ _ l1 _ _ ([] : List Int) t361 _ ?s1 ?s2 ?s3 ?s4 A3.out).mono ?_); (case s1 => exact tC ((Kd.C_below HR1.out HB.out))); (case s2 => exact HC1.out); (case s3 => exact Kd.C_nil _ _); (case s4 => exact Nat.le_refl _); rintro e w10 ⟨rfl, hb⟩; refine ⟨_, rfl, ?_⟩; refine qM3 (tQ BK359.out hb) (tQ BK360.out hb) (bQT tB hb) ?_; clear BK359 BK360 HB; intro BK359 BK360 HB; (try clear hb); (try clear hb2); (try clear hk); (try clear hi)) | ((with_reducible refine gQd (N := 15) rfl ?_); refine Kd.R_lit (Kd.int .i64) _ 2 ?hg (N := 15) ?hd (xs := ([] : List Int)) (inner := []) (ok := fun _ => True) (okp := fun _ => True) ?hr ?hp (fun _ hk => hk) trivial (Below.refl _ _) (Nat.le_refl _) (by simp) ?_; (case hd => rfl); (case hg => rfl); (case hr => exact tH); (case hp => exact (Reps.none _ _)); intro v363 w11 ho12 hb hg_ hnew_; clear hg_ hnew_; (first | rw [← Ny362.out] at ho12 | (simp only [Int.reduceToNat] at ho12; rw [← Ny362.out] at ho12)); refine qM4 (Kd.R_lower ho12 (bQZ tB)) (tQ BK359.out hb) (tQ BK360.out hb) (bQT tB hb) ?_; clear BK359 BK360 HB; intro HO364 BK359 BK360 HB; clear hb ho12; have hcz13_0 : w11.cell? ⟨gb360, 0, none⟩ = some (.slice A1 l1.length c1) := (kQC BK360.out 0).trans rfl; have hfz13_0 := kQF BK360.out 0))
 go_loopg [7, 18] k (fun kq v7 v18 w' => ∃ (x7_1 : List Int) (x18_1 : Int), v18 = .int .i64 x18_1 ∧ Aq (impl_DualBasis.l0 kq x7_1 (l1.length : Int) x18_1 a0_0 a0_1 l1 = some (r1, r2)) ∧ Aq (kq ≤ k) ∧ Aq (Kd.R (Kd.int .i64) 2 w' w.heap.size (fun _ => True) v7 x7_1) ∧ Aq (w'.heap[gb359]? = some (.cells #[.int .i64 a0_0, .int .i64 a0_1] 26 (0, 0))) ∧ Aq (w'.heap[gb360]? = some (.cells #[(.slice A1 l1.length c1)] 29 (0, 0))) ∧ Aq (Below w.heap.size w w'))
 case atStart => exact ⟨(y362), (0), tS, H', ⟨Nat.le_refl _⟩, ⟨tR HO364.out⟩, ⟨tG BK359.out⟩, ⟨tG BK360.out⟩, ⟨tB⟩⟩
 clear H'
 try clear c1
 try clear c4
 try clear c4b0
 try clear c4b1
 try clear hcz13_0
 try clear hcz8_0
 try clear hcz8_1
 try clear hcz9_0
 try clear hfz13_0
 try clear hfz8_0
 try clear hfz8_1
 try clear hfz9_0
 obtain ⟨x7_1, x18_1, rfl, HA, HK1, HO_7, BK359, BK360, HB⟩ := hrel
 cases gk with
 | zero => exact absurd HA.out (by simp [impl_DualBasis.l0])
 | succ k1 =>
  have H := HA.out
  clear HA
  simp only [impl_DualBasis.l0] at H
  by_cases c14 : x18_1 < (l1.length : Int)
  rotate_left
  ·rw [if_neg c14] at H
   have c14b0 := decide_eq_false c14
   clear c14
   simp only [Option.some.injEq, Prod.mk.injEq] at H
   obtain ⟨rfl, rfl⟩ := H
   go_wp2
   go_ret2
   exact ⟨_, tE, tR HO_7.out, tB⟩
  rw [if_pos c14] at H
  have c14b0 := decide_eq_true c14
  clear c14
  obtain ⟨t366, A15, H⟩ := qBd H
  obtain ⟨t369, A16, H⟩ := qBd H
  by_cases c17 : x7_1.length < 17592186044416
  rotate_left
  ·rw [if_neg c17] at H
   exact absurd H (by simp)
  rw [if_pos c17] at H
  have LMc17 := Aq.mk c17
  clear c17
  obtain ⟨y370, hy370⟩ : ∃ y_ : List Int, y_ = (x7_1 ++ [t369]) := ⟨_, rfl⟩
  replace H : (impl_DualBasis.l0 k1 y370 (l1.length : Int) (wrap64 (x18_1 + 1)) a0_0 a0_1 l1) = some (r1, r2) := by first | (rw [hy370]; with_reducible exact H) | (have H2_ := (Option.bind_some _ _).symm.trans H; rw [hy370]; with_reducible exact H2_) | (have H2_ := (Option.bind_some _ _).symm.trans H; with_reducible exact H2_) | with_reducible exact H | (rw [hy370]; exact H) | exact H
  have Ny370 := Aq.mk hy370
  clear hy370
  replace H' := Aq.mk H
  clear H
  go_wp2_with (first | ((with_reducible refine gQd (N := 8) rfl ?_); refine xQe ?hg (N := 8) ?hd (cs := #[.int .i64 0]) (t := 3) ?hr ?_; (case hd => rfl); (case hg => rfl); (case hr => exact tH); intro gb365 hg w18 hbox hb; refine qM11 (Kd.R_below (tR HO_7.out) hb) (tQ BK359.out hb) (tQ BK360.out hb) (bQT tB hb) hbox (tZ w hg) (tZ w hg) ((by rw [hg]; exact Nat.ne_of_lt (blk_lt (g := gb359) (o := .cells #[.int .i64 a0_0, .int .i64 a0_1] 26 (0, 0)) (tG BK359.out)) : gb359 ≠ gb365)) ((by rw [hg]; exact Nat.ne_of_gt (blk_lt (g := gb359) (o := .cells #[.int .i64 a0_0, .int .i64 a0_1] 26 (0, 0)) (tG BK359.out)) : gb365 ≠ gb359)) ((by rw [hg]; exact Nat.ne_of_lt (blk_lt (g := gb360) (o := .cells #[.slice A1 l1.length c1] 29 (0, 0)) (tG BK360.out)) : gb360 ≠ gb365)) ((by rw [hg]; exact Nat.ne_of_gt (blk_lt (g := gb360) (o := .cells #[.slice A1 l1.length c1] 29 (0, 0)) (tG BK360.out)) : gb365 ≠ gb360)) ?_; clear HO_7 BK359 BK360 HB; intro HO_7 BK359 BK360 HB BK365 GW365 GE365 NB359_365 NB365_359 NB360_365 NB365_360; clear hb hbox hg; have hnb19 := NB365_359.out; have hnc19 := NB359_365.out; have hnb20 := NB365_360.out; have hnc20 := NB360_365.out; have hcz21_0 : w18.cell? ⟨gb365, 0, none⟩ = some (.int .i64 0) := (kQC BK365.out 0).trans rfl; have hfz21_0 := kQF BK365.out 0; have hnb22 := NB359_360.out; have hnc22 := NB360_359.out; have hcz23_0 : w18.cell? ⟨gb359, 0, none⟩ = some (.int .i64 a0_0) := (kQC BK359.out 0).trans rfl; have hcz23_1 : w18.cell? ⟨gb359, 1, none⟩ = some (.int .i64 a0_1) := (kQC BK359.out 1).trans rfl; have hfz23_0 := kQF BK359.out 0; have hfz23_1 := kQF BK359.out 1) | ((with_reducible refine gQc (f := 40) rfl ?_); refine goesL_ (some 23) rfl rfl Try.func40 (by kernel_rfl) rfl #[.agg #[.int .i64 a0_0, .int .i64 a0_1]] rfl tL ?_; (with_reducible refine (impl_Field_all.calls k1 a0_0 a0_1 t366 _ A15.out).mono ?_); rintro e w24 ⟨v367, rfl, ho0, hb⟩; refine ⟨_, rfl, ?_⟩; refine qM6 (Kd.R_elder' (by (with_reducible repeat (first | apply Kd.RqA | apply Kd.RqN | apply Kd.RqD)); exact (Kd.R_mono (Kd.R_far (p := ⟨gb365, 0, none⟩) (Kd.R_types HO_7.out BK365.out (by decide)) (fun _ hk => hk.2) (.int .i64 x18_1)) (fun _ h_ => h_.1))) (Kd.R_base ho0) hb) (Kd.R_lower (Kd.R_new' ho0 (Kd.R_lt (by (with_reducible repeat (first | apply Kd.RqA | apply Kd.RqN | apply Kd.RqD)); exact (Kd.R_mono (Kd.R_far (p := ⟨gb365, 0, none⟩) (Kd.R_types HO_7.out BK365.out (by decide)) (fun _ hk => hk.2) (.int .i64 x18_1)) (fun _ h_ => h_.1))))) (bQZ tB)) (kQB (g := gb359) (o := .cells #[.int .i64 a0_0, .int .i64 a0_1] 26 (0, 0)) (by (with_reducible repeat (first | refine kQN ?_ _ | refine kQD ?_ | refine kQA ?_ _)); refine kQR ?_ NB359_365.out _; (with_reducible repeat (first | refine kQN ?_ _ | refine kQD ?_ | refine kQA ?_ _)); exact BK359.out) hb) (kQB (g := gb360) (o := .cells #[.slice A1 l1.length c1] 29 (0, 0)) (by (with_reducible repeat (first | refine kQN ?_ _ | refine kQD ?_ | refine kQA ?_ _)); refine kQR ?_ NB360_365.out _; (with_reducible repeat (first | refine kQN ?_ _ | refine kQD ?_ | refine kQA ?_ _)); exact BK360.out) hb) (kQB (g := gb365) (o := .cells #[.int .i64 x18_1] 3 (0, 0)) (by (with_reducible repeat (first | refine kQN ?_ _ | refine kQD ?_ | refine kQA ?_ _)); refine kQP (cs := #[.int .i64 0]) ?_ 0 _ rfl; (with_reducible repeat (first | refine kQN ?_ _ | refine kQD ?_ | refine kQA ?_ _)); exact BK365.out) hb) (bQT tB hb) ?_; clear HO_7 BK359 BK360 BK365 HB; intro HO_7 HO368 BK359 BK360 BK365 HB; (try clear hb); (try clear hb2); (try clear hk); (try clear hi); (try clear ho0); obtain ⟨Ao25, co25, eo25⟩ := Kd.R_slice HO368.out; subst eo25) | ((with_reducible refine gQc (f := 49) rfl ?_); refine goesL_ (some 25) rfl rfl Try.func49 (by kernel_rfl) rfl #[.slice Ao25 t366.length co25, .func (.func 50) #[] #[.pointer (some ⟨gb360, 0, none⟩), .pointer (some ⟨gb359, 0, none⟩), .pointer (some ⟨gb365, 0, none⟩)]] rfl tL ?_; (with_reducible refine (slices_IndexFunc_int64_int64_AT_impl_DualBasis_1.calls k1 _ _ t366 (⟨gb360, 0, none⟩ : Addr) (⟨gb359, 0, none⟩ : Addr) (⟨gb365, 0, none⟩ : Addr) A1 c1 l1 a0_0 a0_1 x18_1 t369 _ ?s1 ?s2 ?s3 ?s4 ?s5 ?s6 ?s7 A16.out).mono ?_); (case s1 => exact tC ((Kd.R_reads' HO368.out).2.2)); (case s2 => exact (Kd.R_reads' HO368.out).2.1); (case s3 => exact tC ((Kd.C_below HR1.out HB.out))); (case s4 => exact HC1.out); (case s5 => exact AtC.of_blk (g := gb360) (t := 29) (cs := #[.slice A1 l1.length c1]) (tG BK360.out) rfl); (case s6 => exact AtC.of_blk (g := gb359) (t := 26) (cs := #[.int .i64 a0_0, .int .i64 a0_1]) (tG BK359.out) rfl); (case s7 => exact AtC.of_blk (g := gb365) (t := 3) (cs := #[.int .i64 x18_1]) (tG BK365.out) rfl); rintro e w26 ⟨rfl, hb⟩; refine ⟨_, rfl, ?_⟩; refine qM6 (Kd.R_below (tR HO_7.out) hb) (Kd.R_below (tR HO368.out) hb) (tQ BK359.out hb) (tQ BK360.out hb) (tQ BK365.out hb) (bQT tB hb) ?_; clear HO_7 HO368 BK359 BK360 BK365 HB; intro HO_7 HO368 BK359 BK360 BK365 HB; (try clear hb); (try clear hb2); (try clear hk); (try clear hi)) | ((with_reducible refine gate_builtin (b := .append) (xs := #[.tmp 21, .tmp 26]) rfl ?_); at_builtin; refine Kd.R_append (Kd.int .i64) (w0 := w) w.heap.size rfl (.tmp 21) (.tmp 26) 29 2 (.int .i64 0) 8 rfl Try.underlying29 info2 rfl (by decide) (by omega) u7 x7_1 t369 [.int .i64 t369] (fun k_ => some k_ ≠ (.slice Ao25 t366.length co25 : Value).ownBlock) (fun _ => False) rfl rfl ?aP (fun _ hk => hk.elim) ?aF ?aO ?aB ?aS ?aL ?_; (case aP => exact rfl); (case aB => exact tB); (case aF => exact (fun k_ hk => Kd.fresh' (Kd.R_lt (tR HO368.out)) k_ hk)); (case aO => exact (by (with_reducible repeat (first | apply Kd.RqA | apply Kd.RqN | apply Kd.RqD)); exact Kd.R_mono HO_7.out (fun _ hk => hk.2))); (case aS => exact (bQZ tB)); (case aL => have := LMc17.out; omega); intro v371 w27 ho hb hg hat; rw [← Ny370.out] at ho; refine qM6 (blk_grown (g := gb359) (o := .cells #[.int .i64 a0_0, .int .i64 a0_1] 26 (0, 0)) (tG BK359.out) hg (Kd.R_ne HO_7.out BK359.out (by decide))) (blk_grown (g := gb360) (o := .cells #[.slice A1 l1.length c1] 29 (0, 0)) (tG BK360.out) hg (Kd.R_ne HO_7.out BK360.out (by decide))) (blk_grown (g := gb365) (o := .cells #[.int .i64 x18_1] 3 (0, 0)) (tG BK365.out) hg (Kd.R_ne HO_7.out BK365.out (by decide))) (Kd.R_after (ok := (fun _ => True)) (tR HO368.out) hg hat) hb ho ?_; clear BK359 BK360 BK365 HO368 HB HO_7; intro BK359 BK360 BK365 HO368 HB HO372; clear ho hb hg hat))
  go_roundg k1
  case measure => have := HK1.out; omega
  case rel => exact ⟨(y370), (wrap64 (x18_1 + 1)), tS, H', ⟨by have := HK1.out; omega⟩, ⟨by (with_reducible repeat (first | apply Kd.RqA | apply Kd.RqN | apply Kd.RqD)); exact Kd.R_mono HO372.out (fun _ hk => trivial)⟩, ⟨tG BK359.out⟩, ⟨tG BK360.out⟩, ⟨tB⟩⟩
end Go.Proofs.Ytbgbblgdbcjibaa.P
