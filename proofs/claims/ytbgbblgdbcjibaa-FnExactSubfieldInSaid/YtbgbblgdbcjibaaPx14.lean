/- Functions of the program and what they tell, as the printing program wrote it. -/
import Derived.Test.YtbgbblgdbcjibaaPx0
import Derived.Test.YtbgbblgdbcjibaaPx1
import Derived.Test.YtbgbblgdbcjibaaPx7
namespace Go.Proofs.Ytbgbblgdbcjibaa.P
open Go.Shelf Go.RowKit Go.Proofs.YtbgbblgdbcjibaaW.PrintWords Go.Proofs.YtbgbblgdbcjibaaW.PrintLast Go.Proofs.YtbgbblgdbcjibaaW.PrintMore
attribute [local go_sem] max2_int min2_int max_two min_two max_three min_three max_four min_four
set_option linter.unusedVariables false
set_option linter.unusedSimpArgs false
set_option maxHeartbeats 8000000
set_option maxRecDepth 100000
def spec_SubfieldIn.l0 : Nat → Int → List Int → Int → Int → Int → Option (List Int × Int)
  | 0, _, _, _, _, _ => none
  | k + 1, x1, x6, x7, x192000, x192001 => (spec_l01Size.f x192000 x192001).bind fun t203 => (if x7 < t203 then ((spec_l01Square.f k x192000 x192001 x7 x1).bind fun t204 => (if t204 = x7 then (if x6.length < 17592186044416 then (spec_SubfieldIn.l0 k x1 (x6 ++ [x7]) (wrap64 (x7 + 1)) x192000 x192001) else (none)) else (spec_SubfieldIn.l0 k x1 x6 (wrap64 (x7 + 1)) x192000 x192001))) else (some (x6, 0)))
def spec_SubfieldIn.f (k : Nat) (a0_0 : Int) (a0_1 : Int) (a1 : Int) : Option (List Int × Int) := (spec_l01Ok.f k a0_0 a0_1).bind fun t192 => (if t192 = true then ((spec_l00In.f a1 1 a0_0).bind fun t196 => (if t196 = true then (spec_SubfieldIn.l0 k a1 (([] : List Int)) 0 a0_0 a0_1) else (some ((([] : List Int)), 2)))) else (some ((([] : List Int)), 1)))
theorem spec_SubfieldIn.mono_l : ∀ k, (∀ y0 y1 y2 y3 y4, LeO (spec_SubfieldIn.l0 k y0 y1 y2 y3 y4) (spec_SubfieldIn.l0 (k + 1) y0 y1 y2 y3 y4))
 | 0 => fun _ _ _ _ _ r h => by simp [spec_SubfieldIn.l0] at h
 | k + 1 => by
  have ih0 := spec_SubfieldIn.mono_l k
  ·intro y0 y1 y2 y3 y4
   unfold spec_SubfieldIn.l0
   repeat' first
   | (with_reducible first | apply ih0 | apply spec_l01Ok.mono | apply spec_l01Square.mono | exact LeO.refl _ | exact LeO.none _ | refine LeO.ite ?_ ?_ | refine LeO.bind ?_ (fun _ => ?_))
   | exact LeO.none _
   | refine LeO.ite ?_ ?_
   | refine LeO.bind ?_ (fun _ => ?_)
theorem spec_SubfieldIn.mono : ∀ a0 a1 a2 k, LeO (spec_SubfieldIn.f k a0 a1 a2) (spec_SubfieldIn.f (k + 1) a0 a1 a2) := by
 intro a0 a1 a2 k
 have ih0 := spec_SubfieldIn.mono_l k
 unfold spec_SubfieldIn.f
 repeat' first
  | (with_reducible first | apply ih0 | apply spec_l01Ok.mono | apply spec_l01Square.mono | exact LeO.refl _ | exact LeO.none _ | refine LeO.ite ?_ ?_ | refine LeO.bind ?_ (fun _ => ?_))
  | exact LeO.none _
  | refine LeO.ite ?_ ?_
  | refine LeO.bind ?_ (fun _ => ?_)
theorem spec_SubfieldIn.calls (k : Nat) (a0_0 : Int) (a0_1 : Int) (a1 : Int) (r1 : List Int) (r2 : Int) (w : World) (h : spec_SubfieldIn.f k a0_0 a0_1 a1 = some (r1, r2)) :
 Calls Try.prog 12 #[.agg #[.int .i64 a0_0, .int .i64 a0_1], .int .i64 a1] w fun e w' => ∃ v0_ : Value, e = .returned (.tuple #[v0_, .int .i64 r2]) ∧ Kd.R (Kd.int .i64) 2 w' w.heap.size (fun _ => True) v0_ r1 ∧ Below w.heap.size w w' := by
 have hu26 := Try.underlying26
 have HB := Aq.mk (Below.refl w.heap.size w)
 have H : ((spec_l01Ok.f k a0_0 a0_1).bind fun t192 => (if t192 = true then ((spec_l00In.f a1 1 a0_0).bind fun t196 => (if t196 = true then (spec_SubfieldIn.l0 k a1 (([] : List Int)) 0 a0_0 a0_1) else (some ((([] : List Int)), 2)))) else (some ((([] : List Int)), 1)))) = some (r1, r2) := h
 clear h
 obtain ⟨t192, A3, H⟩ := qBd H
 by_cases c4 : t192 = true
 rotate_left
 ·replace c4 := Bool.eq_false_iff.mpr c4
  subst c4
  rw [if_neg (show ¬ (false = true) by decide)] at H
  obtain ⟨y193, hy193⟩ : ∃ y_ : List Int, y_ = (([] : List Int)) := ⟨_, rfl⟩
  replace H : (some (y193, 1)) = some (r1, r2) := by first | (rw [hy193]; with_reducible exact H) | (have H2_ := (Option.bind_some _ _).symm.trans H; rw [hy193]; with_reducible exact H2_) | (have H2_ := (Option.bind_some _ _).symm.trans H; with_reducible exact H2_) | with_reducible exact H | (rw [hy193]; exact H) | exact H
  have Ny193 := Aq.mk hy193
  clear hy193
  simp only [Option.some.injEq, Prod.mk.injEq] at H
  obtain ⟨rfl, rfl⟩ := H
  go_enter Try.func12, Try.ntmps12
  go_wp2_with (first | ((with_reducible refine gQd (N := 2) rfl ?_); refine xQe ?hg (N := 2) ?hd (cs := #[.int .i64 a0_0, .int .i64 a0_1]) (t := 26) ?hr ?_; (case hd => rfl); (case hg => rfl); (case hr => exact tH); intro gb191 hg w35 hbox hb; refine qM4 (bQT tB hb) hbox (tZ w hg) (tZ w hg) ?_; clear HB; intro HB BK191 GW191 GE191; clear hb hbox hg; have hcz36_0 : w35.cell? ⟨gb191, 0, none⟩ = some (.int .i64 a0_0) := (kQC BK191.out 0).trans rfl; have hcz36_1 : w35.cell? ⟨gb191, 1, none⟩ = some (.int .i64 a0_1) := (kQC BK191.out 1).trans rfl; have hfz36_0 := kQF BK191.out 0; have hfz36_1 := kQF BK191.out 1) | ((with_reducible refine gQc (f := 29) rfl ?_); refine goesL_ (some 9) rfl rfl Try.func29 (by kernel_rfl) rfl #[.agg #[.int .i64 a0_0, .int .i64 a0_1]] rfl tL ?_; (with_reducible refine (spec_l01Ok.calls k a0_0 a0_1 false _ A3.out).mono ?_); rintro e w37 ⟨rfl, hb⟩; refine ⟨_, rfl, ?_⟩; refine qM2 (tQ BK191.out hb) (bQT tB hb) ?_; clear BK191 HB; intro BK191 HB; (try clear hb); (try clear hb2); (try clear hk); (try clear hi)) | ((with_reducible refine gQd (N := 11) rfl ?_); refine Kd.R_lit (Kd.int .i64) _ 2 ?hg (N := 11) ?hd (xs := ([] : List Int)) (inner := []) (ok := fun _ => True) (okp := fun _ => True) ?hr ?hp (fun _ hk => hk) trivial (Below.refl _ _) (Nat.le_refl _) (by simp) ?_; (case hd => rfl); (case hg => rfl); (case hr => exact tH); (case hp => exact (Reps.none _ _)); intro v194 w38 ho39 hb hg_ hnew_; clear hg_ hnew_; (first | rw [← Ny193.out] at ho39 | (simp only [Int.reduceToNat] at ho39; rw [← Ny193.out] at ho39)); refine qM3 (Kd.R_lower ho39 (bQZ tB)) (tQ BK191.out hb) (bQT tB hb) ?_; clear BK191 HB; intro HO195 BK191 HB; clear hb ho39))
  go_ret2
  exact ⟨_, tE, tR HO195.out, tB⟩
 subst c4
 rw [if_pos rfl] at H
 obtain ⟨t196, A5, H⟩ := qBd H
 by_cases c6 : t196 = true
 rotate_left
 ·replace c6 := Bool.eq_false_iff.mpr c6
  subst c6
  rw [if_neg (show ¬ (false = true) by decide)] at H
  obtain ⟨y197, hy197⟩ : ∃ y_ : List Int, y_ = (([] : List Int)) := ⟨_, rfl⟩
  replace H : (some (y197, 2)) = some (r1, r2) := by first | (rw [hy197]; with_reducible exact H) | (have H2_ := (Option.bind_some _ _).symm.trans H; rw [hy197]; with_reducible exact H2_) | (have H2_ := (Option.bind_some _ _).symm.trans H; with_reducible exact H2_) | with_reducible exact H | (rw [hy197]; exact H) | exact H
  have Ny197 := Aq.mk hy197
  clear hy197
  simp only [Option.some.injEq, Prod.mk.injEq] at H
  obtain ⟨rfl, rfl⟩ := H
  go_enter Try.func12, Try.ntmps12
  go_wp2_with (first | ((with_reducible refine gQd (N := 2) rfl ?_); refine xQe ?hg (N := 2) ?hd (cs := #[.int .i64 a0_0, .int .i64 a0_1]) (t := 26) ?hr ?_; (case hd => rfl); (case hg => rfl); (case hr => exact tH); intro gb191 hg w29 hbox hb; refine qM4 (bQT tB hb) hbox (tZ w hg) (tZ w hg) ?_; clear HB; intro HB BK191 GW191 GE191; clear hb hbox hg; have hcz30_0 : w29.cell? ⟨gb191, 0, none⟩ = some (.int .i64 a0_0) := (kQC BK191.out 0).trans rfl; have hcz30_1 : w29.cell? ⟨gb191, 1, none⟩ = some (.int .i64 a0_1) := (kQC BK191.out 1).trans rfl; have hfz30_0 := kQF BK191.out 0; have hfz30_1 := kQF BK191.out 1) | ((with_reducible refine gQc (f := 29) rfl ?_); refine goesL_ (some 9) rfl rfl Try.func29 (by kernel_rfl) rfl #[.agg #[.int .i64 a0_0, .int .i64 a0_1]] rfl tL ?_; (with_reducible refine (spec_l01Ok.calls k a0_0 a0_1 true _ A3.out).mono ?_); rintro e w31 ⟨rfl, hb⟩; refine ⟨_, rfl, ?_⟩; refine qM2 (tQ BK191.out hb) (bQT tB hb) ?_; clear BK191 HB; intro BK191 HB; (try clear hb); (try clear hb2); (try clear hk); (try clear hi); have hcz32_0 : w31.cell? ⟨gb191, 0, none⟩ = some (.int .i64 a0_0) := (kQC BK191.out 0).trans rfl; have hcz32_1 : w31.cell? ⟨gb191, 1, none⟩ = some (.int .i64 a0_1) := (kQC BK191.out 1).trans rfl; have hfz32_0 := kQF BK191.out 0; have hfz32_1 := kQF BK191.out 1) | ((with_reducible refine gQc (f := 35) rfl ?_); refine goesL_ (some 15) rfl rfl Try.func35 (by kernel_rfl) rfl #[.int .i64 a1, .int .i64 1, .int .i64 a0_0] rfl tL ?_; (with_reducible refine (spec_l00In.calls a1 1 a0_0 false _ A5.out).mono ?_); rintro e w' ⟨rfl, ⟨nd, rfl⟩⟩; refine ⟨_, rfl, ?_⟩) | ((with_reducible refine gQd (N := 17) rfl ?_); refine Kd.R_lit (Kd.int .i64) _ 2 ?hg (N := 17) ?hd (xs := ([] : List Int)) (inner := []) (ok := fun _ => True) (okp := fun _ => True) ?hr ?hp (fun _ hk => hk) trivial (Below.refl _ _) (Nat.le_refl _) (by simp) ?_; (case hd => rfl); (case hg => rfl); (case hr => exact tH); (case hp => exact (Reps.none _ _)); intro v198 w33 ho34 hb hg_ hnew_; clear hg_ hnew_; (first | rw [← Ny197.out] at ho34 | (simp only [Int.reduceToNat] at ho34; rw [← Ny197.out] at ho34)); refine qM3 (Kd.R_lower ho34 (bQZ tB)) (tQ BK191.out hb) (bQT tB hb) ?_; clear BK191 HB; intro HO199 BK191 HB; clear hb ho34))
  go_ret2
  exact ⟨_, tE, tR HO199.out, tB⟩
 subst c6
 rw [if_pos rfl] at H
 obtain ⟨y200, hy200⟩ : ∃ y_ : List Int, y_ = (([] : List Int)) := ⟨_, rfl⟩
 replace H : (spec_SubfieldIn.l0 k a1 y200 0 a0_0 a0_1) = some (r1, r2) := by first | (rw [hy200]; with_reducible exact H) | (have H2_ := (Option.bind_some _ _).symm.trans H; rw [hy200]; with_reducible exact H2_) | (have H2_ := (Option.bind_some _ _).symm.trans H; with_reducible exact H2_) | with_reducible exact H | (rw [hy200]; exact H) | exact H
 have Ny200 := Aq.mk hy200
 clear hy200
 replace H' := Aq.mk H
 clear H
 go_enter Try.func12, Try.ntmps12
 go_wp2_with (first | ((with_reducible refine gQd (N := 2) rfl ?_); refine xQe ?hg (N := 2) ?hd (cs := #[.int .i64 a0_0, .int .i64 a0_1]) (t := 26) ?hr ?_; (case hd => rfl); (case hg => rfl); (case hr => exact tH); intro gb191 hg w7 hbox hb; refine qM4 (bQT tB hb) hbox (tZ w hg) (tZ w hg) ?_; clear HB; intro HB BK191 GW191 GE191; clear hb hbox hg; have hcz8_0 : w7.cell? ⟨gb191, 0, none⟩ = some (.int .i64 a0_0) := (kQC BK191.out 0).trans rfl; have hcz8_1 : w7.cell? ⟨gb191, 1, none⟩ = some (.int .i64 a0_1) := (kQC BK191.out 1).trans rfl; have hfz8_0 := kQF BK191.out 0; have hfz8_1 := kQF BK191.out 1) | ((with_reducible refine gQc (f := 29) rfl ?_); refine goesL_ (some 9) rfl rfl Try.func29 (by kernel_rfl) rfl #[.agg #[.int .i64 a0_0, .int .i64 a0_1]] rfl tL ?_; (with_reducible refine (spec_l01Ok.calls k a0_0 a0_1 true _ A3.out).mono ?_); rintro e w9 ⟨rfl, hb⟩; refine ⟨_, rfl, ?_⟩; refine qM2 (tQ BK191.out hb) (bQT tB hb) ?_; clear BK191 HB; intro BK191 HB; (try clear hb); (try clear hb2); (try clear hk); (try clear hi); have hcz10_0 : w9.cell? ⟨gb191, 0, none⟩ = some (.int .i64 a0_0) := (kQC BK191.out 0).trans rfl; have hcz10_1 : w9.cell? ⟨gb191, 1, none⟩ = some (.int .i64 a0_1) := (kQC BK191.out 1).trans rfl; have hfz10_0 := kQF BK191.out 0; have hfz10_1 := kQF BK191.out 1) | ((with_reducible refine gQc (f := 35) rfl ?_); refine goesL_ (some 15) rfl rfl Try.func35 (by kernel_rfl) rfl #[.int .i64 a1, .int .i64 1, .int .i64 a0_0] rfl tL ?_; (with_reducible refine (spec_l00In.calls a1 1 a0_0 true _ A5.out).mono ?_); rintro e w' ⟨rfl, ⟨nd, rfl⟩⟩; refine ⟨_, rfl, ?_⟩) | ((with_reducible refine gQd (N := 18) rfl ?_); refine Kd.R_lit (Kd.int .i64) _ 2 ?hg (N := 18) ?hd (xs := ([] : List Int)) (inner := []) (ok := fun _ => True) (okp := fun _ => True) ?hr ?hp (fun _ hk => hk) trivial (Below.refl _ _) (Nat.le_refl _) (by simp) ?_; (case hd => rfl); (case hg => rfl); (case hr => exact tH); (case hp => exact (Reps.none _ _)); intro v201 w11 ho12 hb hg_ hnew_; clear hg_ hnew_; (first | rw [← Ny200.out] at ho12 | (simp only [Int.reduceToNat] at ho12; rw [← Ny200.out] at ho12)); refine qM3 (Kd.R_lower ho12 (bQZ tB)) (tQ BK191.out hb) (bQT tB hb) ?_; clear BK191 HB; intro HO202 BK191 HB; clear hb ho12))
 go_loopg [6, 7] k (fun kq v6 v7 w' => ∃ (x6_1 : List Int) (x7_1 : Int), v7 = .int .i64 x7_1 ∧ Aq (spec_SubfieldIn.l0 kq a1 x6_1 x7_1 a0_0 a0_1 = some (r1, r2)) ∧ Aq (kq ≤ k) ∧ Aq (Kd.R (Kd.int .i64) 2 w' w.heap.size (fun _ => True) v6 x6_1) ∧ Aq (w'.heap[gb191]? = some (.cells #[.int .i64 a0_0, .int .i64 a0_1] 26 (0, 0))) ∧ Aq (Below w.heap.size w w'))
 case atStart => exact ⟨(y200), (0), tS, H', ⟨Nat.le_refl _⟩, ⟨tR HO202.out⟩, ⟨tG BK191.out⟩, ⟨tB⟩⟩
 clear H'
 try clear c4
 try clear c6
 try clear hcz10_0
 try clear hcz10_1
 try clear hcz8_0
 try clear hcz8_1
 try clear hfz10_0
 try clear hfz10_1
 try clear hfz8_0
 try clear hfz8_1
 obtain ⟨x6_1, x7_1, rfl, HA, HK1, HO_6, BK191, HB⟩ := hrel
 cases gk with
 | zero => exact absurd HA.out (by simp [spec_SubfieldIn.l0])
 | succ k1 =>
  have H := HA.out
  clear HA
  simp only [spec_SubfieldIn.l0] at H
  obtain ⟨t203, A13, H⟩ := qBd H
  by_cases c14 : x7_1 < t203
  rotate_left
  ·rw [if_neg c14] at H
   have c14b0 := decide_eq_false c14
   clear c14
   simp only [Option.some.injEq, Prod.mk.injEq] at H
   obtain ⟨rfl, rfl⟩ := H
   have hcz27_0 : wr.cell? ⟨gb191, 0, none⟩ = some (.int .i64 a0_0) := (kQC BK191.out 0).trans rfl
   have hcz27_1 : wr.cell? ⟨gb191, 1, none⟩ = some (.int .i64 a0_1) := (kQC BK191.out 1).trans rfl
   have hfz27_0 := kQF BK191.out 0
   have hfz27_1 := kQF BK191.out 1
   go_wp2_with (first | ((with_reducible refine gQc (f := 36) rfl ?_); refine goesL_ (some 21) rfl rfl Try.func36 (by kernel_rfl) rfl #[.agg #[.int .i64 a0_0, .int .i64 a0_1]] rfl tL ?_; (with_reducible refine (spec_l01Size.calls a0_0 a0_1 t203 _ A13.out).mono ?_); rintro e w28 ⟨rfl, hb⟩; refine ⟨_, rfl, ?_⟩; refine qM3 (Kd.R_below (tR HO_6.out) hb) (tQ BK191.out hb) (bQT tB hb) ?_; clear HO_6 BK191 HB; intro HO_6 BK191 HB; (try clear hb); (try clear hb2); (try clear hk); (try clear hi)))
   go_ret2
   exact ⟨_, tE, tR HO_6.out, tB⟩
  rw [if_pos c14] at H
  have c14b0 := decide_eq_true c14
  clear c14
  obtain ⟨t204, A15, H⟩ := qBd H
  by_cases c16 : t204 = x7_1
  rotate_left
  ·rw [if_neg c16] at H
   have c16b0 := beq_eq_false_iff_ne.mpr c16
   have c16b1 := bne_iff_ne.mpr c16
   replace H' := Aq.mk H
   clear H
   have hcz23_0 : wr.cell? ⟨gb191, 0, none⟩ = some (.int .i64 a0_0) := (kQC BK191.out 0).trans rfl
   have hcz23_1 : wr.cell? ⟨gb191, 1, none⟩ = some (.int .i64 a0_1) := (kQC BK191.out 1).trans rfl
   have hfz23_0 := kQF BK191.out 0
   have hfz23_1 := kQF BK191.out 1
   go_wp2_with (first | ((with_reducible refine gQc (f := 36) rfl ?_); refine goesL_ (some 21) rfl rfl Try.func36 (by kernel_rfl) rfl #[.agg #[.int .i64 a0_0, .int .i64 a0_1]] rfl tL ?_; (with_reducible refine (spec_l01Size.calls a0_0 a0_1 t203 _ A13.out).mono ?_); rintro e w24 ⟨rfl, hb⟩; refine ⟨_, rfl, ?_⟩; refine qM3 (Kd.R_below (tR HO_6.out) hb) (tQ BK191.out hb) (bQT tB hb) ?_; clear HO_6 BK191 HB; intro HO_6 BK191 HB; (try clear hb); (try clear hb2); (try clear hk); (try clear hi); have hcz25_0 : w24.cell? ⟨gb191, 0, none⟩ = some (.int .i64 a0_0) := (kQC BK191.out 0).trans rfl; have hcz25_1 : w24.cell? ⟨gb191, 1, none⟩ = some (.int .i64 a0_1) := (kQC BK191.out 1).trans rfl; have hfz25_0 := kQF BK191.out 0; have hfz25_1 := kQF BK191.out 1) | ((with_reducible refine gQc (f := 37) rfl ?_); refine goesL_ (some 28) rfl rfl Try.func37 (by kernel_rfl) rfl #[.agg #[.int .i64 a0_0, .int .i64 a0_1], .int .i64 x7_1, .int .i64 a1] rfl tL ?_; (with_reducible refine (spec_l01Square.calls k1 a0_0 a0_1 x7_1 a1 t204 _ A15.out).mono ?_); rintro e w26 ⟨rfl, hb⟩; refine ⟨_, rfl, ?_⟩; refine qM3 (Kd.R_below (tR HO_6.out) hb) (tQ BK191.out hb) (bQT tB hb) ?_; clear HO_6 BK191 HB; intro HO_6 BK191 HB; (try clear hb); (try clear hb2); (try clear hk); (try clear hi)))
   go_roundg k1
   case measure => have := HK1.out; omega
   case rel => exact ⟨(x6_1), (wrap64 (x7_1 + 1)), tS, H', ⟨by have := HK1.out; omega⟩, ⟨tR HO_6.out⟩, ⟨tG BK191.out⟩, ⟨tB⟩⟩
  rw [if_pos c16] at H
  have c16b0 := beq_iff_eq.mpr c16
  have c16b1 := bne_eq_false_iff_eq.mpr c16
  clear c16
  by_cases c17 : x6_1.length < 17592186044416
  rotate_left
  ·rw [if_neg c17] at H
   exact absurd H (by simp)
  rw [if_pos c17] at H
  have LMc17 := Aq.mk c17
  clear c17
  obtain ⟨y205, hy205⟩ : ∃ y_ : List Int, y_ = (x6_1 ++ [x7_1]) := ⟨_, rfl⟩
  replace H : (spec_SubfieldIn.l0 k1 a1 y205 (wrap64 (x7_1 + 1)) a0_0 a0_1) = some (r1, r2) := by first | (rw [hy205]; with_reducible exact H) | (have H2_ := (Option.bind_some _ _).symm.trans H; rw [hy205]; with_reducible exact H2_) | (have H2_ := (Option.bind_some _ _).symm.trans H; with_reducible exact H2_) | with_reducible exact H | (rw [hy205]; exact H) | exact H
  have Ny205 := Aq.mk hy205
  clear hy205
  replace H' := Aq.mk H
  clear H
  have hcz18_0 : wr.cell? ⟨gb191, 0, none⟩ = some (.int .i64 a0_0) := (kQC BK191.out 0).trans rfl
  have hcz18_1 : wr.cell? ⟨gb191, 1, none⟩ = some (.int .i64 a0_1) := (kQC BK191.out 1).trans rfl
  have hfz18_0 := kQF BK191.out 0
  have hfz18_1 := kQF BK191.out 1
  go_wp2_with (first | ((with_reducible refine gQc (f := 36) rfl ?_); refine goesL_ (some 21) rfl rfl Try.func36 (by kernel_rfl) rfl #[.agg #[.int .i64 a0_0, .int .i64 a0_1]] rfl tL ?_; (with_reducible refine (spec_l01Size.calls a0_0 a0_1 t203 _ A13.out).mono ?_); rintro e w19 ⟨rfl, hb⟩; refine ⟨_, rfl, ?_⟩; refine qM3 (Kd.R_below (tR HO_6.out) hb) (tQ BK191.out hb) (bQT tB hb) ?_; clear HO_6 BK191 HB; intro HO_6 BK191 HB; (try clear hb); (try clear hb2); (try clear hk); (try clear hi); have hcz20_0 : w19.cell? ⟨gb191, 0, none⟩ = some (.int .i64 a0_0) := (kQC BK191.out 0).trans rfl; have hcz20_1 : w19.cell? ⟨gb191, 1, none⟩ = some (.int .i64 a0_1) := (kQC BK191.out 1).trans rfl; have hfz20_0 := kQF BK191.out 0; have hfz20_1 := kQF BK191.out 1) | ((with_reducible refine gQc (f := 37) rfl ?_); refine goesL_ (some 28) rfl rfl Try.func37 (by kernel_rfl) rfl #[.agg #[.int .i64 a0_0, .int .i64 a0_1], .int .i64 x7_1, .int .i64 a1] rfl tL ?_; (with_reducible refine (spec_l01Square.calls k1 a0_0 a0_1 x7_1 a1 t204 _ A15.out).mono ?_); rintro e w21 ⟨rfl, hb⟩; refine ⟨_, rfl, ?_⟩; refine qM3 (Kd.R_below (tR HO_6.out) hb) (tQ BK191.out hb) (bQT tB hb) ?_; clear HO_6 BK191 HB; intro HO_6 BK191 HB; (try clear hb); (try clear hb2); (try clear hk); (try clear hi)) | ((with_reducible refine gate_builtin (b := .append) (xs := #[.tmp 31, .tmp 33]) rfl ?_); at_builtin; refine Kd.R_append (Kd.int .i64) (w0 := w) w.heap.size rfl (.tmp 31) (.tmp 33) 29 2 (.int .i64 0) 8 rfl Try.underlying29 info2 rfl (by decide) (by omega) u6 x6_1 x7_1 [.int .i64 x7_1] (fun _ => True) (fun _ => False) rfl rfl ?aP (fun _ hk => hk.elim) ?aF ?aO ?aB ?aS ?aL ?_; (case aP => exact rfl); (case aB => exact tB); (case aF => exact (fun _ _ => trivial)); (case aO => exact (tR HO_6.out)); (case aS => exact (bQZ tB)); (case aL => have := LMc17.out; omega); intro v206 w22 ho hb hg hat; rw [← Ny205.out] at ho; refine qM3 (blk_grown (g := gb191) (o := .cells #[.int .i64 a0_0, .int .i64 a0_1] 26 (0, 0)) (tG BK191.out) hg (Kd.R_ne HO_6.out BK191.out (by decide))) hb ho ?_; clear BK191 HB HO_6; intro BK191 HB HO207; clear ho hb hg hat))
  go_roundg k1
  case measure => have := HK1.out; omega
  case rel => exact ⟨(y205), (wrap64 (x7_1 + 1)), tS, H', ⟨by have := HK1.out; omega⟩, ⟨tR HO207.out⟩, ⟨tG BK191.out⟩, ⟨tB⟩⟩
def impl_SubfieldIn_1.f (k : Nat) (a0 : Int) (a1_0 : Int) (a1_1 : Int) (a2_0 : Int) : Option (Bool) := (impl_Field_square.f k a1_0 a1_1 a0 a2_0).bind fun t218 => (some (t218 != a0))
theorem impl_SubfieldIn_1.mono : ∀ a0 a1 a2 a3 k, LeO (impl_SubfieldIn_1.f k a0 a1 a2 a3) (impl_SubfieldIn_1.f (k + 1) a0 a1 a2 a3) := by
 intro a0 a1 a2 a3 k
 unfold impl_SubfieldIn_1.f
 repeat' first
  | (with_reducible first | apply impl_Field_square.mono | exact LeO.refl _ | exact LeO.none _ | refine LeO.ite ?_ ?_ | refine LeO.bind ?_ (fun _ => ?_))
  | exact LeO.none _
  | refine LeO.ite ?_ ?_
  | refine LeO.bind ?_ (fun _ => ?_)
theorem impl_SubfieldIn_1.calls (k : Nat) (a0 : Int) (g1_0 : Addr) (a1_0 : Int) (a1_1 : Int) (g2_0 : Addr) (a2_0 : Int) (r : Bool) (w : World) (hb1_0 : AtC w g1_0 [.int .i64 a1_0, .int .i64 a1_1]) (hb2_0 : AtC w g2_0 [.int .i64 a2_0]) (h : impl_SubfieldIn_1.f k a0 a1_0 a1_1 a2_0 = some r) :
 Calls Try.prog 41 #[.int .i64 a0, .pointer (some g1_0), .pointer (some g2_0)] w fun e w' => e = .returned (.bool r) ∧ Below w.heap.size w w' := by
 have hu26 := Try.underlying26
 have BK48 := Aq.mk hb1_0
 clear hb1_0
 have BK56 := Aq.mk hb2_0
 clear hb2_0
 have HB := Aq.mk (Below.refl w.heap.size w)
 have H : ((impl_Field_square.f k a1_0 a1_1 a0 a2_0).bind fun t218 => (some (t218 != a0))) = some r := h
 clear h
 obtain ⟨t218, A4, H⟩ := qBd H
 obtain rfl := Option.some.inj H
 have hcz5_0 : w.cell? g1_0 = some (.int .i64 a1_0) := AtC.cell0 BK48.out _ rfl
 have hcz5_1 : w.cell? ⟨g1_0.block, g1_0.off + 1, none⟩ = some (.int .i64 a1_1) := AtC.cell BK48.out 1 _ (by decide) rfl
 have hcz6_0 : w.cell? g2_0 = some (.int .i64 a2_0) := AtC.cell0 BK56.out _ rfl
 go_enter Try.func41, Try.ntmps41
 go_wp2_with (first | ((with_reducible refine gQc (f := 42) rfl ?_); refine goesL_ (some 8) rfl rfl Try.func42 (by kernel_rfl) rfl #[.agg #[.int .i64 a1_0, .int .i64 a1_1], .int .i64 a0, .int .i64 a2_0] rfl tL ?_; (with_reducible refine (impl_Field_square.calls k a1_0 a1_1 a0 a2_0 t218 _ A4.out).mono ?_); rintro e w7 ⟨rfl, hb⟩; refine ⟨_, rfl, ?_⟩; refine qM1 (bQT tB hb) ?_; clear HB; intro HB; (try clear hb); (try clear hb2); (try clear hk); (try clear hi)))
 go_ret
 exact ⟨tE, tB⟩
def slices_IndexFunc_int64_int64_AT_impl_SubfieldIn_1.l0 : Nat → List Int → Int → Int → Int → Int → Int → Option (Int)
  | 0, _, _, _, _, _, _ => none
  | k + 1, x0, x7, x8, x49000, x49001, x50000 => if x8 < x7 then (if 0 ≤ x8 then (if x8 < (x0.length : Int) then ((impl_SubfieldIn_1.f k (rd x0 x8) x49000 x49001 x50000).bind fun t220 => (if t220 = true then (some x8) else (slices_IndexFunc_int64_int64_AT_impl_SubfieldIn_1.l0 k x0 x7 (wrap64 (x8 + 1)) x49000 x49001 x50000))) else (none)) else (none)) else (some (-1))
def slices_IndexFunc_int64_int64_AT_impl_SubfieldIn_1.f (k : Nat) (l0 : List Int) (a1_0 : Int) (a1_1 : Int) (a1_2 : Int) : Option (Int) := slices_IndexFunc_int64_int64_AT_impl_SubfieldIn_1.l0 k l0 (l0.length : Int) 0 a1_0 a1_1 a1_2
theorem slices_IndexFunc_int64_int64_AT_impl_SubfieldIn_1.mono_l : ∀ k, (∀ y0 y1 y2 y3 y4 y5, LeO (slices_IndexFunc_int64_int64_AT_impl_SubfieldIn_1.l0 k y0 y1 y2 y3 y4 y5) (slices_IndexFunc_int64_int64_AT_impl_SubfieldIn_1.l0 (k + 1) y0 y1 y2 y3 y4 y5))
 | 0 => fun _ _ _ _ _ _ r h => by simp [slices_IndexFunc_int64_int64_AT_impl_SubfieldIn_1.l0] at h
 | k + 1 => by
  have ih0 := slices_IndexFunc_int64_int64_AT_impl_SubfieldIn_1.mono_l k
  ·intro y0 y1 y2 y3 y4 y5
   unfold slices_IndexFunc_int64_int64_AT_impl_SubfieldIn_1.l0
   repeat' first
   | (with_reducible first | apply ih0 | apply impl_SubfieldIn_1.mono | exact LeO.refl _ | exact LeO.none _ | refine LeO.ite ?_ ?_ | refine LeO.bind ?_ (fun _ => ?_))
   | exact LeO.none _
   | refine LeO.ite ?_ ?_
   | refine LeO.bind ?_ (fun _ => ?_)
theorem slices_IndexFunc_int64_int64_AT_impl_SubfieldIn_1.mono : ∀ a0 a1 a2 a3 k, LeO (slices_IndexFunc_int64_int64_AT_impl_SubfieldIn_1.f k a0 a1 a2 a3) (slices_IndexFunc_int64_int64_AT_impl_SubfieldIn_1.f (k + 1) a0 a1 a2 a3) := by
 intro a0 a1 a2 a3 k
 have ih0 := slices_IndexFunc_int64_int64_AT_impl_SubfieldIn_1.mono_l k
 unfold slices_IndexFunc_int64_int64_AT_impl_SubfieldIn_1.f
 repeat' first
  | (with_reducible first | apply ih0 | apply impl_SubfieldIn_1.mono | exact LeO.refl _ | exact LeO.none _ | refine LeO.ite ?_ ?_ | refine LeO.bind ?_ (fun _ => ?_))
  | exact LeO.none _
  | refine LeO.ite ?_ ?_
  | refine LeO.bind ?_ (fun _ => ?_)
theorem slices_IndexFunc_int64_int64_AT_impl_SubfieldIn_1.calls (k : Nat) (A0 : Option Addr) (c0 : Nat) (l0 : List Int) (g1_0 : Addr) (g1_1 : Addr) (a1_0 : Int) (a1_1 : Int) (a1_2 : Int) (r : Int) (w : World) (hr0 : Kd.C (Kd.int .i64) w A0 l0.length l0) (hc0 : l0.length ≤ c0) (hb1_0 : AtC w g1_0 [.int .i64 a1_0, .int .i64 a1_1]) (hb1_1 : AtC w g1_1 [.int .i64 a1_2]) (h : slices_IndexFunc_int64_int64_AT_impl_SubfieldIn_1.f k l0 a1_0 a1_1 a1_2 = some r) :
 Calls Try.prog 49 #[.slice A0 l0.length c0, .func (.func 41) #[] #[.pointer (some g1_0), .pointer (some g1_1)]] w fun e w' => e = .returned (.int .i64 r) ∧ Below w.heap.size w w' := by
 have eg41 : ∀ (args_ : Array Value) (w_ : World), (callFunc 41 args_).run Try.prog w_ = .ok (.enter 41 args_) w_ := enters_of Try.func41 (by kernel_rfl) rfl
 have HR0 := Aq.mk hr0
 have HC0 := Aq.mk hc0
 clear hr0 hc0
 have BK48 := Aq.mk hb1_0
 clear hb1_0
 have BK49 := Aq.mk hb1_1
 clear hb1_1
 have HB := Aq.mk (Below.refl w.heap.size w)
 have H : (slices_IndexFunc_int64_int64_AT_impl_SubfieldIn_1.l0 k l0 (l0.length : Int) 0 a1_0 a1_1 a1_2) = some r := h
 clear h
 replace H' := Aq.mk H
 clear H
 go_enter Try.func49, Try.ntmps49
 go_wp2
 go_loopg [8] k (fun kq v8 w' => ∃ (x8_1 : Int), v8 = .int .i64 x8_1 ∧ Aq (slices_IndexFunc_int64_int64_AT_impl_SubfieldIn_1.l0 kq l0 (l0.length : Int) x8_1 a1_0 a1_1 a1_2 = some r) ∧ Aq (kq ≤ k) ∧ Aq (Below w.heap.size w w'))
 case atStart => exact ⟨(0), tS, H', ⟨Nat.le_refl _⟩, ⟨tB⟩⟩
 clear H'
 obtain ⟨x8_1, rfl, HA, HK1, HB⟩ := hrel
 cases gk with
 | zero => exact absurd HA.out (by simp [slices_IndexFunc_int64_int64_AT_impl_SubfieldIn_1.l0])
 | succ k1 =>
  have H := HA.out
  clear HA
  simp only [slices_IndexFunc_int64_int64_AT_impl_SubfieldIn_1.l0] at H
  by_cases c3 : x8_1 < (l0.length : Int)
  rotate_left
  ·rw [if_neg c3] at H
   have c3b0 := decide_eq_false c3
   clear c3
   obtain rfl := Option.some.inj H
   go_wp2
   go_ret
   exact ⟨tE, tB⟩
  rw [if_pos c3] at H
  have c3b0 := decide_eq_true c3
  clear c3
  by_cases c4 : 0 ≤ x8_1
  rotate_left
  ·rw [if_neg c4] at H
   exact absurd H (by simp)
  rw [if_pos c4] at H
  have c4b0 := decide_eq_true c4
  clear c4
  by_cases c5 : x8_1 < (l0.length : Int)
  rotate_left
  ·rw [if_neg c5] at H
   exact absurd H (by simp)
  rw [if_pos c5] at H
  have c5b0 := decide_eq_true c5
  clear c5
  obtain ⟨t220, A6, H⟩ := qBd H
  by_cases c7 : t220 = true
  ·subst c7
   rw [if_pos rfl] at H
   obtain rfl := Option.some.inj H
   have p219 : 0 ≤ (x8_1 : Int) := of_decide_eq_true tA
   have q219 : x8_1 < (l0.length : Int) := of_decide_eq_true tA
   obtain ⟨ad219, e219, hx219_0⟩ := Kd.at_int HR0.out x8_1 p219 q219
   cases e219
   replace hx219_0 := (HB.out.cell (World.block_lt_of_cell? w _ hx219_0)).trans hx219_0
   replace p219 := eq_true p219
   replace q219 := eq_true q219
   go_wp2_with (first | (go_at_fn 41; (with_reducible refine (impl_SubfieldIn_1.calls k1 (rd l0 x8_1) (g1_0 : Addr) a1_0 a1_1 (g1_1 : Addr) a1_2 true _ ?s1 ?s2 A6.out).mono ?_); (case s1 => repeat (first | exact (AtC.below BK48.out HB.out) | (with_reducible refine AtC.alloc ?_ _) | (with_reducible refine AtC.drewN ?_ _) | (with_reducible refine AtC.drew ?_))); (case s2 => repeat (first | exact (AtC.below BK49.out HB.out) | (with_reducible refine AtC.alloc ?_ _) | (with_reducible refine AtC.drewN ?_ _) | (with_reducible refine AtC.drew ?_))); rintro e w8 ⟨rfl, hb⟩; refine qM1 (bQT tB hb) ?_; clear HB; intro HB; (try clear hb); (try clear hb2); (try clear hk); (try clear hi)))
   go_ret
   exact ⟨tE, tB⟩
  replace c7 := Bool.eq_false_iff.mpr c7
  subst c7
  rw [if_neg (show ¬ (false = true) by decide)] at H
  replace H' := Aq.mk H
  clear H
  have p219 : 0 ≤ (x8_1 : Int) := of_decide_eq_true tA
  have q219 : x8_1 < (l0.length : Int) := of_decide_eq_true tA
  obtain ⟨ad219, e219, hx219_0⟩ := Kd.at_int HR0.out x8_1 p219 q219
  cases e219
  replace hx219_0 := (HB.out.cell (World.block_lt_of_cell? w _ hx219_0)).trans hx219_0
  replace p219 := eq_true p219
  replace q219 := eq_true q219
  go_wp2_with (first | (go_at_fn 41; (with_reducible refine (impl_SubfieldIn_1.calls k1 (rd l0 x8_1) (g1_0 : Addr) a1_0 a1_1 (g1_1 : Addr) a1_2 false _ ?s1 ?s2 A6.out).mono ?_); (case s1 => repeat (first | exact (AtC.below BK48.out HB.out) | (with_reducible refine AtC.alloc ?_ _) | (with_reducible refine AtC.drewN ?_ _) | (with_reducible refine AtC.drew ?_))); (case s2 => repeat (first | exact (AtC.below BK49.out HB.out) | (with_reducible refine AtC.alloc ?_ _) | (with_reducible refine AtC.drewN ?_ _) | (with_reducible refine AtC.drew ?_))); rintro e w9 ⟨rfl, hb⟩; refine qM1 (bQT tB hb) ?_; clear HB; intro HB; (try clear hb); (try clear hb2); (try clear hk); (try clear hi)))
  go_roundg k1
  case measure => have := HK1.out; omega
  case rel => exact ⟨(wrap64 (x8_1 + 1)), tS, H', ⟨by have := HK1.out; omega⟩, ⟨tB⟩⟩
end Go.Proofs.Ytbgbblgdbcjibaa.P
