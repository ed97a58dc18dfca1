/- Functions of the program and what they tell, as the printing program wrote it. -/
import Derived.Test.YtbgbblgdbcjibaaPx0
import Derived.Test.YtbgbblgdbcjibaaPx1
import Derived.Test.YtbgbblgdbcjibaaPx6
import Derived.Test.YtbgbblgdbcjibaaPx10
namespace Go.Proofs.Ytbgbblgdbcjibaa.P
open Go.Shelf Go.RowKit Go.Proofs.YtbgbblgdbcjibaaW.PrintWords Go.Proofs.YtbgbblgdbcjibaaW.PrintLast Go.Proofs.YtbgbblgdbcjibaaW.PrintMore
attribute [local go_sem] max2_int min2_int max_two min_two max_three min_three max_four min_four
set_option linter.unusedVariables false
set_option linter.unusedSimpArgs false
set_option maxHeartbeats 8000000
set_option maxRecDepth 100000
def spec_l01Given.f (k : Nat) (a0_0 : Int) (a0_1 : Int) (a1 : Int) (a2 : Int) : Option (Int) := (spec_l01Ok.f k a0_0 a0_1).bind fun t277 => (if t277 = true then ((spec_l01Size.f a0_0 a0_1).bind fun t278 => ((spec_l00In.f a1 0 (wrap64 (t278 - 1))).bind fun t279 => (if t279 = true then ((spec_l01Size.f a0_0 a0_1).bind fun t280 => ((spec_l00In.f a2 0 (wrap64 (t280 - 1))).bind fun t281 => (if t281 = true then (some 0) else (some 2)))) else (some 2)))) else (some 1))
theorem spec_l01Given.mono : ∀ a0 a1 a2 a3 k, LeO (spec_l01Given.f k a0 a1 a2 a3) (spec_l01Given.f (k + 1) a0 a1 a2 a3) := by
 intro a0 a1 a2 a3 k
 unfold spec_l01Given.f
 repeat' first
  | (with_reducible first | apply spec_l01Ok.mono | exact LeO.refl _ | exact LeO.none _ | refine LeO.ite ?_ ?_ | refine LeO.bind ?_ (fun _ => ?_))
  | exact LeO.none _
  | refine LeO.ite ?_ ?_
  | refine LeO.bind ?_ (fun _ => ?_)
theorem spec_l01Given.calls (k : Nat) (a0_0 : Int) (a0_1 : Int) (a1 : Int) (a2 : Int) (r : Int) (w : World) (h : spec_l01Given.f k a0_0 a0_1 a1 a2 = some r) :
 Calls Try.prog 44 #[.agg #[.int .i64 a0_0, .int .i64 a0_1], .int .i64 a1, .int .i64 a2] w fun e w' => e = .returned (.int .i64 r) ∧ Below w.heap.size w w' := by
 have hu26 := Try.underlying26
 have HB := Aq.mk (Below.refl w.heap.size w)
 have H : ((spec_l01Ok.f k a0_0 a0_1).bind fun t277 => (if t277 = true then ((spec_l01Size.f a0_0 a0_1).bind fun t278 => ((spec_l00In.f a1 0 (wrap64 (t278 - 1))).bind fun t279 => (if t279 = true then ((spec_l01Size.f a0_0 a0_1).bind fun t280 => ((spec_l00In.f a2 0 (wrap64 (t280 - 1))).bind fun t281 => (if t281 = true then (some 0) else (some 2)))) else (some 2)))) else (some 1))) = some r := h
 clear h
 obtain ⟨t277, A4, H⟩ := qBd H
 by_cases c5 : t277 = true
 rotate_left
 ·replace c5 := Bool.eq_false_iff.mpr c5
  subst c5
  rw [if_neg (show ¬ (false = true) by decide)] at H
  obtain rfl := Option.some.inj H
  go_enter Try.func44, Try.ntmps44
  go_wp2_with (first | ((with_reducible refine gQd (N := 3) rfl ?_); refine xQe ?hg (N := 3) ?hd (cs := #[.int .i64 a0_0, .int .i64 a0_1]) (t := 26) ?hr ?_; (case hd => rfl); (case hg => rfl); (case hr => exact tH); intro gb276 hg w31 hbox hb; refine qM4 (bQT tB hb) hbox (tZ w hg) (tZ w hg) ?_; clear HB; intro HB BK276 GW276 GE276; clear hb hbox hg; have hcz32_0 : w31.cell? ⟨gb276, 0, none⟩ = some (.int .i64 a0_0) := (kQC BK276.out 0).trans rfl; have hcz32_1 : w31.cell? ⟨gb276, 1, none⟩ = some (.int .i64 a0_1) := (kQC BK276.out 1).trans rfl; have hfz32_0 := kQF BK276.out 0; have hfz32_1 := kQF BK276.out 1) | ((with_reducible refine gQc (f := 29) rfl ?_); refine goesL_ (some 8) rfl rfl Try.func29 (by kernel_rfl) rfl #[.agg #[.int .i64 a0_0, .int .i64 a0_1]] rfl tL ?_; (with_reducible refine (spec_l01Ok.calls k a0_0 a0_1 false _ A4.out).mono ?_); rintro e w33 ⟨rfl, hb⟩; refine ⟨_, rfl, ?_⟩; refine qM2 (tQ BK276.out hb) (bQT tB hb) ?_; clear BK276 HB; intro BK276 HB; (try clear hb); (try clear hb2); (try clear hk); (try clear hi)))
  go_ret
  exact ⟨tE, tB⟩
 subst c5
 rw [if_pos rfl] at H
 obtain ⟨t278, A6, H⟩ := qBd H
 obtain ⟨t279, A7, H⟩ := qBd H
 by_cases c8 : t279 = true
 rotate_left
 ·replace c8 := Bool.eq_false_iff.mpr c8
  subst c8
  rw [if_neg (show ¬ (false = true) by decide)] at H
  obtain rfl := Option.some.inj H
  go_enter Try.func44, Try.ntmps44
  go_wp2_with (first | ((with_reducible refine gQd (N := 3) rfl ?_); refine xQe ?hg (N := 3) ?hd (cs := #[.int .i64 a0_0, .int .i64 a0_1]) (t := 26) ?hr ?_; (case hd => rfl); (case hg => rfl); (case hr => exact tH); intro gb276 hg w26 hbox hb; refine qM4 (bQT tB hb) hbox (tZ w hg) (tZ w hg) ?_; clear HB; intro HB BK276 GW276 GE276; clear hb hbox hg; have hcz27_0 : w26.cell? ⟨gb276, 0, none⟩ = some (.int .i64 a0_0) := (kQC BK276.out 0).trans rfl; have hcz27_1 : w26.cell? ⟨gb276, 1, none⟩ = some (.int .i64 a0_1) := (kQC BK276.out 1).trans rfl; have hfz27_0 := kQF BK276.out 0; have hfz27_1 := kQF BK276.out 1) | ((with_reducible refine gQc (f := 29) rfl ?_); refine goesL_ (some 8) rfl rfl Try.func29 (by kernel_rfl) rfl #[.agg #[.int .i64 a0_0, .int .i64 a0_1]] rfl tL ?_; (with_reducible refine (spec_l01Ok.calls k a0_0 a0_1 true _ A4.out).mono ?_); rintro e w28 ⟨rfl, hb⟩; refine ⟨_, rfl, ?_⟩; refine qM2 (tQ BK276.out hb) (bQT tB hb) ?_; clear BK276 HB; intro BK276 HB; (try clear hb); (try clear hb2); (try clear hk); (try clear hi); have hcz29_0 : w28.cell? ⟨gb276, 0, none⟩ = some (.int .i64 a0_0) := (kQC BK276.out 0).trans rfl; have hcz29_1 : w28.cell? ⟨gb276, 1, none⟩ = some (.int .i64 a0_1) := (kQC BK276.out 1).trans rfl; have hfz29_0 := kQF BK276.out 0; have hfz29_1 := kQF BK276.out 1) | ((with_reducible refine gQc (f := 36) rfl ?_); refine goesL_ (some 12) rfl rfl Try.func36 (by kernel_rfl) rfl #[.agg #[.int .i64 a0_0, .int .i64 a0_1]] rfl tL ?_; (with_reducible refine (spec_l01Size.calls a0_0 a0_1 t278 _ A6.out).mono ?_); rintro e w30 ⟨rfl, hb⟩; refine ⟨_, rfl, ?_⟩; refine qM2 (tQ BK276.out hb) (bQT tB hb) ?_; clear BK276 HB; intro BK276 HB; (try clear hb); (try clear hb2); (try clear hk); (try clear hi)) | ((with_reducible refine gQc (f := 35) rfl ?_); refine goesL_ (some 14) rfl rfl Try.func35 (by kernel_rfl) rfl #[.int .i64 a1, .int .i64 0, .int .i64 (wrap64 (t278 - 1))] rfl tL ?_; (with_reducible refine (spec_l00In.calls a1 0 (wrap64 (t278 - 1)) false _ A7.out).mono ?_); rintro e w' ⟨rfl, ⟨nd, rfl⟩⟩; refine ⟨_, rfl, ?_⟩))
  go_ret
  exact ⟨tE, tB⟩
 subst c8
 rw [if_pos rfl] at H
 obtain ⟨t280, A9, H⟩ := qBd H
 obtain ⟨t281, A10, H⟩ := qBd H
 by_cases c11 : t281 = true
 ·subst c11
  rw [if_pos rfl] at H
  obtain rfl := Option.some.inj H
  go_enter Try.func44, Try.ntmps44
  go_wp2_with (first | ((with_reducible refine gQd (N := 3) rfl ?_); refine xQe ?hg (N := 3) ?hd (cs := #[.int .i64 a0_0, .int .i64 a0_1]) (t := 26) ?hr ?_; (case hd => rfl); (case hg => rfl); (case hr => exact tH); intro gb276 hg w12 hbox hb; refine qM4 (bQT tB hb) hbox (tZ w hg) (tZ w hg) ?_; clear HB; intro HB BK276 GW276 GE276; clear hb hbox hg; have hcz13_0 : w12.cell? ⟨gb276, 0, none⟩ = some (.int .i64 a0_0) := (kQC BK276.out 0).trans rfl; have hcz13_1 : w12.cell? ⟨gb276, 1, none⟩ = some (.int .i64 a0_1) := (kQC BK276.out 1).trans rfl; have hfz13_0 := kQF BK276.out 0; have hfz13_1 := kQF BK276.out 1) | ((with_reducible refine gQc (f := 29) rfl ?_); refine goesL_ (some 8) rfl rfl Try.func29 (by kernel_rfl) rfl #[.agg #[.int .i64 a0_0, .int .i64 a0_1]] rfl tL ?_; (with_reducible refine (spec_l01Ok.calls k a0_0 a0_1 true _ A4.out).mono ?_); rintro e w14 ⟨rfl, hb⟩; refine ⟨_, rfl, ?_⟩; refine qM2 (tQ BK276.out hb) (bQT tB hb) ?_; clear BK276 HB; intro BK276 HB; (try clear hb); (try clear hb2); (try clear hk); (try clear hi); have hcz15_0 : w14.cell? ⟨gb276, 0, none⟩ = some (.int .i64 a0_0) := (kQC BK276.out 0).trans rfl; have hcz15_1 : w14.cell? ⟨gb276, 1, none⟩ = some (.int .i64 a0_1) := (kQC BK276.out 1).trans rfl; have hfz15_0 := kQF BK276.out 0; have hfz15_1 := kQF BK276.out 1) | ((with_reducible refine gQc (f := 36) rfl ?_); refine goesL_ (some 12) rfl rfl Try.func36 (by kernel_rfl) rfl #[.agg #[.int .i64 a0_0, .int .i64 a0_1]] rfl tL ?_; (with_reducible refine (spec_l01Size.calls a0_0 a0_1 t278 _ A6.out).mono ?_); rintro e w16 ⟨rfl, hb⟩; refine ⟨_, rfl, ?_⟩; refine qM2 (tQ BK276.out hb) (bQT tB hb) ?_; clear BK276 HB; intro BK276 HB; (try clear hb); (try clear hb2); (try clear hk); (try clear hi)) | ((with_reducible refine gQc (f := 35) rfl ?_); refine goesL_ (some 14) rfl rfl Try.func35 (by kernel_rfl) rfl #[.int .i64 a1, .int .i64 0, .int .i64 (wrap64 (t278 - 1))] rfl tL ?_; (with_reducible refine (spec_l00In.calls a1 0 (wrap64 (t278 - 1)) true _ A7.out).mono ?_); rintro e w' ⟨rfl, ⟨nd, rfl⟩⟩; refine ⟨_, rfl, ?_⟩; have hcz17_0 : w16.cell? ⟨gb276, 0, none⟩ = some (.int .i64 a0_0) := (kQC BK276.out 0).trans rfl; have hcz17_1 : w16.cell? ⟨gb276, 1, none⟩ = some (.int .i64 a0_1) := (kQC BK276.out 1).trans rfl; have hfz17_0 := kQF BK276.out 0; have hfz17_1 := kQF BK276.out 1) | (go_at_call 36; (with_reducible refine (spec_l01Size.calls a0_0 a0_1 t280 _ A9.out).mono ?_); rintro e w18 ⟨rfl, hb⟩; refine qM2 (tQ BK276.out hb) (bQT tB hb) ?_; clear BK276 HB; intro BK276 HB; (try clear hb); (try clear hb2); (try clear hk); (try clear hi)) | (go_at_call 35; (with_reducible refine (spec_l00In.calls a2 0 (wrap64 (t280 - 1)) true _ A10.out).mono ?_); rintro e w' ⟨rfl, ⟨nd, rfl⟩⟩))
  go_ret
  exact ⟨tE, tB⟩
 replace c11 := Bool.eq_false_iff.mpr c11
 subst c11
 rw [if_neg (show ¬ (false = true) by decide)] at H
 obtain rfl := Option.some.inj H
 go_enter Try.func44, Try.ntmps44
 go_wp2_with (first | ((with_reducible refine gQd (N := 3) rfl ?_); refine xQe ?hg (N := 3) ?hd (cs := #[.int .i64 a0_0, .int .i64 a0_1]) (t := 26) ?hr ?_; (case hd => rfl); (case hg => rfl); (case hr => exact tH); intro gb276 hg w19 hbox hb; refine qM4 (bQT tB hb) hbox (tZ w hg) (tZ w hg) ?_; clear HB; intro HB BK276 GW276 GE276; clear hb hbox hg; have hcz20_0 : w19.cell? ⟨gb276, 0, none⟩ = some (.int .i64 a0_0) := (kQC BK276.out 0).trans rfl; have hcz20_1 : w19.cell? ⟨gb276, 1, none⟩ = some (.int .i64 a0_1) := (kQC BK276.out 1).trans rfl; have hfz20_0 := kQF BK276.out 0; have hfz20_1 := kQF BK276.out 1) | ((with_reducible refine gQc (f := 29) rfl ?_); refine goesL_ (some 8) rfl rfl Try.func29 (by kernel_rfl) rfl #[.agg #[.int .i64 a0_0, .int .i64 a0_1]] rfl tL ?_; (with_reducible refine (spec_l01Ok.calls k a0_0 a0_1 true _ A4.out).mono ?_); rintro e w21 ⟨rfl, hb⟩; refine ⟨_, rfl, ?_⟩; refine qM2 (tQ BK276.out hb) (bQT tB hb) ?_; clear BK276 HB; intro BK276 HB; (try clear hb); (try clear hb2); (try clear hk); (try clear hi); have hcz22_0 : w21.cell? ⟨gb276, 0, none⟩ = some (.int .i64 a0_0) := (kQC BK276.out 0).trans rfl; have hcz22_1 : w21.cell? ⟨gb276, 1, none⟩ = some (.int .i64 a0_1) := (kQC BK276.out 1).trans rfl; have hfz22_0 := kQF BK276.out 0; have hfz22_1 := kQF BK276.out 1) | ((with_reducible refine gQc (f := 36) rfl ?_); refine goesL_ (some 12) rfl rfl Try.func36 (by kernel_rfl) rfl #[.agg #[.int .i64 a0_0, .int .i64 a0_1]] rfl tL ?_; (with_reducible refine (spec_l01Size.calls a0_0 a0_1 t278 _ A6.out).mono ?_); rintro e w23 ⟨rfl, hb⟩; refine ⟨_, rfl, ?_⟩; refine qM2 (tQ BK276.out hb) (bQT tB hb) ?_; clear BK276 HB; intro BK276 HB; (try clear hb); (try clear hb2); (try clear hk); (try clear hi)) | ((with_reducible refine gQc (f := 35) rfl ?_); refine goesL_ (some 14) rfl rfl Try.func35 (by kernel_rfl) rfl #[.int .i64 a1, .int .i64 0, .int .i64 (wrap64 (t278 - 1))] rfl tL ?_; (with_reducible refine (spec_l00In.calls a1 0 (wrap64 (t278 - 1)) true _ A7.out).mono ?_); rintro e w' ⟨rfl, ⟨nd, rfl⟩⟩; refine ⟨_, rfl, ?_⟩; have hcz24_0 : w23.cell? ⟨gb276, 0, none⟩ = some (.int .i64 a0_0) := (kQC BK276.out 0).trans rfl; have hcz24_1 : w23.cell? ⟨gb276, 1, none⟩ = some (.int .i64 a0_1) := (kQC BK276.out 1).trans rfl; have hfz24_0 := kQF BK276.out 0; have hfz24_1 := kQF BK276.out 1) | (go_at_call 36; (with_reducible refine (spec_l01Size.calls a0_0 a0_1 t280 _ A9.out).mono ?_); rintro e w25 ⟨rfl, hb⟩; refine qM2 (tQ BK276.out hb) (bQT tB hb) ?_; clear BK276 HB; intro BK276 HB; (try clear hb); (try clear hb2); (try clear hk); (try clear hi)) | (go_at_call 35; (with_reducible refine (spec_l00In.calls a2 0 (wrap64 (t280 - 1)) false _ A10.out).mono ?_); rintro e w' ⟨rfl, ⟨nd, rfl⟩⟩))
 go_ret
 exact ⟨tE, tB⟩
mutual
def spec_CoordinatesIn.j0 : Nat → List Int → Int → Int → Int → Int → Option (Int × Int)
  | 0, _, _, _, _, _ => none
  | k + 1, x1, x2, x8, x283000, x283001 => if x8 = 0 then ((spec_l01Basis.f k x283000 x283001 x1).bind fun t285 => (spec_CoordinatesIn.j1 k x1 x2 x8 (!t285))) else (spec_CoordinatesIn.j1 k x1 x2 x8 false)
def spec_CoordinatesIn.j1 : Nat → List Int → Int → Int → Bool → Option (Int × Int)
  | 0, _, _, _, _ => none
  | k + 1, x1, x2, x8, x25 => if x25 = true then (spec_CoordinatesIn.j2 k x1 x2 4) else (spec_CoordinatesIn.j2 k x1 x2 x8)
def spec_CoordinatesIn.j2 : Nat → List Int → Int → Int → Option (Int × Int)
  | 0, _, _, _ => none
  | k + 1, x1, x2, x8 => if x8 = 0 then (spec_CoordinatesIn.l0 k x1 x2 0) else (some (0, x8))
def spec_CoordinatesIn.l0 : Nat → List Int → Int → Int → Option (Int × Int)
  | 0, _, _, _ => none
  | k + 1, x1, x2, x9 => (spec_l01Sum.f k x1 x9).bind fun t286 => (if t286 = x2 then (some (x9, 0)) else (spec_CoordinatesIn.l0 k x1 x2 (wrap64 (x9 + 1))))
end
def spec_CoordinatesIn.f (k : Nat) (a0_0 : Int) (a0_1 : Int) (l1 : List Int) (a2 : Int) : Option (Int × Int) := (spec_l01List.f k a0_0 a0_1 l1).bind fun t283 => (if t283 = 0 then ((spec_l01Given.f k a0_0 a0_1 a2 0).bind fun t284 => (spec_CoordinatesIn.j0 k l1 a2 t284 a0_0 a0_1)) else (spec_CoordinatesIn.j0 k l1 a2 t283 a0_0 a0_1))
theorem spec_CoordinatesIn.mono_l : ∀ k, (∀ y0 y1 y2 y3 y4, LeO (spec_CoordinatesIn.j0 k y0 y1 y2 y3 y4) (spec_CoordinatesIn.j0 (k + 1) y0 y1 y2 y3 y4)) ∧ (∀ y0 y1 y2 y3, LeO (spec_CoordinatesIn.j1 k y0 y1 y2 y3) (spec_CoordinatesIn.j1 (k + 1) y0 y1 y2 y3)) ∧ (∀ y0 y1 y2, LeO (spec_CoordinatesIn.j2 k y0 y1 y2) (spec_CoordinatesIn.j2 (k + 1) y0 y1 y2)) ∧ (∀ y0 y1 y2, LeO (spec_CoordinatesIn.l0 k y0 y1 y2) (spec_CoordinatesIn.l0 (k + 1) y0 y1 y2))
 | 0 => ⟨fun _ _ _ _ _ r h => by simp [spec_CoordinatesIn.j0] at h, fun _ _ _ _ r h => by simp [spec_CoordinatesIn.j1] at h, fun _ _ _ r h => by simp [spec_CoordinatesIn.j2] at h, fun _ _ _ r h => by simp [spec_CoordinatesIn.l0] at h⟩
 | k + 1 => by
  obtain ⟨ih0, ih1, ih2, ih3⟩ := spec_CoordinatesIn.mono_l k
  refine ⟨?_, ?_, ?_, ?_⟩ <;> intros <;> first | unfold spec_CoordinatesIn.j0 | unfold spec_CoordinatesIn.j1 | unfold spec_CoordinatesIn.j2 | unfold spec_CoordinatesIn.l0
  all_goals repeat' first
   | (with_reducible first | apply ih0 | apply ih1 | apply ih2 | apply ih3 | apply spec_l01Basis.mono | apply spec_l01Given.mono | apply spec_l01List.mono | apply spec_l01Sum.mono | exact LeO.refl _ | exact LeO.none _ | refine LeO.ite ?_ ?_ | refine LeO.bind ?_ (fun _ => ?_))
   | exact LeO.none _
   | refine LeO.ite ?_ ?_
   | refine LeO.bind ?_ (fun _ => ?_)
theorem spec_CoordinatesIn.mono : ∀ a0 a1 a2 a3 k, LeO (spec_CoordinatesIn.f k a0 a1 a2 a3) (spec_CoordinatesIn.f (k + 1) a0 a1 a2 a3) := by
 intro a0 a1 a2 a3 k
 obtain ⟨ih0, ih1, ih2, ih3⟩ := spec_CoordinatesIn.mono_l k
 unfold spec_CoordinatesIn.f
 repeat' first
  | (with_reducible first | apply ih0 | apply ih1 | apply ih2 | apply ih3 | apply spec_l01Basis.mono | apply spec_l01Given.mono | apply spec_l01List.mono | apply spec_l01Sum.mono | exact LeO.refl _ | exact LeO.none _ | refine LeO.ite ?_ ?_ | refine LeO.bind ?_ (fun _ => ?_))
  | exact LeO.none _
  | refine LeO.ite ?_ ?_
  | refine LeO.bind ?_ (fun _ => ?_)
theorem spec_CoordinatesIn.calls (k : Nat) (a0_0 : Int) (a0_1 : Int) (A1 : Option Addr) (c1 : Nat) (l1 : List Int) (a2 : Int) (r1 : Int) (r2 : Int) (w : World) (hr1 : Kd.C (Kd.int .i64) w A1 l1.length l1) (hc1 : l1.length ≤ c1) (h : spec_CoordinatesIn.f k a0_0 a0_1 l1 a2 = some (r1, r2)) :
 Calls Try.prog 17 #[.agg #[.int .i64 a0_0, .int .i64 a0_1], .slice A1 l1.length c1, .int .i64 a2] w fun e w' => e = .returned (.tuple #[.int .i64 r1, .int .i64 r2]) ∧ Below w.heap.size w w' := by
 have hu26 := Try.underlying26
 have HR1 := Aq.mk hr1
 have HC1 := Aq.mk hc1
 clear hr1 hc1
 have HB := Aq.mk (Below.refl w.heap.size w)
 have H : ((spec_l01List.f k a0_0 a0_1 l1).bind fun t283 => (if t283 = 0 then ((spec_l01Given.f k a0_0 a0_1 a2 0).bind fun t284 => (spec_CoordinatesIn.j0 k l1 a2 t284 a0_0 a0_1)) else (spec_CoordinatesIn.j0 k l1 a2 t283 a0_0 a0_1))) = some (r1, r2) := h
 clear h
 obtain ⟨t283, A4, H⟩ := qBd H
 have HC5 := Aq.mk H
 clear H
 go_enter Try.func17, Try.ntmps17
 go_upto_if 14 with (first | ((with_reducible refine gQd (N := 3) rfl ?_); refine xQe ?hg (N := 3) ?hd (cs := #[.int .i64 a0_0, .int .i64 a0_1]) (t := 26) ?hr ?_; (case hd => rfl); (case hg => rfl); (case hr => exact tH); intro gb282 hg w6 hbox hb; refine qM4 (bQT tB hb) hbox (tZ w hg) (tZ w hg) ?_; clear HB; intro HB BK282 GW282 GE282; clear hb hbox hg; have hcz7_0 : w6.cell? ⟨gb282, 0, none⟩ = some (.int .i64 a0_0) := (kQC BK282.out 0).trans rfl; have hcz7_1 : w6.cell? ⟨gb282, 1, none⟩ = some (.int .i64 a0_1) := (kQC BK282.out 1).trans rfl; have hfz7_0 := kQF BK282.out 0; have hfz7_1 := kQF BK282.out 1) | ((with_reducible refine gQc (f := 43) rfl ?_); refine goesL_ (some 12) rfl rfl Try.func43 (by kernel_rfl) rfl #[.agg #[.int .i64 a0_0, .int .i64 a0_1], .slice A1 l1.length c1] rfl tL ?_; (with_reducible refine (spec_l01List.calls k a0_0 a0_1 _ _ l1 t283 _ ?s1 ?s2 A4.out).mono ?_); (case s1 => exact tC ((Kd.C_below HR1.out HB.out))); (case s2 => exact HC1.out); rintro e w8 ⟨rfl, hb⟩; refine ⟨_, rfl, ?_⟩; refine qM2 (tQ BK282.out hb) (bQT tB hb) ?_; clear BK282 HB; intro BK282 HB; (try clear hb); (try clear hb2); (try clear hk); (try clear hi)))
 (try simp only [Act.put, qSa, qSb, qSc])
 go_cut [8] (fun v8 wc => ∃ (kq : Nat) (x8_4 : Int), v8 = .int .i64 x8_4 ∧ Aq (spec_CoordinatesIn.j0 kq l1 a2 x8_4 a0_0 a0_1 = some (r1, r2)) ∧ Aq (kq ≤ k) ∧ Aq (wc.heap[gb282]? = some (.cells #[.int .i64 a0_0, .int .i64 a0_1] 26 (0, 0))) ∧ Aq (Below w.heap.size w wc))
 case first =>
  have H := HC5.out
  clear HC5
  by_cases c9 : t283 = 0
  rotate_left
  ·rw [if_neg c9] at H
   have c9b0 := beq_eq_false_iff_ne.mpr c9
   have c9b1 := bne_iff_ne.mpr c9
   (first | rw [c9b0] | (simp only [i64_w, i32_w]; rw [c9b0]) | skip)
   replace H' := Aq.mk H
   clear H
   go_wp2
   go_meet
   case rel => exact ⟨_, (t283), tS, H', ⟨tO⟩, ⟨tG BK282.out⟩, ⟨tB⟩⟩
  rw [if_pos c9] at H
  have c9b0 := beq_iff_eq.mpr c9
  have c9b1 := bne_eq_false_iff_eq.mpr c9
  clear c9
  (first | rw [c9b0] | (simp only [i64_w, i32_w]; rw [c9b0]) | skip)
  obtain ⟨t284, A10, H⟩ := qBd H
  replace H' := Aq.mk H
  clear H
  have hcz11_0 : w8.cell? ⟨gb282, 0, none⟩ = some (.int .i64 a0_0) := (kQC BK282.out 0).trans rfl
  have hcz11_1 : w8.cell? ⟨gb282, 1, none⟩ = some (.int .i64 a0_1) := (kQC BK282.out 1).trans rfl
  have hfz11_0 := kQF BK282.out 0
  have hfz11_1 := kQF BK282.out 1
  go_wp2_with (first | ((with_reducible refine gQc (f := 44) rfl ?_); refine goesL_ (some 17) rfl rfl Try.func44 (by kernel_rfl) rfl #[.agg #[.int .i64 a0_0, .int .i64 a0_1], .int .i64 a2, .int .i64 0] rfl tL ?_; (with_reducible refine (spec_l01Given.calls k a0_0 a0_1 a2 0 t284 _ A10.out).mono ?_); rintro e w12 ⟨rfl, hb⟩; refine ⟨_, rfl, ?_⟩; refine qM2 (tQ BK282.out hb) (bQT tB hb) ?_; clear BK282 HB; intro BK282 HB; (try clear hb); (try clear hb2); (try clear hk); (try clear hi)))
  go_meet
  case rel => exact ⟨_, (t284), tS, H', ⟨tO⟩, ⟨tG BK282.out⟩, ⟨tB⟩⟩
 clear HC5
 try clear c1
 try clear c9
 try clear c9b0
 try clear c9b1
 try clear hcz11_0
 try clear hcz11_1
 try clear hcz7_0
 try clear hcz7_1
 try clear hfz11_0
 try clear hfz11_1
 try clear hfz7_0
 try clear hfz7_1
 obtain ⟨kq, x8_4, rfl, HA, HJ4, BK282, HB⟩ := hcut
 cases kq with
 | zero => exact absurd HA.out (by simp [spec_CoordinatesIn.j0])
 | succ kj4 =>
  have H := HA.out
  clear HA
  simp only [spec_CoordinatesIn.j0] at H
  have HC13 := Aq.mk H
  clear H
  go_upto_region 4 with (fail)
  go_cut [25] (fun v25 wc => ∃ (kq : Nat) (x25_12 : Bool), v25 = .bool x25_12 ∧ Aq (spec_CoordinatesIn.j1 kq l1 a2 x8_4 x25_12 = some (r1, r2)) ∧ Aq (kq ≤ kj4) ∧ Aq (wc.heap[gb282]? = some (.cells #[.int .i64 a0_0, .int .i64 a0_1] 26 (0, 0))) ∧ Aq (Below w.heap.size w wc))
  case first =>
   have H := HC13.out
   clear HC13
   by_cases c14 : x8_4 = 0
   rotate_left
   ·rw [if_neg c14] at H
    have c14b0 := beq_eq_false_iff_ne.mpr c14
    have c14b1 := bne_iff_ne.mpr c14
    (first | rw [c14b0] | (simp only [i64_w, i32_w]; rw [c14b0]) | skip)
    replace H' := Aq.mk H
    clear H
    go_wp2
    go_meet
    case rel => exact ⟨_, (false), tS, H', ⟨by have := HJ4.out; first | omega | exact Nat.le_refl _⟩, ⟨tG BK282.out⟩, ⟨tB⟩⟩
   rw [if_pos c14] at H
   have c14b0 := beq_iff_eq.mpr c14
   have c14b1 := bne_eq_false_iff_eq.mpr c14
   clear c14
   (first | rw [c14b0] | (simp only [i64_w, i32_w]; rw [c14b0]) | skip)
   obtain ⟨t285, A15, H⟩ := qBd H
   replace H' := Aq.mk H
   clear H
   have hcz16_0 : wc.cell? ⟨gb282, 0, none⟩ = some (.int .i64 a0_0) := (kQC BK282.out 0).trans rfl
   have hcz16_1 : wc.cell? ⟨gb282, 1, none⟩ = some (.int .i64 a0_1) := (kQC BK282.out 1).trans rfl
   have hfz16_0 := kQF BK282.out 0
   have hfz16_1 := kQF BK282.out 1
   go_wp2_with (first | (go_at_call 30; (with_reducible refine (spec_l01Basis.calls kj4 a0_0 a0_1 _ _ l1 t285 _ ?s1 ?s2 A15.out).mono ?_); (case s1 => exact tC ((Kd.C_below HR1.out HB.out))); (case s2 => exact HC1.out); rintro e w17 ⟨rfl, hb⟩; refine qM2 (tQ BK282.out hb) (bQT tB hb) ?_; clear BK282 HB; intro BK282 HB; (try clear hb); (try clear hb2); (try clear hk); (try clear hi)))
   go_meet
   case rel => exact ⟨_, (!t285), tS, H', ⟨by have := HJ4.out; first | omega | exact Nat.le_refl _⟩, ⟨tG BK282.out⟩, ⟨tB⟩⟩
  clear HC13
  try clear c1
  try clear c9
  try clear c9b0
  try clear c9b1
  try clear c14
  try clear c14b0
  try clear c14b1
  try clear hcz11_0
  try clear hcz11_1
  try clear hcz16_0
  try clear hcz16_1
  try clear hcz7_0
  try clear hcz7_1
  try clear hfz11_0
  try clear hfz11_1
  try clear hfz16_0
  try clear hfz16_1
  try clear hfz7_0
  try clear hfz7_1
  obtain ⟨kq, x25_12, rfl, HA, HJ12, BK282, HB⟩ := hcut
  cases kq with
  | zero => exact absurd HA.out (by simp [spec_CoordinatesIn.j1])
  | succ kj12 =>
   have H := HA.out
   clear HA
   simp only [spec_CoordinatesIn.j1] at H
   have HC18 := Aq.mk H
   clear H
   go_upto_if 25 with (fail)
   go_cut [8] (fun v8 wc => ∃ (kq : Nat) (x8_17 : Int), v8 = .int .i64 x8_17 ∧ Aq (spec_CoordinatesIn.j2 kq l1 a2 x8_17 = some (r1, r2)) ∧ Aq (kq ≤ kj12) ∧ Aq (wc.heap[gb282]? = some (.cells #[.int .i64 a0_0, .int .i64 a0_1] 26 (0, 0))) ∧ Aq (Below w.heap.size w wc))
   case first =>
    have H := HC18.out
    clear HC18
    by_cases c19 : x25_12 = true
    ·subst c19
     rw [if_pos rfl] at H
     replace H' := Aq.mk H
     clear H
     go_wp2
     go_meet
     case rel => exact ⟨_, (4), tS, H', ⟨by have := HJ4.out; have := HJ12.out; first | omega | exact Nat.le_refl _⟩, ⟨tG BK282.out⟩, ⟨tB⟩⟩
    replace c19 := Bool.eq_false_iff.mpr c19
    subst c19
    rw [if_neg (show ¬ (false = true) by decide)] at H
    replace H' := Aq.mk H
    clear H
    go_wp2
    go_meet
    case rel => exact ⟨_, (x8_4), tS, H', ⟨by have := HJ4.out; have := HJ12.out; first | omega | exact Nat.le_refl _⟩, ⟨tG BK282.out⟩, ⟨tB⟩⟩
   clear HC18
   try clear c1
   try clear c9
   try clear c9b0
   try clear c9b1
   try clear c14
   try clear c14b0
   try clear c14b1
   try clear c19
   try clear hcz11_0
   try clear hcz11_1
   try clear hcz16_0
   try clear hcz16_1
   try clear hcz7_0
   try clear hcz7_1
   try clear hfz11_0
   try clear hfz11_1
   try clear hfz16_0
   try clear hfz16_1
   try clear hfz7_0
   try clear hfz7_1
   obtain ⟨kq, x8_17, rfl, HA, HJ17, BK282, HB⟩ := hcut
   cases kq with
   | zero => exact absurd HA.out (by simp [spec_CoordinatesIn.j2])
   | succ kj17 =>
    have H := HA.out
    clear HA
    simp only [spec_CoordinatesIn.j2] at H
    by_cases c20 : x8_17 = 0
    rotate_left
    ·rw [if_neg c20] at H
     have c20b0 := beq_eq_false_iff_ne.mpr c20
     have c20b1 := bne_iff_ne.mpr c20
     simp only [Option.some.injEq, Prod.mk.injEq] at H
     obtain ⟨rfl, rfl⟩ := H
     go_wp2
     go_ret2
     exact ⟨tE, tB⟩
    rw [if_pos c20] at H
    have c20b0 := beq_iff_eq.mpr c20
    have c20b1 := bne_eq_false_iff_eq.mpr c20
    clear c20
    replace H' := Aq.mk H
    clear H
    go_wp2
    go_loopg [9] kj17 (fun kq v9 w' => ∃ (x9_4 : Int), v9 = .int .i64 x9_4 ∧ Aq (spec_CoordinatesIn.l0 kq l1 a2 x9_4 = some (r1, r2)) ∧ Aq (kq ≤ kj17) ∧ Aq (w'.heap[gb282]? = some (.cells #[.int .i64 a0_0, .int .i64 a0_1] 26 (0, 0))) ∧ Aq (Below w.heap.size w w'))
    case atStart => exact ⟨(0), tS, H', ⟨Nat.le_refl _⟩, ⟨tG BK282.out⟩, ⟨tB⟩⟩
    clear H'
    try clear c1
    try clear c9
    try clear c9b0
    try clear c9b1
    try clear c14
    try clear c14b0
    try clear c14b1
    try clear c19
    try clear c20
    try clear c20b0
    try clear c20b1
    try clear hcz11_0
    try clear hcz11_1
    try clear hcz16_0
    try clear hcz16_1
    try clear hcz7_0
    try clear hcz7_1
    try clear hfz11_0
    try clear hfz11_1
    try clear hfz16_0
    try clear hfz16_1
    try clear hfz7_0
    try clear hfz7_1
    obtain ⟨x9_4, rfl, HA, HK4, BK282, HB⟩ := hrel
    cases gk with
    | zero => exact absurd HA.out (by simp [spec_CoordinatesIn.l0])
    | succ k4 =>
     have H := HA.out
     clear HA
     simp only [spec_CoordinatesIn.l0] at H
     obtain ⟨t286, A21, H⟩ := qBd H
     by_cases c22 : t286 = a2
     ·rw [if_pos c22] at H
      have c22b0 := beq_iff_eq.mpr c22
      have c22b1 := bne_eq_false_iff_eq.mpr c22
      clear c22
      simp only [Option.some.injEq, Prod.mk.injEq] at H
      obtain ⟨rfl, rfl⟩ := H
      go_wp2_with (first | ((with_reducible refine gQc (f := 45) rfl ?_); refine goesL_ (some 31) rfl rfl Try.func45 (by kernel_rfl) rfl #[.slice A1 l1.length c1, .int .i64 x9_4] rfl tL ?_; (with_reducible refine (spec_l01Sum.calls k4 _ _ l1 x9_4 t286 _ ?s1 ?s2 A21.out).mono ?_); (case s1 => exact tC ((Kd.C_below HR1.out HB.out))); (case s2 => exact HC1.out); rintro e w' ⟨rfl, ⟨nd, rfl⟩⟩; refine ⟨_, rfl, ?_⟩))
      go_ret2
      exact ⟨tE, tB⟩
     rw [if_neg c22] at H
     have c22b0 := beq_eq_false_iff_ne.mpr c22
     have c22b1 := bne_iff_ne.mpr c22
     replace H' := Aq.mk H
     clear H
     go_wp2_with (first | ((with_reducible refine gQc (f := 45) rfl ?_); refine goesL_ (some 31) rfl rfl Try.func45 (by kernel_rfl) rfl #[.slice A1 l1.length c1, .int .i64 x9_4] rfl tL ?_; (with_reducible refine (spec_l01Sum.calls k4 _ _ l1 x9_4 t286 _ ?s1 ?s2 A21.out).mono ?_); (case s1 => exact tC ((Kd.C_below HR1.out HB.out))); (case s2 => exact HC1.out); rintro e w' ⟨rfl, ⟨nd, rfl⟩⟩; refine ⟨_, rfl, ?_⟩))
     go_roundg k4
     case measure => have := HJ4.out; have := HJ12.out; have := HJ17.out; have := HK4.out; omega
     case rel => exact ⟨(wrap64 (x9_4 + 1)), tS, H', ⟨by have := HJ4.out; have := HJ12.out; have := HJ17.out; have := HK4.out; omega⟩, ⟨tG BK282.out⟩, ⟨tB⟩⟩
end Go.Proofs.Ytbgbblgdbcjibaa.P
