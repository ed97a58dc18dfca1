/- Functions of the program and what they tell, as the printing program wrote it. -/
import Derived.Test.YtpigghpimgkilaaPx0
import Derived.Test.YtpigghpimgkilaaPx1
import Derived.Test.YtpigghpimgkilaaPx2
import Derived.Test.YtpigghpimgkilaaPx3
import Derived.Test.YtpigghpimgkilaaPx13
namespace Go.Proofs.Ytpigghpimgkilaa.P
open Go.Shelf Go.RowKit Go.Proofs.YtpigghpimgkilaaW.PrintWords Go.Proofs.YtpigghpimgkilaaW.PrintLast Go.Proofs.YtpigghpimgkilaaW.PrintMore
attribute [local go_sem] max2_int min2_int max_two min_two max_three min_three max_four min_four
set_option linter.unusedVariables false
set_option linter.unusedSimpArgs false
set_option maxHeartbeats 8000000
set_option maxRecDepth 100000
mutual
def laws_FnExactComposeLinear.j0 : Nat → List Int → List Int → List Int → Int → List Int → List Int → List Int → Int → Bool → Int → Int → Option (Bool)
  | 0, _, _, _, _, _, _, _, _, _, _, _ => none
  | k + 1, x1, x2, x7, x8, x9, x10, x11, x12, x54, x340000, x340001 => if x54 = true then (some false) else ((laws_toInt64S.f k x1).bind fun t365 => ((laws_eqInt64S.f k x9 t365).bind fun t368 => (if t368 = true then ((laws_toInt64S.f k x2).bind fun t369 => ((laws_eqInt64S.f k x10 t369).bind fun t372 => (if t372 = true then ((laws_markInt64S.f k x9 1).bind fun bt373 => ((laws_markInt64S.f k x10 bt373.1).bind fun bt375 => (if bt375.1 < 0 then (laws_FnExactComposeLinear.j1 k x1 x2 x7 x8 x11 true x340000 x340001) else ((laws_eqInt64S.f k x11 x7).bind fun t377 => (if t377 = true then (laws_FnExactComposeLinear.j1 k x1 x2 x7 x8 x11 (x12 != x8) x340000 x340001) else (laws_FnExactComposeLinear.j1 k x1 x2 x7 x8 x11 true x340000 x340001)))))) else (some false)))) else (some false))))
def laws_FnExactComposeLinear.j1 : Nat → List Int → List Int → List Int → Int → List Int → Bool → Int → Int → Option (Bool)
  | 0, _, _, _, _, _, _, _, _ => none
  | k + 1, x1, x2, x7, x8, x11, x83, x340000, x340001 => if x83 = true then (some false) else ((laws_markInt64S.f k x11 1).bind fun bt378 => ((laws_heldInt64S.f k bt378.2 1).bind fun t380 => (if t380 < 0 then (some false) else (if t380 = bt378.1 then ((laws_toField.f x340000 x340001).bind fun bt381 => ((laws_toInt64S.f k x1).bind fun t383 => ((laws_toInt64S.f k x2).bind fun t386 => ((impl_ComposeLinear.f k bt381.1 bt381.2 t383 t386).bind fun bt389 => ((laws_eqInt64S.f k bt389.1 x7).bind fun t393 => (if t393 = true then (laws_FnExactComposeLinear.j2 k bt378.2 bt378.1 (bt389.2 != x8)) else (laws_FnExactComposeLinear.j2 k bt378.2 bt378.1 true))))))) else (some false)))))
def laws_FnExactComposeLinear.j2 : Nat → List Int → Int → Bool → Option (Bool)
  | 0, _, _, _ => none
  | k + 1, x11, x14, x113 => if x113 = true then (some false) else ((laws_heldInt64S.f k x11 1).bind fun t394 => (if t394 < 0 then (some false) else (if t394 = x14 then (some true) else (some false))))
end
def laws_FnExactComposeLinear.f (k : Nat) (a0_0 : Int) (a0_1 : Int) (l1 : List Int) (l2 : List Int) : Option (Bool) := if (l1.length : Int) > 1048576 then (some true) else (if (l2.length : Int) > 1048576 then (some true) else ((laws_toField.f a0_0 a0_1).bind fun bt340 => ((laws_toInt64S.f k l1).bind fun t342 => ((laws_toInt64S.f k l2).bind fun t345 => ((spec_ComposeLinear.f k bt340.1 bt340.2 t342 t345).bind fun bt348 => ((laws_toInt64S.f k l1).bind fun t352 => ((laws_toInt64S.f k l2).bind fun t355 => ((laws_toField.f a0_0 a0_1).bind fun bt358 => ((impl_ComposeLinear.f k bt358.1 bt358.2 t352 t355).bind fun bt360 => ((laws_eqInt64S.f k bt360.1 bt348.1).bind fun t364 => (if t364 = true then (laws_FnExactComposeLinear.j0 k l1 l2 bt348.1 bt348.2 t352 t355 bt360.1 bt360.2 (bt360.2 != bt348.2) a0_0 a0_1) else (laws_FnExactComposeLinear.j0 k l1 l2 bt348.1 bt348.2 t352 t355 bt360.1 bt360.2 true a0_0 a0_1))))))))))))
theorem laws_FnExactComposeLinear.mono_l : ∀ k, (∀ y0 y1 y2 y3 y4 y5 y6 y7 y8 y9 y10, LeO (laws_FnExactComposeLinear.j0 k y0 y1 y2 y3 y4 y5 y6 y7 y8 y9 y10) (laws_FnExactComposeLinear.j0 (k + 1) y0 y1 y2 y3 y4 y5 y6 y7 y8 y9 y10)) ∧ (∀ y0 y1 y2 y3 y4 y5 y6 y7, LeO (laws_FnExactComposeLinear.j1 k y0 y1 y2 y3 y4 y5 y6 y7) (laws_FnExactComposeLinear.j1 (k + 1) y0 y1 y2 y3 y4 y5 y6 y7)) ∧ (∀ y0 y1 y2, LeO (laws_FnExactComposeLinear.j2 k y0 y1 y2) (laws_FnExactComposeLinear.j2 (k + 1) y0 y1 y2))
 | 0 => ⟨fun _ _ _ _ _ _ _ _ _ _ _ r h => by simp [laws_FnExactComposeLinear.j0] at h, fun _ _ _ _ _ _ _ _ r h => by simp [laws_FnExactComposeLinear.j1] at h, fun _ _ _ r h => by simp [laws_FnExactComposeLinear.j2] at h⟩
 | k + 1 => by
  obtain ⟨ih0, ih1, ih2⟩ := laws_FnExactComposeLinear.mono_l k
  refine ⟨?_, ?_, ?_⟩ <;> intros <;> first | unfold laws_FnExactComposeLinear.j0 | unfold laws_FnExactComposeLinear.j1 | unfold laws_FnExactComposeLinear.j2
  all_goals repeat' first
   | (with_reducible first | apply ih0 | apply ih1 | apply ih2 | apply impl_ComposeLinear.mono | apply laws_eqInt64S.mono | apply laws_heldInt64S.mono | apply laws_markInt64S.mono | apply laws_toInt64S.mono | apply spec_ComposeLinear.mono | exact LeO.refl _ | exact LeO.none _ | refine LeO.ite ?_ ?_ | refine LeO.bind ?_ (fun _ => ?_))
   | exact LeO.none _
   | refine LeO.ite ?_ ?_
   | refine LeO.bind ?_ (fun _ => ?_)
theorem laws_FnExactComposeLinear.mono : ∀ a0 a1 a2 a3 k, LeO (laws_FnExactComposeLinear.f k a0 a1 a2 a3) (laws_FnExactComposeLinear.f (k + 1) a0 a1 a2 a3) := by
 intro a0 a1 a2 a3 k
 obtain ⟨ih0, ih1, ih2⟩ := laws_FnExactComposeLinear.mono_l k
 unfold laws_FnExactComposeLinear.f
 repeat' first
  | (with_reducible first | apply ih0 | apply ih1 | apply ih2 | apply impl_ComposeLinear.mono | apply laws_eqInt64S.mono | apply laws_heldInt64S.mono | apply laws_markInt64S.mono | apply laws_toInt64S.mono | apply spec_ComposeLinear.mono | exact LeO.refl _ | exact LeO.none _ | refine LeO.ite ?_ ?_ | refine LeO.bind ?_ (fun _ => ?_))
  | exact LeO.none _
  | refine LeO.ite ?_ ?_
  | refine LeO.bind ?_ (fun _ => ?_)
theorem laws_FnExactComposeLinear.calls (k : Nat) (a0_0 : Int) (a0_1 : Int) (A1 : Option Addr) (c1 : Nat) (l1 : List Int) (A2 : Option Addr) (c2 : Nat) (l2 : List Int) (r : Bool) (w : World) (hr1 : Kd.C (Kd.int .i64) w A1 l1.length l1) (hc1 : l1.length ≤ c1) (hr2 : Kd.C (Kd.int .i64) w A2 l2.length l2) (hc2 : l2.length ≤ c2) (h : laws_FnExactComposeLinear.f k a0_0 a0_1 l1 l2 = some r) :
 Calls Try.prog 4 #[.agg #[.int .i64 a0_0, .int .i64 a0_1], .slice A1 l1.length c1, .slice A2 l2.length c2] w fun e w' => e = .returned (.bool r) ∧ Below w.heap.size w w' := by
 have hu23 := Try.underlying23
 have HR1 := Aq.mk hr1
 have HC1 := Aq.mk hc1
 clear hr1 hc1
 have HR2 := Aq.mk hr2
 have HC2 := Aq.mk hc2
 clear hr2 hc2
 have HB := Aq.mk (Below.refl w.heap.size w)
 have H : (if (l1.length : Int) > 1048576 then (some true) else (if (l2.length : Int) > 1048576 then (some true) else ((laws_toField.f a0_0 a0_1).bind fun bt340 => ((laws_toInt64S.f k l1).bind fun t342 => ((laws_toInt64S.f k l2).bind fun t345 => ((spec_ComposeLinear.f k bt340.1 bt340.2 t342 t345).bind fun bt348 => ((laws_toInt64S.f k l1).bind fun t352 => ((laws_toInt64S.f k l2).bind fun t355 => ((laws_toField.f a0_0 a0_1).bind fun bt358 => ((impl_ComposeLinear.f k bt358.1 bt358.2 t352 t355).bind fun bt360 => ((laws_eqInt64S.f k bt360.1 bt348.1).bind fun t364 => (if t364 = true then (laws_FnExactComposeLinear.j0 k l1 l2 bt348.1 bt348.2 t352 t355 bt360.1 bt360.2 (bt360.2 != bt348.2) a0_0 a0_1) else (laws_FnExactComposeLinear.j0 k l1 l2 bt348.1 bt348.2 t352 t355 bt360.1 bt360.2 true a0_0 a0_1))))))))))))) = some r := h
 clear h
 by_cases c4 : (l1.length : Int) > 1048576
 ·rw [if_pos c4] at H
  have c4b0 := decide_eq_true c4
  have c4b1 : decide (1048576 < l1.length) = true := decide_eq_true (by omega)
  clear c4
  obtain rfl := Option.some.inj H
  go_enter Try.func4, Try.ntmps4
  go_wp2_with (first | ((with_reducible refine gQd (N := 3) rfl ?_); refine xQe ?hg (N := 3) ?hd (cs := #[.int .i64 a0_0, .int .i64 a0_1]) (t := 23) ?hr ?_; (case hd => rfl); (case hg => rfl); (case hr => exact tH); intro gb339 hg w5 hbox hb; refine qM4 (bQT tB hb) hbox (tZ w hg) (tZ w hg) ?_; clear HB; intro HB BK339 GW339 GE339; clear hb hbox hg))
  go_ret
  exact ⟨tE, tB⟩
 rw [if_neg c4] at H
 have c4b0 := decide_eq_false c4
 have c4b1 : decide (1048576 < l1.length) = false := decide_eq_false (by omega)
 clear c4
 by_cases c6 : (l2.length : Int) > 1048576
 ·rw [if_pos c6] at H
  have c6b0 := decide_eq_true c6
  have c6b1 : decide (1048576 < l2.length) = true := decide_eq_true (by omega)
  clear c6
  obtain rfl := Option.some.inj H
  go_enter Try.func4, Try.ntmps4
  go_wp2_with (first | ((with_reducible refine gQd (N := 3) rfl ?_); refine xQe ?hg (N := 3) ?hd (cs := #[.int .i64 a0_0, .int .i64 a0_1]) (t := 23) ?hr ?_; (case hd => rfl); (case hg => rfl); (case hr => exact tH); intro gb339 hg w7 hbox hb; refine qM4 (bQT tB hb) hbox (tZ w hg) (tZ w hg) ?_; clear HB; intro HB BK339 GW339 GE339; clear hb hbox hg))
  go_ret
  exact ⟨tE, tB⟩
 rw [if_neg c6] at H
 have c6b0 := decide_eq_false c6
 have c6b1 : decide (1048576 < l2.length) = false := decide_eq_false (by omega)
 clear c6
 obtain ⟨⟨t340, t341⟩, A8, H⟩ := qBd H
 (try dsimp only at H)
 obtain ⟨t342, A9, H⟩ := qBd H
 obtain ⟨t345, A10, H⟩ := qBd H
 obtain ⟨⟨t348, t351⟩, A11, H⟩ := qBd H
 (try dsimp only at H)
 obtain ⟨t352, A12, H⟩ := qBd H
 obtain ⟨t355, A13, H⟩ := qBd H
 obtain ⟨⟨t358, t359⟩, A14, H⟩ := qBd H
 (try dsimp only at H)
 obtain ⟨⟨t360, t363⟩, A15, H⟩ := qBd H
 (try dsimp only at H)
 have HC16 := Aq.mk H
 clear H
 go_enter Try.func4, Try.ntmps4
 go_upto_region 9 with (first | ((with_reducible refine gQd (N := 3) rfl ?_); refine xQe ?hg (N := 3) ?hd (cs := #[.int .i64 a0_0, .int .i64 a0_1]) (t := 23) ?hr ?_; (case hd => rfl); (case hg => rfl); (case hr => exact tH); intro gb339 hg w17 hbox hb; refine qM4 (bQT tB hb) hbox (tZ w hg) (tZ w hg) ?_; clear HB; intro HB BK339 GW339 GE339; clear hb hbox hg; have hcz18_0 : w17.cell? ⟨gb339, 0, none⟩ = some (.int .i64 a0_0) := (kQC BK339.out 0).trans rfl; have hcz18_1 : w17.cell? ⟨gb339, 1, none⟩ = some (.int .i64 a0_1) := (kQC BK339.out 1).trans rfl; have hfz18_0 := kQF BK339.out 0; have hfz18_1 := kQF BK339.out 1) | ((with_reducible refine gQc (f := 8) rfl ?_); refine goesL_ (some 26) rfl rfl Try.func8 (by kernel_rfl) rfl #[.agg #[.int .i64 a0_0, .int .i64 a0_1]] rfl tL ?_; (with_reducible refine (laws_toField.calls a0_0 a0_1 t340 t341 _ A8.out).mono ?_); rintro e w19 ⟨rfl, hb⟩; refine ⟨_, rfl, ?_⟩; refine qM2 (tQ BK339.out hb) (bQT tB hb) ?_; clear BK339 HB; intro BK339 HB; (try clear hb); (try clear hb2); (try clear hk); (try clear hi)) | ((with_reducible refine gQc (f := 9) rfl ?_); refine goesL_ (some 28) rfl rfl Try.func9 (by kernel_rfl) rfl #[.slice A1 l1.length c1] rfl tL ?_; (with_reducible refine (laws_toInt64S.calls k _ _ l1 t342 _ ?s1 ?s2 A9.out).mono ?_); (case s1 => exact tC ((Kd.C_below HR1.out HB.out))); (case s2 => exact HC1.out); rintro e w20 ⟨v343, rfl, ho0, hb⟩; refine ⟨_, rfl, ?_⟩; refine qM3 (Kd.R_lower ho0 (bQZ tB)) (tQ BK339.out hb) (bQT tB hb) ?_; clear BK339 HB; intro HO344 BK339 HB; (try clear hb); (try clear hb2); (try clear hk); (try clear hi); (try clear ho0)) | ((with_reducible refine gQc (f := 9) rfl ?_); refine goesL_ (some 30) rfl rfl Try.func9 (by kernel_rfl) rfl #[.slice A2 l2.length c2] rfl tL ?_; (with_reducible refine (laws_toInt64S.calls k _ _ l2 t345 _ ?s1 ?s2 A10.out).mono ?_); (case s1 => exact tC ((Kd.C_below HR2.out HB.out))); (case s2 => exact HC2.out); rintro e w21 ⟨v346, rfl, ho0, hb⟩; refine ⟨_, rfl, ?_⟩; refine qM4 (Kd.R_elder' (tR HO344.out) (Kd.R_base ho0) hb) (Kd.R_lower (Kd.R_new' ho0 (Kd.R_lt (tR HO344.out))) (bQZ tB)) (tQ BK339.out hb) (bQT tB hb) ?_; clear HO344 BK339 HB; intro HO344 HO347 BK339 HB; (try clear hb); (try clear hb2); (try clear hk); (try clear hi); (try clear ho0); obtain ⟨Ao22, co22, eo22⟩ := Kd.R_slice HO344.out; subst eo22; obtain ⟨Ao23, co23, eo23⟩ := Kd.R_slice HO347.out; subst eo23) | ((with_reducible refine gQc (f := 14) rfl ?_); refine goesL_ (some 31) rfl rfl Try.func14 (by kernel_rfl) rfl #[.agg #[.int .i64 t340, .int .i64 t341], .slice Ao22 t342.length co22, .slice Ao23 t345.length co23] rfl tL ?_; (with_reducible refine (spec_ComposeLinear.calls k t340 t341 _ _ t342 _ _ t345 t348 t351 _ ?s1 ?s2 ?s3 ?s4 A11.out).mono ?_); (case s1 => exact tC ((Kd.R_reads' HO344.out).2.2)); (case s2 => exact (Kd.R_reads' HO344.out).2.1); (case s3 => exact tC ((Kd.R_reads' HO347.out).2.2)); (case s4 => exact (Kd.R_reads' HO347.out).2.1); rintro e w24 ⟨v349, rfl, ho0, hb⟩; refine ⟨_, rfl, ?_⟩; refine qM5 (Kd.R_elder' (tR HO344.out) (Kd.R_base ho0) hb) (Kd.R_elder' (tR HO347.out) (Kd.R_base ho0) hb) (Kd.R_lower (Kd.R_new' (Kd.R_new' ho0 (Kd.R_lt (tR HO344.out))) (Kd.R_lt (tR HO347.out))) (bQZ tB)) (tQ BK339.out hb) (bQT tB hb) ?_; clear HO344 HO347 BK339 HB; intro HO344 HO347 HO350 BK339 HB; (try clear hb); (try clear hb2); (try clear hk); (try clear hi); (try clear ho0)) | ((with_reducible refine gQc (f := 9) rfl ?_); refine goesL_ (some 35) rfl rfl Try.func9 (by kernel_rfl) rfl #[.slice A1 l1.length c1] rfl tL ?_; (with_reducible refine (laws_toInt64S.calls k _ _ l1 t352 _ ?s1 ?s2 A12.out).mono ?_); (case s1 => exact tC ((Kd.C_below HR1.out HB.out))); (case s2 => exact HC1.out); rintro e w25 ⟨v353, rfl, ho0, hb⟩; refine ⟨_, rfl, ?_⟩; refine qM6 (Kd.R_elder' (tR HO344.out) (Kd.R_base ho0) hb) (Kd.R_elder' (tR HO347.out) (Kd.R_base ho0) hb) (Kd.R_elder' (tR HO350.out) (Kd.R_base ho0) hb) (Kd.R_lower (Kd.R_new' (Kd.R_new' (Kd.R_new' ho0 (Kd.R_lt (tR HO344.out))) (Kd.R_lt (tR HO347.out))) (Kd.R_lt (tR HO350.out))) (bQZ tB)) (tQ BK339.out hb) (bQT tB hb) ?_; clear HO344 HO347 HO350 BK339 HB; intro HO344 HO347 HO350 HO354 BK339 HB; (try clear hb); (try clear hb2); (try clear hk); (try clear hi); (try clear ho0)) | ((with_reducible refine gQc (f := 9) rfl ?_); refine goesL_ (some 37) rfl rfl Try.func9 (by kernel_rfl) rfl #[.slice A2 l2.length c2] rfl tL ?_; (with_reducible refine (laws_toInt64S.calls k _ _ l2 t355 _ ?s1 ?s2 A13.out).mono ?_); (case s1 => exact tC ((Kd.C_below HR2.out HB.out))); (case s2 => exact HC2.out); rintro e w26 ⟨v356, rfl, ho0, hb⟩; refine ⟨_, rfl, ?_⟩; refine qM7 (Kd.R_elder' (tR HO344.out) (Kd.R_base ho0) hb) (Kd.R_elder' (tR HO347.out) (Kd.R_base ho0) hb) (Kd.R_elder' (tR HO350.out) (Kd.R_base ho0) hb) (Kd.R_elder' (tR HO354.out) (Kd.R_base ho0) hb) (Kd.R_lower (Kd.R_new' (Kd.R_new' (Kd.R_new' (Kd.R_new' ho0 (Kd.R_lt (tR HO344.out))) (Kd.R_lt (tR HO347.out))) (Kd.R_lt (tR HO350.out))) (Kd.R_lt (tR HO354.out))) (bQZ tB)) (tQ BK339.out hb) (bQT tB hb) ?_; clear HO344 HO347 HO350 HO354 BK339 HB; intro HO344 HO347 HO350 HO354 HO357 BK339 HB; (try clear hb); (try clear hb2); (try clear hk); (try clear hi); (try clear ho0); have hcz27_0 : w26.cell? ⟨gb339, 0, none⟩ = some (.int .i64 a0_0) := (kQC BK339.out 0).trans rfl; have hcz27_1 : w26.cell? ⟨gb339, 1, none⟩ = some (.int .i64 a0_1) := (kQC BK339.out 1).trans rfl; have hfz27_0 := kQF BK339.out 0; have hfz27_1 := kQF BK339.out 1) | ((with_reducible refine gQc (f := 8) rfl ?_); refine goesL_ (some 40) rfl rfl Try.func8 (by kernel_rfl) rfl #[.agg #[.int .i64 a0_0, .int .i64 a0_1]] rfl tL ?_; (with_reducible refine (laws_toField.calls a0_0 a0_1 t358 t359 _ A14.out).mono ?_); rintro e w28 ⟨rfl, hb⟩; refine ⟨_, rfl, ?_⟩; refine qM7 (Kd.R_below (tR HO344.out) hb) (Kd.R_below (tR HO347.out) hb) (Kd.R_below (tR HO350.out) hb) (Kd.R_below (tR HO354.out) hb) (Kd.R_below (tR HO357.out) hb) (tQ BK339.out hb) (bQT tB hb) ?_; clear HO344 HO347 HO350 HO354 HO357 BK339 HB; intro HO344 HO347 HO350 HO354 HO357 BK339 HB; (try clear hb); (try clear hb2); (try clear hk); (try clear hi); obtain ⟨Ao29, co29, eo29⟩ := Kd.R_slice HO354.out; subst eo29; obtain ⟨Ao30, co30, eo30⟩ := Kd.R_slice HO357.out; subst eo30) | ((with_reducible refine gQc (f := 15) rfl ?_); refine goesL_ (some 43) rfl rfl Try.func15 (by kernel_rfl) rfl #[.agg #[.int .i64 t358, .int .i64 t359], .slice Ao29 t352.length co29, .slice Ao30 t355.length co30] rfl tL ?_; (with_reducible refine (impl_ComposeLinear.calls k t358 t359 (fun k_ => some k_ = (.slice Ao29 t352.length co29 : Value).ownBlock) _ _ t352 (fun k_ => some k_ = (.slice Ao30 t355.length co30 : Value).ownBlock) _ _ t355 t360 t363 _ ?s1 ?s2 A15.out).mono ?_); (case s1 => exact Kd.R_V (Kd.R_tight rfl (Kd.R_types (HO354.out) BK339.out (by decide)))); (case s2 => exact Kd.R_V (Kd.R_tight rfl (Kd.R_types (HO357.out) BK339.out (by decide)))); rintro e w31 ⟨v361, rfl, ho0, hb⟩; refine ⟨_, rfl, ?_⟩; refine qM8 (Kd.R_elder' (tR HO344.out) (Kd.R_base ho0) hb) (Kd.R_elder' (tR HO347.out) (Kd.R_base ho0) hb) (Kd.R_elder' (tR HO350.out) (Kd.R_base ho0) hb) (Kd.R_elder' (tR HO354.out) (Kd.R_base ho0) hb) (Kd.R_elder' (tR HO357.out) (Kd.R_base ho0) hb) (Kd.R_lower (Kd.R_new' (Kd.R_new' (Kd.R_new' (Kd.R_new' (Kd.R_new' (Kd.R_mono (ok' := fun k_ => True) ho0 (fun _ hk_ => trivial)) (Kd.R_lt (tR HO344.out))) (Kd.R_lt (tR HO347.out))) (Kd.R_lt (tR HO350.out))) (Kd.R_lt (tR HO354.out))) (Kd.R_lt (tR HO357.out))) (bQZ tB)) (tQ BK339.out hb) (bQT tB hb) ?_; clear HO344 HO347 HO350 HO354 HO357 BK339 HB; intro HO344 HO347 HO350 HO354 HO357 HO362 BK339 HB; (try clear hb); (try clear hb2); (try clear hk); (try clear hi); (try clear ho0)))
 (try simp only [Act.put, qSa, qSb, qSc])
 go_cut [54] (fun v54 wc => ∃ (kq : Nat) (x54_15 : Bool), v54 = .bool x54_15 ∧ Aq (laws_FnExactComposeLinear.j0 kq l1 l2 t348 t351 t352 t355 t360 t363 x54_15 a0_0 a0_1 = some r) ∧ Aq (kq ≤ k) ∧ Aq (Kd.R (Kd.int .i64) 2 wc w.heap.size (fun k_ => some k_ ≠ ((.slice Ao29 t352.length co29) : Value).ownBlock ∧ some k_ ≠ ((.slice Ao30 t355.length co30) : Value).ownBlock ∧ some k_ ≠ (v361 : Value).ownBlock) v349 t348) ∧ Aq (Kd.R (Kd.int .i64) 2 wc w.heap.size (fun k_ => some k_ ≠ (v349 : Value).ownBlock ∧ some k_ ≠ ((.slice Ao30 t355.length co30) : Value).ownBlock ∧ some k_ ≠ (v361 : Value).ownBlock) (.slice Ao29 t352.length co29) t352) ∧ Aq (Kd.R (Kd.int .i64) 2 wc w.heap.size (fun k_ => some k_ ≠ (v349 : Value).ownBlock ∧ some k_ ≠ ((.slice Ao29 t352.length co29) : Value).ownBlock ∧ some k_ ≠ (v361 : Value).ownBlock) (.slice Ao30 t355.length co30) t355) ∧ Aq (Kd.R (Kd.int .i64) 2 wc w.heap.size (fun k_ => some k_ ≠ (v349 : Value).ownBlock ∧ some k_ ≠ ((.slice Ao29 t352.length co29) : Value).ownBlock ∧ some k_ ≠ ((.slice Ao30 t355.length co30) : Value).ownBlock) v361 t360) ∧ Aq (wc.heap[gb339]? = some (.cells #[.int .i64 a0_0, .int .i64 a0_1] 23 (0, 0))) ∧ Aq (Below w.heap.size w wc))
 case first =>
  have H := HC16.out
  clear HC16
  obtain ⟨t364, A32, H⟩ := qBd H
  by_cases c33 : t364 = true
  ·subst c33
   rw [if_pos rfl] at H
   replace H' := Aq.mk H
   clear H
   obtain ⟨Ao34, co34, eo34⟩ := Kd.R_slice HO362.out
   subst eo34
   obtain ⟨Ao35, co35, eo35⟩ := Kd.R_slice HO350.out
   subst eo35
   go_wp2_with (first | ((with_reducible refine gQc (f := 11) rfl ?_); refine goesL_ (some 48) rfl rfl Try.func11 (by kernel_rfl) rfl #[.slice Ao34 t360.length co34, .slice Ao35 t348.length co35] rfl tL ?_; (with_reducible refine (laws_eqInt64S.calls k _ _ t360 _ _ t348 true _ ?s1 ?s2 ?s3 ?s4 A32.out).mono ?_); (case s1 => exact tC ((Kd.R_reads' HO362.out).2.2)); (case s2 => exact (Kd.R_reads' HO362.out).2.1); (case s3 => exact tC ((Kd.R_reads' HO350.out).2.2)); (case s4 => exact (Kd.R_reads' HO350.out).2.1); rintro e w' ⟨rfl, ⟨nd, rfl⟩⟩; refine ⟨_, rfl, ?_⟩))
   go_meet
   case rel => exact ⟨_, ((t363 != t351)), tS, H', ⟨tO⟩, ⟨by (with_reducible repeat (first | apply Kd.RqA | apply Kd.RqN | apply Kd.RqD)); exact Kd.R_mono HO350.out (fun _ hk => ⟨hk.1.1.2, ⟨hk.1.2, hk.2⟩⟩)⟩, ⟨by (with_reducible repeat (first | apply Kd.RqA | apply Kd.RqN | apply Kd.RqD)); exact Kd.R_mono HO354.out (fun _ hk => ⟨hk.1.1.2, ⟨hk.1.2, hk.2⟩⟩)⟩, ⟨by (with_reducible repeat (first | apply Kd.RqA | apply Kd.RqN | apply Kd.RqD)); exact Kd.R_mono HO357.out (fun _ hk => ⟨hk.1.1.2, ⟨hk.1.2, hk.2⟩⟩)⟩, ⟨by (with_reducible repeat (first | apply Kd.RqA | apply Kd.RqN | apply Kd.RqD)); exact Kd.R_mono HO362.out (fun _ hk => ⟨hk.1.1.2, ⟨hk.1.2, hk.2⟩⟩)⟩, ⟨tG BK339.out⟩, ⟨tB⟩⟩
  replace c33 := Bool.eq_false_iff.mpr c33
  subst c33
  rw [if_neg (show ¬ (false = true) by decide)] at H
  replace H' := Aq.mk H
  clear H
  obtain ⟨Ao36, co36, eo36⟩ := Kd.R_slice HO362.out
  subst eo36
  obtain ⟨Ao37, co37, eo37⟩ := Kd.R_slice HO350.out
  subst eo37
  go_wp2_with (first | ((with_reducible refine gQc (f := 11) rfl ?_); refine goesL_ (some 48) rfl rfl Try.func11 (by kernel_rfl) rfl #[.slice Ao36 t360.length co36, .slice Ao37 t348.length co37] rfl tL ?_; (with_reducible refine (laws_eqInt64S.calls k _ _ t360 _ _ t348 false _ ?s1 ?s2 ?s3 ?s4 A32.out).mono ?_); (case s1 => exact tC ((Kd.R_reads' HO362.out).2.2)); (case s2 => exact (Kd.R_reads' HO362.out).2.1); (case s3 => exact tC ((Kd.R_reads' HO350.out).2.2)); (case s4 => exact (Kd.R_reads' HO350.out).2.1); rintro e w' ⟨rfl, ⟨nd, rfl⟩⟩; refine ⟨_, rfl, ?_⟩))
  go_meet
  case rel => exact ⟨_, (true), tS, H', ⟨tO⟩, ⟨by (with_reducible repeat (first | apply Kd.RqA | apply Kd.RqN | apply Kd.RqD)); exact Kd.R_mono HO350.out (fun _ hk => ⟨hk.1.1.2, ⟨hk.1.2, hk.2⟩⟩)⟩, ⟨by (with_reducible repeat (first | apply Kd.RqA | apply Kd.RqN | apply Kd.RqD)); exact Kd.R_mono HO354.out (fun _ hk => ⟨hk.1.1.2, ⟨hk.1.2, hk.2⟩⟩)⟩, ⟨by (with_reducible repeat (first | apply Kd.RqA | apply Kd.RqN | apply Kd.RqD)); exact Kd.R_mono HO357.out (fun _ hk => ⟨hk.1.1.2, ⟨hk.1.2, hk.2⟩⟩)⟩, ⟨by (with_reducible repeat (first | apply Kd.RqA | apply Kd.RqN | apply Kd.RqD)); exact Kd.R_mono HO362.out (fun _ hk => ⟨hk.1.1.2, ⟨hk.1.2, hk.2⟩⟩)⟩, ⟨tG BK339.out⟩, ⟨tB⟩⟩
 clear HC16
 try clear c1
 try clear c2
 try clear c4
 try clear c4b0
 try clear c4b1
 try clear c6
 try clear c6b0
 try clear c6b1
 try clear c33
 try clear hcz18_0
 try clear hcz18_1
 try clear hcz27_0
 try clear hcz27_1
 try clear hfz18_0
 try clear hfz18_1
 try clear hfz27_0
 try clear hfz27_1
 obtain ⟨kq, x54_15, rfl, HA, HJ15, HO_7, HO_9, HO_10, HO_11, BK339, HB⟩ := hcut
 cases kq with
 | zero => exact absurd HA.out (by simp [laws_FnExactComposeLinear.j0])
 | succ kj15 =>
  have H := HA.out
  clear HA
  simp only [laws_FnExactComposeLinear.j0] at H
  by_cases c38 : x54_15 = true
  ·subst c38
   rw [if_pos rfl] at H
   obtain rfl := Option.some.inj H
   go_wp2
   go_ret
   exact ⟨tE, tB⟩
  replace c38 := Bool.eq_false_iff.mpr c38
  subst c38
  rw [if_neg (show ¬ (false = true) by decide)] at H
  obtain ⟨t365, A39, H⟩ := qBd H
  obtain ⟨t368, A40, H⟩ := qBd H
  by_cases c41 : t368 = true
  rotate_left
  ·replace c41 := Bool.eq_false_iff.mpr c41
   subst c41
   rw [if_neg (show ¬ (false = true) by decide)] at H
   obtain rfl := Option.some.inj H
   go_wp2_with (first | ((with_reducible refine gQc (f := 9) rfl ?_); refine goesL_ (some 57) rfl rfl Try.func9 (by kernel_rfl) rfl #[.slice A1 l1.length c1] rfl tL ?_; (with_reducible refine (laws_toInt64S.calls kj15 _ _ l1 t365 _ ?s1 ?s2 A39.out).mono ?_); (case s1 => exact tC ((Kd.C_below HR1.out HB.out))); (case s2 => exact HC1.out); rintro e w98 ⟨v366, rfl, ho0, hb⟩; refine ⟨_, rfl, ?_⟩; refine qM7 (Kd.R_elder' (tR HO_7.out) (Kd.R_base ho0) hb) (Kd.R_elder' (tR HO_9.out) (Kd.R_base ho0) hb) (Kd.R_elder' (tR HO_10.out) (Kd.R_base ho0) hb) (Kd.R_elder' (tR HO_11.out) (Kd.R_base ho0) hb) (Kd.R_lower (Kd.R_new' (Kd.R_new' (Kd.R_new' (Kd.R_new' ho0 (Kd.R_lt (tR HO_7.out))) (Kd.R_lt (tR HO_9.out))) (Kd.R_lt (tR HO_10.out))) (Kd.R_lt (tR HO_11.out))) (bQZ tB)) (tQ BK339.out hb) (bQT tB hb) ?_; clear HO_7 HO_9 HO_10 HO_11 BK339 HB; intro HO_7 HO_9 HO_10 HO_11 HO367 BK339 HB; (try clear hb); (try clear hb2); (try clear hk); (try clear hi); (try clear ho0); obtain ⟨Ao99, co99, eo99⟩ := Kd.R_slice HO367.out; subst eo99) | ((with_reducible refine gQc (f := 11) rfl ?_); refine goesL_ (some 58) rfl rfl Try.func11 (by kernel_rfl) rfl #[.slice Ao29 t352.length co29, .slice Ao99 t365.length co99] rfl tL ?_; (with_reducible refine (laws_eqInt64S.calls kj15 _ _ t352 _ _ t365 false _ ?s1 ?s2 ?s3 ?s4 A40.out).mono ?_); (case s1 => exact tC ((Kd.R_reads' HO_9.out).2.2)); (case s2 => exact (Kd.R_reads' HO_9.out).2.1); (case s3 => exact tC ((Kd.R_reads' HO367.out).2.2)); (case s4 => exact (Kd.R_reads' HO367.out).2.1); rintro e w' ⟨rfl, ⟨nd, rfl⟩⟩; refine ⟨_, rfl, ?_⟩))
   go_ret
   exact ⟨tE, tB⟩
  subst c41
  rw [if_pos rfl] at H
  obtain ⟨t369, A42, H⟩ := qBd H
  obtain ⟨t372, A43, H⟩ := qBd H
  by_cases c44 : t372 = true
  rotate_left
  ·replace c44 := Bool.eq_false_iff.mpr c44
   subst c44
   rw [if_neg (show ¬ (false = true) by decide)] at H
   obtain rfl := Option.some.inj H
   go_wp2_with (first | ((with_reducible refine gQc (f := 9) rfl ?_); refine goesL_ (some 57) rfl rfl Try.func9 (by kernel_rfl) rfl #[.slice A1 l1.length c1] rfl tL ?_; (with_reducible refine (laws_toInt64S.calls kj15 _ _ l1 t365 _ ?s1 ?s2 A39.out).mono ?_); (case s1 => exact tC ((Kd.C_below HR1.out HB.out))); (case s2 => exact HC1.out); rintro e w94 ⟨v366, rfl, ho0, hb⟩; refine ⟨_, rfl, ?_⟩; refine qM7 (Kd.R_elder' (tR HO_7.out) (Kd.R_base ho0) hb) (Kd.R_elder' (tR HO_9.out) (Kd.R_base ho0) hb) (Kd.R_elder' (tR HO_10.out) (Kd.R_base ho0) hb) (Kd.R_elder' (tR HO_11.out) (Kd.R_base ho0) hb) (Kd.R_lower (Kd.R_new' (Kd.R_new' (Kd.R_new' (Kd.R_new' ho0 (Kd.R_lt (tR HO_7.out))) (Kd.R_lt (tR HO_9.out))) (Kd.R_lt (tR HO_10.out))) (Kd.R_lt (tR HO_11.out))) (bQZ tB)) (tQ BK339.out hb) (bQT tB hb) ?_; clear HO_7 HO_9 HO_10 HO_11 BK339 HB; intro HO_7 HO_9 HO_10 HO_11 HO367 BK339 HB; (try clear hb); (try clear hb2); (try clear hk); (try clear hi); (try clear ho0); obtain ⟨Ao95, co95, eo95⟩ := Kd.R_slice HO367.out; subst eo95) | ((with_reducible refine gQc (f := 11) rfl ?_); refine goesL_ (some 58) rfl rfl Try.func11 (by kernel_rfl) rfl #[.slice Ao29 t352.length co29, .slice Ao95 t365.length co95] rfl tL ?_; (with_reducible refine (laws_eqInt64S.calls kj15 _ _ t352 _ _ t365 true _ ?s1 ?s2 ?s3 ?s4 A40.out).mono ?_); (case s1 => exact tC ((Kd.R_reads' HO_9.out).2.2)); (case s2 => exact (Kd.R_reads' HO_9.out).2.1); (case s3 => exact tC ((Kd.R_reads' HO367.out).2.2)); (case s4 => exact (Kd.R_reads' HO367.out).2.1); rintro e w' ⟨rfl, ⟨nd, rfl⟩⟩; refine ⟨_, rfl, ?_⟩) | ((with_reducible refine gQc (f := 9) rfl ?_); refine goesL_ (some 62) rfl rfl Try.func9 (by kernel_rfl) rfl #[.slice A2 l2.length c2] rfl tL ?_; (with_reducible refine (laws_toInt64S.calls kj15 _ _ l2 t369 _ ?s1 ?s2 A42.out).mono ?_); (case s1 => exact tC ((Kd.C_below HR2.out tB))); (case s2 => exact HC2.out); rintro e w96 ⟨v370, rfl, ho0, hb⟩; refine ⟨_, rfl, ?_⟩; refine qM8 (Kd.R_elder' (tR HO_7.out) (Kd.R_base ho0) hb) (Kd.R_elder' (tR HO_9.out) (Kd.R_base ho0) hb) (Kd.R_elder' (tR HO_10.out) (Kd.R_base ho0) hb) (Kd.R_elder' (tR HO_11.out) (Kd.R_base ho0) hb) (Kd.R_elder' (tR HO367.out) (Kd.R_base ho0) hb) (Kd.R_lower (Kd.R_new' (Kd.R_new' (Kd.R_new' (Kd.R_new' (Kd.R_new' ho0 (Kd.R_lt (tR HO_7.out))) (Kd.R_lt (tR HO_9.out))) (Kd.R_lt (tR HO_10.out))) (Kd.R_lt (tR HO_11.out))) (Kd.R_lt (tR HO367.out))) (bQZ tB)) (tQ BK339.out hb) (bQT tB hb) ?_; clear HO_7 HO_9 HO_10 HO_11 HO367 BK339 HB; intro HO_7 HO_9 HO_10 HO_11 HO367 HO371 BK339 HB; (try clear hb); (try clear hb2); (try clear hk); (try clear hi); (try clear ho0); obtain ⟨Ao97, co97, eo97⟩ := Kd.R_slice HO371.out; subst eo97) | ((with_reducible refine gQc (f := 11) rfl ?_); refine goesL_ (some 63) rfl rfl Try.func11 (by kernel_rfl) rfl #[.slice Ao30 t355.length co30, .slice Ao97 t369.length co97] rfl tL ?_; (with_reducible refine (laws_eqInt64S.calls kj15 _ _ t355 _ _ t369 false _ ?s1 ?s2 ?s3 ?s4 A43.out).mono ?_); (case s1 => exact tC ((Kd.R_reads' HO_10.out).2.2)); (case s2 => exact (Kd.R_reads' HO_10.out).2.1); (case s3 => exact tC ((Kd.R_reads' HO371.out).2.2)); (case s4 => exact (Kd.R_reads' HO371.out).2.1); rintro e w' ⟨rfl, ⟨nd, rfl⟩⟩; refine ⟨_, rfl, ?_⟩))
   go_ret
   exact ⟨tE, tB⟩
  subst c44
  rw [if_pos rfl] at H
  obtain ⟨⟨t373, t374⟩, A45, H⟩ := qBd H
  (try dsimp only at H)
  obtain ⟨⟨t375, t376⟩, A46, H⟩ := qBd H
  (try dsimp only at H)
  have HC47 := Aq.mk H
  clear H
  go_upto_region 18 with (first | ((with_reducible refine gQc (f := 9) rfl ?_); refine goesL_ (some 57) rfl rfl Try.func9 (by kernel_rfl) rfl #[.slice A1 l1.length c1] rfl tL ?_; (with_reducible refine (laws_toInt64S.calls kj15 _ _ l1 t365 _ ?s1 ?s2 A39.out).mono ?_); (case s1 => exact tC ((Kd.C_below HR1.out HB.out))); (case s2 => exact HC1.out); rintro e w48 ⟨v366, rfl, ho0, hb⟩; refine ⟨_, rfl, ?_⟩; refine qM7 (Kd.R_elder' (tR HO_7.out) (Kd.R_base ho0) hb) (Kd.R_elder' (tR HO_9.out) (Kd.R_base ho0) hb) (Kd.R_elder' (tR HO_10.out) (Kd.R_base ho0) hb) (Kd.R_elder' (tR HO_11.out) (Kd.R_base ho0) hb) (Kd.R_lower (Kd.R_new' (Kd.R_new' (Kd.R_new' (Kd.R_new' ho0 (Kd.R_lt (tR HO_7.out))) (Kd.R_lt (tR HO_9.out))) (Kd.R_lt (tR HO_10.out))) (Kd.R_lt (tR HO_11.out))) (bQZ tB)) (tQ BK339.out hb) (bQT tB hb) ?_; clear HO_7 HO_9 HO_10 HO_11 BK339 HB; intro HO_7 HO_9 HO_10 HO_11 HO367 BK339 HB; (try clear hb); (try clear hb2); (try clear hk); (try clear hi); (try clear ho0); obtain ⟨Ao49, co49, eo49⟩ := Kd.R_slice HO367.out; subst eo49) | ((with_reducible refine gQc (f := 11) rfl ?_); refine goesL_ (some 58) rfl rfl Try.func11 (by kernel_rfl) rfl #[.slice Ao29 t352.length co29, .slice Ao49 t365.length co49] rfl tL ?_; (with_reducible refine (laws_eqInt64S.calls kj15 _ _ t352 _ _ t365 true _ ?s1 ?s2 ?s3 ?s4 A40.out).mono ?_); (case s1 => exact tC ((Kd.R_reads' HO_9.out).2.2)); (case s2 => exact (Kd.R_reads' HO_9.out).2.1); (case s3 => exact tC ((Kd.R_reads' HO367.out).2.2)); (case s4 => exact (Kd.R_reads' HO367.out).2.1); rintro e w' ⟨rfl, ⟨nd, rfl⟩⟩; refine ⟨_, rfl, ?_⟩) | ((with_reducible refine gQc (f := 9) rfl ?_); refine goesL_ (some 62) rfl rfl Try.func9 (by kernel_rfl) rfl #[.slice A2 l2.length c2] rfl tL ?_; (with_reducible refine (laws_toInt64S.calls kj15 _ _ l2 t369 _ ?s1 ?s2 A42.out).mono ?_); (case s1 => exact tC ((Kd.C_below HR2.out tB))); (case s2 => exact HC2.out); rintro e w50 ⟨v370, rfl, ho0, hb⟩; refine ⟨_, rfl, ?_⟩; refine qM8 (Kd.R_elder' (tR HO_7.out) (Kd.R_base ho0) hb) (Kd.R_elder' (tR HO_9.out) (Kd.R_base ho0) hb) (Kd.R_elder' (tR HO_10.out) (Kd.R_base ho0) hb) (Kd.R_elder' (tR HO_11.out) (Kd.R_base ho0) hb) (Kd.R_elder' (tR HO367.out) (Kd.R_base ho0) hb) (Kd.R_lower (Kd.R_new' (Kd.R_new' (Kd.R_new' (Kd.R_new' (Kd.R_new' ho0 (Kd.R_lt (tR HO_7.out))) (Kd.R_lt (tR HO_9.out))) (Kd.R_lt (tR HO_10.out))) (Kd.R_lt (tR HO_11.out))) (Kd.R_lt (tR HO367.out))) (bQZ tB)) (tQ BK339.out hb) (bQT tB hb) ?_; clear HO_7 HO_9 HO_10 HO_11 HO367 BK339 HB; intro HO_7 HO_9 HO_10 HO_11 HO367 HO371 BK339 HB; (try clear hb); (try clear hb2); (try clear hk); (try clear hi); (try clear ho0); obtain ⟨Ao51, co51, eo51⟩ := Kd.R_slice HO371.out; subst eo51) | ((with_reducible refine gQc (f := 11) rfl ?_); refine goesL_ (some 63) rfl rfl Try.func11 (by kernel_rfl) rfl #[.slice Ao30 t355.length co30, .slice Ao51 t369.length co51] rfl tL ?_; (with_reducible refine (laws_eqInt64S.calls kj15 _ _ t355 _ _ t369 true _ ?s1 ?s2 ?s3 ?s4 A43.out).mono ?_); (case s1 => exact tC ((Kd.R_reads' HO_10.out).2.2)); (case s2 => exact (Kd.R_reads' HO_10.out).2.1); (case s3 => exact tC ((Kd.R_reads' HO371.out).2.2)); (case s4 => exact (Kd.R_reads' HO371.out).2.1); rintro e w' ⟨rfl, ⟨nd, rfl⟩⟩; refine ⟨_, rfl, ?_⟩) | ((with_reducible refine gQc (f := 12) rfl ?_); refine goesL_ (some 67) rfl rfl Try.func12 (by kernel_rfl) rfl #[.slice Ao29 t352.length co29, .int .i64 1] rfl tL ?_; (with_reducible refine (laws_markInt64S.calls kj15 (fun k_ => some k_ = (.slice Ao29 t352.length co29 : Value).ownBlock) (.slice Ao29 t352.length co29) t352 1 t373 t374 w _ ?s1 ?s2 A45.out).mono ?_); (case s1 => exact tB); (case s2 => exact Kd.R_tight rfl HO_9.out); rintro e w52 ⟨rfl, hy0, hb, hkp⟩; refine ⟨_, rfl, ?_⟩; refine qM8 (Kd.R_mono (ok' := fun k_ => some k_ ≠ (.slice Ao29 t352.length co29 : Value).ownBlock ∧ some k_ ≠ (.slice Ao30 t355.length co30 : Value).ownBlock ∧ some k_ ≠ (v361 : Value).ownBlock ∧ some k_ ≠ (.slice Ao49 t365.length co49 : Value).ownBlock ∧ some k_ ≠ (.slice Ao51 t369.length co51 : Value).ownBlock) (Kd.R_keptB (HO_7.out) hkp (fun k_ hk_ hs_ => (hk_.1.1.1) hs_)) (fun k_ hk_ => ⟨hk_.1.1.1.1, hk_.1.1.1.2.1, hk_.1.1.1.2.2, hk_.1.1.2, hk_.1.2⟩)) (Kd.R_reok rfl hy0 (fun k_ e_ => HO_9.out.1 k_ e_)) (Kd.R_mono (ok' := fun k_ => some k_ ≠ (v349 : Value).ownBlock ∧ some k_ ≠ (.slice Ao29 t352.length co29 : Value).ownBlock ∧ some k_ ≠ (v361 : Value).ownBlock ∧ some k_ ≠ (.slice Ao49 t365.length co49 : Value).ownBlock ∧ some k_ ≠ (.slice Ao51 t369.length co51 : Value).ownBlock) (Kd.R_keptB (HO_10.out) hkp (fun k_ hk_ hs_ => (hk_.1.1.2.1) hs_)) (fun k_ hk_ => ⟨hk_.1.1.1.1, hk_.1.1.1.2.1, hk_.1.1.1.2.2, hk_.1.1.2, hk_.1.2⟩)) (Kd.R_mono (ok' := fun k_ => some k_ ≠ (v349 : Value).ownBlock ∧ some k_ ≠ (.slice Ao29 t352.length co29 : Value).ownBlock ∧ some k_ ≠ (.slice Ao30 t355.length co30 : Value).ownBlock ∧ some k_ ≠ (.slice Ao49 t365.length co49 : Value).ownBlock ∧ some k_ ≠ (.slice Ao51 t369.length co51 : Value).ownBlock) (Kd.R_keptB (HO_11.out) hkp (fun k_ hk_ hs_ => (hk_.1.1.2.1) hs_)) (fun k_ hk_ => ⟨hk_.1.1.1.1, hk_.1.1.1.2.1, hk_.1.1.1.2.2, hk_.1.1.2, hk_.1.2⟩)) (blk_kept (tG BK339.out) hkp (fun hs_ => (fun e_ => (Kd.R_ne HO_9.out BK339.out (by decide)) e_) hs_)) (Kd.R_mono (ok' := fun k_ => some k_ ≠ (v349 : Value).ownBlock ∧ some k_ ≠ (.slice Ao29 t352.length co29 : Value).ownBlock ∧ some k_ ≠ (.slice Ao30 t355.length co30 : Value).ownBlock ∧ some k_ ≠ (v361 : Value).ownBlock ∧ some k_ ≠ (.slice Ao51 t369.length co51 : Value).ownBlock) (Kd.R_keptB (HO367.out) hkp (fun k_ hk_ hs_ => (hk_.1.1.1.2) hs_)) (fun k_ hk_ => ⟨hk_.1.1.1.1.1.2, hk_.1.1.1.1.2, hk_.1.1.1.2, hk_.1.1.2, hk_.1.2⟩)) (Kd.R_mono (ok' := fun k_ => some k_ ≠ (v349 : Value).ownBlock ∧ some k_ ≠ (.slice Ao29 t352.length co29 : Value).ownBlock ∧ some k_ ≠ (.slice Ao30 t355.length co30 : Value).ownBlock ∧ some k_ ≠ (v361 : Value).ownBlock ∧ some k_ ≠ (.slice Ao49 t365.length co49 : Value).ownBlock) (Kd.R_keptB (HO371.out) hkp (fun k_ hk_ hs_ => (hk_.1.1.1.2) hs_)) (fun k_ hk_ => ⟨hk_.1.1.1.1.1.2, hk_.1.1.1.1.2, hk_.1.1.1.2, hk_.1.1.2, hk_.1.2⟩)) hb ?_; clear HO_7 HO_9 HO_10 HO_11 BK339 HO367 HO371 HB; intro HO_7 HO_9 HO_10 HO_11 BK339 HO367 HO371 HB; (try clear hb); (try clear hkp); (try clear hy0)) | ((with_reducible refine gQc (f := 12) rfl ?_); refine goesL_ (some 70) rfl rfl Try.func12 (by kernel_rfl) rfl #[.slice Ao30 t355.length co30, .int .i64 t373] rfl tL ?_; (with_reducible refine (laws_markInt64S.calls kj15 (fun k_ => some k_ = (.slice Ao30 t355.length co30 : Value).ownBlock) (.slice Ao30 t355.length co30) t355 t373 t375 t376 w _ ?s1 ?s2 A46.out).mono ?_); (case s1 => exact tB); (case s2 => exact Kd.R_tight rfl HO_10.out); rintro e w53 ⟨rfl, hy0, hb, hkp⟩; refine ⟨_, rfl, ?_⟩; refine qM8 (Kd.R_mono (ok' := fun k_ => some k_ ≠ (.slice Ao29 t352.length co29 : Value).ownBlock ∧ some k_ ≠ (.slice Ao30 t355.length co30 : Value).ownBlock ∧ some k_ ≠ (v361 : Value).ownBlock ∧ some k_ ≠ (.slice Ao49 t365.length co49 : Value).ownBlock ∧ some k_ ≠ (.slice Ao51 t369.length co51 : Value).ownBlock) (Kd.R_keptB (HO_7.out) hkp (fun k_ hk_ hs_ => (hk_.2.1) hs_)) (fun k_ hk_ => ⟨hk_.1.1, hk_.1.2.1, hk_.1.2.2.1, hk_.1.2.2.2.1, hk_.1.2.2.2.2⟩)) (Kd.R_mono (ok' := fun k_ => some k_ ≠ (v349 : Value).ownBlock ∧ some k_ ≠ (.slice Ao30 t355.length co30 : Value).ownBlock ∧ some k_ ≠ (v361 : Value).ownBlock ∧ some k_ ≠ (.slice Ao49 t365.length co49 : Value).ownBlock ∧ some k_ ≠ (.slice Ao51 t369.length co51 : Value).ownBlock) (Kd.R_keptB (HO_9.out) hkp (fun k_ hk_ hs_ => (hk_.1.1.2.1) hs_)) (fun k_ hk_ => ⟨hk_.1.1.1.1, hk_.1.1.1.2.1, hk_.1.1.1.2.2, hk_.1.1.2, hk_.1.2⟩)) (Kd.R_reok rfl hy0 (fun k_ e_ => HO_10.out.1 k_ e_)) (Kd.R_mono (ok' := fun k_ => some k_ ≠ (v349 : Value).ownBlock ∧ some k_ ≠ (.slice Ao29 t352.length co29 : Value).ownBlock ∧ some k_ ≠ (.slice Ao30 t355.length co30 : Value).ownBlock ∧ some k_ ≠ (.slice Ao49 t365.length co49 : Value).ownBlock ∧ some k_ ≠ (.slice Ao51 t369.length co51 : Value).ownBlock) (Kd.R_keptB (HO_11.out) hkp (fun k_ hk_ hs_ => (hk_.2.2.1) hs_)) (fun k_ hk_ => ⟨hk_.1.1, hk_.1.2.1, hk_.1.2.2.1, hk_.1.2.2.2.1, hk_.1.2.2.2.2⟩)) (blk_kept (tG BK339.out) hkp (fun hs_ => (fun e_ => (Kd.R_ne HO_10.out BK339.out (by decide)) e_) hs_)) (Kd.R_mono (ok' := fun k_ => some k_ ≠ (v349 : Value).ownBlock ∧ some k_ ≠ (.slice Ao29 t352.length co29 : Value).ownBlock ∧ some k_ ≠ (.slice Ao30 t355.length co30 : Value).ownBlock ∧ some k_ ≠ (v361 : Value).ownBlock ∧ some k_ ≠ (.slice Ao51 t369.length co51 : Value).ownBlock) (Kd.R_keptB (HO367.out) hkp (fun k_ hk_ hs_ => (hk_.2.2.1) hs_)) (fun k_ hk_ => ⟨hk_.1.1, hk_.1.2.1, hk_.1.2.2.1, hk_.1.2.2.2.1, hk_.1.2.2.2.2⟩)) (Kd.R_mono (ok' := fun k_ => some k_ ≠ (v349 : Value).ownBlock ∧ some k_ ≠ (.slice Ao29 t352.length co29 : Value).ownBlock ∧ some k_ ≠ (.slice Ao30 t355.length co30 : Value).ownBlock ∧ some k_ ≠ (v361 : Value).ownBlock ∧ some k_ ≠ (.slice Ao49 t365.length co49 : Value).ownBlock) (Kd.R_keptB (HO371.out) hkp (fun k_ hk_ hs_ => (hk_.2.2.1) hs_)) (fun k_ hk_ => ⟨hk_.1.1, hk_.1.2.1, hk_.1.2.2.1, hk_.1.2.2.2.1, hk_.1.2.2.2.2⟩)) hb ?_; clear HO_7 HO_9 HO_10 HO_11 BK339 HO367 HO371 HB; intro HO_7 HO_9 HO_10 HO_11 BK339 HO367 HO371 HB; (try clear hb); (try clear hkp); (try clear hy0)))
  (try simp only [Act.put, qSa, qSb, qSc])
  go_cut [83] (fun v83 wc => ∃ (kq : Nat) (x83_46 : Bool), v83 = .bool x83_46 ∧ Aq (laws_FnExactComposeLinear.j1 kq l1 l2 t348 t351 t360 x83_46 a0_0 a0_1 = some r) ∧ Aq (kq ≤ kj15) ∧ Aq (Kd.R (Kd.int .i64) 2 wc w.heap.size (fun k_ => some k_ ≠ (v361 : Value).ownBlock) v349 t348) ∧ Aq (Kd.R (Kd.int .i64) 2 wc w.heap.size (fun k_ => some k_ ≠ (v349 : Value).ownBlock) v361 t360) ∧ Aq (wc.heap[gb339]? = some (.cells #[.int .i64 a0_0, .int .i64 a0_1] 23 (0, 0))) ∧ Aq (Below w.heap.size w wc))
  case first =>
   have H := HC47.out
   clear HC47
   by_cases c54 : t375 < 0
   ·rw [if_pos c54] at H
    have c54b0 := decide_eq_true c54
    clear c54
    (first | rw [c54b0] | (simp only [i64_w, i32_w]; rw [c54b0]) | skip)
    replace H' := Aq.mk H
    clear H
    go_wp2
    go_meet
    case rel => exact ⟨_, (true), tS, H', ⟨by have := HJ15.out; first | omega | exact Nat.le_refl _⟩, ⟨by (with_reducible repeat (first | apply Kd.RqA | apply Kd.RqN | apply Kd.RqD)); exact Kd.R_mono HO_7.out (fun _ hk => hk.2.2.1)⟩, ⟨by (with_reducible repeat (first | apply Kd.RqA | apply Kd.RqN | apply Kd.RqD)); exact Kd.R_mono HO_11.out (fun _ hk => hk.1)⟩, ⟨tG BK339.out⟩, ⟨tB⟩⟩
   rw [if_neg c54] at H
   have c54b0 := decide_eq_false c54
   clear c54
   (first | rw [c54b0] | (simp only [i64_w, i32_w]; rw [c54b0]) | skip)
   obtain ⟨t377, A55, H⟩ := qBd H
   by_cases c56 : t377 = true
   ·subst c56
    rw [if_pos rfl] at H
    replace H' := Aq.mk H
    clear H
    obtain ⟨Ao57, co57, eo57⟩ := Kd.R_slice HO_11.out
    subst eo57
    obtain ⟨Ao58, co58, eo58⟩ := Kd.R_slice HO_7.out
    subst eo58
    go_wp2_with (first | (go_at_call 11; (with_reducible refine (laws_eqInt64S.calls kj15 _ _ t360 _ _ t348 true _ ?s1 ?s2 ?s3 ?s4 A55.out).mono ?_); (case s1 => exact tC ((Kd.R_reads' HO_11.out).2.2)); (case s2 => exact (Kd.R_reads' HO_11.out).2.1); (case s3 => exact tC ((Kd.R_reads' HO_7.out).2.2)); (case s4 => exact (Kd.R_reads' HO_7.out).2.1); rintro e w' ⟨rfl, ⟨nd, rfl⟩⟩))
    go_meet
    case rel => exact ⟨_, ((t363 != t351)), tS, H', ⟨by have := HJ15.out; first | omega | exact Nat.le_refl _⟩, ⟨by (with_reducible repeat (first | apply Kd.RqA | apply Kd.RqN | apply Kd.RqD)); exact Kd.R_mono HO_7.out (fun _ hk => hk.2.2.1)⟩, ⟨by (with_reducible repeat (first | apply Kd.RqA | apply Kd.RqN | apply Kd.RqD)); exact Kd.R_mono HO_11.out (fun _ hk => hk.1)⟩, ⟨tG BK339.out⟩, ⟨tB⟩⟩
   replace c56 := Bool.eq_false_iff.mpr c56
   subst c56
   rw [if_neg (show ¬ (false = true) by decide)] at H
   replace H' := Aq.mk H
   clear H
   obtain ⟨Ao59, co59, eo59⟩ := Kd.R_slice HO_11.out
   subst eo59
   obtain ⟨Ao60, co60, eo60⟩ := Kd.R_slice HO_7.out
   subst eo60
   go_wp2_with (first | (go_at_call 11; (with_reducible refine (laws_eqInt64S.calls kj15 _ _ t360 _ _ t348 false _ ?s1 ?s2 ?s3 ?s4 A55.out).mono ?_); (case s1 => exact tC ((Kd.R_reads' HO_11.out).2.2)); (case s2 => exact (Kd.R_reads' HO_11.out).2.1); (case s3 => exact tC ((Kd.R_reads' HO_7.out).2.2)); (case s4 => exact (Kd.R_reads' HO_7.out).2.1); rintro e w' ⟨rfl, ⟨nd, rfl⟩⟩))
   go_meet
   case rel => exact ⟨_, (true), tS, H', ⟨by have := HJ15.out; first | omega | exact Nat.le_refl _⟩, ⟨by (with_reducible repeat (first | apply Kd.RqA | apply Kd.RqN | apply Kd.RqD)); exact Kd.R_mono HO_7.out (fun _ hk => hk.2.2.1)⟩, ⟨by (with_reducible repeat (first | apply Kd.RqA | apply Kd.RqN | apply Kd.RqD)); exact Kd.R_mono HO_11.out (fun _ hk => hk.1)⟩, ⟨tG BK339.out⟩, ⟨tB⟩⟩
  clear HC47
  try clear c1
  try clear c2
  try clear c4
  try clear c4b0
  try clear c4b1
  try clear c6
  try clear c6b0
  try clear c6b1
  try clear c33
  try clear c38
  try clear c41
  try clear c44
  try clear c54
  try clear c54b0
  try clear c56
  try clear hcz18_0
  try clear hcz18_1
  try clear hcz27_0
  try clear hcz27_1
  try clear hfz18_0
  try clear hfz18_1
  try clear hfz27_0
  try clear hfz27_1
  obtain ⟨kq, x83_46, rfl, HA, HJ46, HO_7, HO_11, BK339, HB⟩ := hcut
  cases kq with
  | zero => exact absurd HA.out (by simp [laws_FnExactComposeLinear.j1])
  | succ kj46 =>
   have H := HA.out
   clear HA
   simp only [laws_FnExactComposeLinear.j1] at H
   by_cases c61 : x83_46 = true
   ·subst c61
    rw [if_pos rfl] at H
    obtain rfl := Option.some.inj H
    go_wp2
    go_ret
    exact ⟨tE, tB⟩
   replace c61 := Bool.eq_false_iff.mpr c61
   subst c61
   rw [if_neg (show ¬ (false = true) by decide)] at H
   obtain ⟨⟨t378, t379⟩, A62, H⟩ := qBd H
   (try dsimp only at H)
   obtain ⟨t380, A63, H⟩ := qBd H
   by_cases c64 : t380 < 0
   ·rw [if_pos c64] at H
    have c64b0 := decide_eq_true c64
    clear c64
    obtain rfl := Option.some.inj H
    obtain ⟨Ao65, co65, eo65⟩ := Kd.R_slice HO_11.out
    subst eo65
    go_wp2_with (first | ((with_reducible refine gQc (f := 12) rfl ?_); refine goesL_ (some 86) rfl rfl Try.func12 (by kernel_rfl) rfl #[.slice Ao65 t360.length co65, .int .i64 1] rfl tL ?_; (with_reducible refine (laws_markInt64S.calls kj46 (fun k_ => some k_ = (.slice Ao65 t360.length co65 : Value).ownBlock) (.slice Ao65 t360.length co65) t360 1 t378 t379 w _ ?s1 ?s2 A62.out).mono ?_); (case s1 => exact tB); (case s2 => exact Kd.R_tight rfl HO_11.out); rintro e w66 ⟨rfl, hy0, hb, hkp⟩; refine ⟨_, rfl, ?_⟩; refine qM4 (Kd.R_mono (ok' := fun k_ => some k_ ≠ (.slice Ao65 t360.length co65 : Value).ownBlock) (Kd.R_keptB (HO_7.out) hkp (fun k_ hk_ hs_ => (hk_) hs_)) (fun k_ hk_ => hk_.1)) (Kd.R_reok rfl hy0 (fun k_ e_ => HO_11.out.1 k_ e_)) (blk_kept (tG BK339.out) hkp (fun hs_ => (fun e_ => (Kd.R_ne HO_11.out BK339.out (by decide)) e_) hs_)) hb ?_; clear HO_7 HO_11 BK339 HB; intro HO_7 HO_11 BK339 HB; (try clear hb); (try clear hkp); (try clear hy0)) | ((with_reducible refine gQc (f := 13) rfl ?_); refine goesL_ (some 89) rfl rfl Try.func13 (by kernel_rfl) rfl #[.slice Ao65 t379.length co65, .int .i64 1] rfl (by (try simp only [List.map_toArray, List.map_cons, List.map_nil]); first | done | (rw [show t379.length = t360.length from (Kd.R_reads' HO_11.out).1.symm] <;> rfl) | rfl | (simp only [List.length_drop, List.length_take]; rfl)) ?_; (with_reducible refine (laws_heldInt64S.calls kj46 _ _ t379 1 t380 _ ?s1 ?s2 A63.out).mono ?_); (case s1 => exact tC ((Kd.R_reads' HO_11.out).2.2)); (case s2 => rw [show t379.length = t360.length from (Kd.R_reads' HO_11.out).1.symm]; exact (Kd.R_reads' HO_11.out).2.1); rintro e w' ⟨rfl, ⟨nd, rfl⟩⟩; refine ⟨_, rfl, ?_⟩))
    go_ret
    exact ⟨tE, tB⟩
   rw [if_neg c64] at H
   have c64b0 := decide_eq_false c64
   clear c64
   by_cases c67 : t380 = t378
   rotate_left
   ·rw [if_neg c67] at H
    have c67b0 := beq_eq_false_iff_ne.mpr c67
    have c67b1 := bne_iff_ne.mpr c67
    obtain rfl := Option.some.inj H
    obtain ⟨Ao92, co92, eo92⟩ := Kd.R_slice HO_11.out
    subst eo92
    go_wp2_with (first | ((with_reducible refine gQc (f := 12) rfl ?_); refine goesL_ (some 86) rfl rfl Try.func12 (by kernel_rfl) rfl #[.slice Ao92 t360.length co92, .int .i64 1] rfl tL ?_; (with_reducible refine (laws_markInt64S.calls kj46 (fun k_ => some k_ = (.slice Ao92 t360.length co92 : Value).ownBlock) (.slice Ao92 t360.length co92) t360 1 t378 t379 w _ ?s1 ?s2 A62.out).mono ?_); (case s1 => exact tB); (case s2 => exact Kd.R_tight rfl HO_11.out); rintro e w93 ⟨rfl, hy0, hb, hkp⟩; refine ⟨_, rfl, ?_⟩; refine qM4 (Kd.R_mono (ok' := fun k_ => some k_ ≠ (.slice Ao92 t360.length co92 : Value).ownBlock) (Kd.R_keptB (HO_7.out) hkp (fun k_ hk_ hs_ => (hk_) hs_)) (fun k_ hk_ => hk_.1)) (Kd.R_reok rfl hy0 (fun k_ e_ => HO_11.out.1 k_ e_)) (blk_kept (tG BK339.out) hkp (fun hs_ => (fun e_ => (Kd.R_ne HO_11.out BK339.out (by decide)) e_) hs_)) hb ?_; clear HO_7 HO_11 BK339 HB; intro HO_7 HO_11 BK339 HB; (try clear hb); (try clear hkp); (try clear hy0)) | ((with_reducible refine gQc (f := 13) rfl ?_); refine goesL_ (some 89) rfl rfl Try.func13 (by kernel_rfl) rfl #[.slice Ao92 t379.length co92, .int .i64 1] rfl (by (try simp only [List.map_toArray, List.map_cons, List.map_nil]); first | done | (rw [show t379.length = t360.length from (Kd.R_reads' HO_11.out).1.symm] <;> rfl) | rfl | (simp only [List.length_drop, List.length_take]; rfl)) ?_; (with_reducible refine (laws_heldInt64S.calls kj46 _ _ t379 1 t380 _ ?s1 ?s2 A63.out).mono ?_); (case s1 => exact tC ((Kd.R_reads' HO_11.out).2.2)); (case s2 => rw [show t379.length = t360.length from (Kd.R_reads' HO_11.out).1.symm]; exact (Kd.R_reads' HO_11.out).2.1); rintro e w' ⟨rfl, ⟨nd, rfl⟩⟩; refine ⟨_, rfl, ?_⟩))
    go_ret
    exact ⟨tE, tB⟩
   rw [if_pos c67] at H
   have c67b0 := beq_iff_eq.mpr c67
   have c67b1 := bne_eq_false_iff_eq.mpr c67
   clear c67
   obtain ⟨⟨t381, t382⟩, A68, H⟩ := qBd H
   (try dsimp only at H)
   obtain ⟨t383, A69, H⟩ := qBd H
   obtain ⟨t386, A70, H⟩ := qBd H
   obtain ⟨⟨t389, t392⟩, A71, H⟩ := qBd H
   (try dsimp only at H)
   have HC72 := Aq.mk H
   clear H
   obtain ⟨Ao73, co73, eo73⟩ := Kd.R_slice HO_11.out
   subst eo73
   go_upto_region 29 with (first | ((with_reducible refine gQc (f := 12) rfl ?_); refine goesL_ (some 86) rfl rfl Try.func12 (by kernel_rfl) rfl #[.slice Ao73 t360.length co73, .int .i64 1] rfl tL ?_; (with_reducible refine (laws_markInt64S.calls kj46 (fun k_ => some k_ = (.slice Ao73 t360.length co73 : Value).ownBlock) (.slice Ao73 t360.length co73) t360 1 t378 t379 w _ ?s1 ?s2 A62.out).mono ?_); (case s1 => exact tB); (case s2 => exact Kd.R_tight rfl HO_11.out); rintro e w74 ⟨rfl, hy0, hb, hkp⟩; refine ⟨_, rfl, ?_⟩; refine qM4 (Kd.R_mono (ok' := fun k_ => some k_ ≠ (.slice Ao73 t360.length co73 : Value).ownBlock) (Kd.R_keptB (HO_7.out) hkp (fun k_ hk_ hs_ => (hk_) hs_)) (fun k_ hk_ => hk_.1)) (Kd.R_reok rfl hy0 (fun k_ e_ => HO_11.out.1 k_ e_)) (blk_kept (tG BK339.out) hkp (fun hs_ => (fun e_ => (Kd.R_ne HO_11.out BK339.out (by decide)) e_) hs_)) hb ?_; clear HO_7 HO_11 BK339 HB; intro HO_7 HO_11 BK339 HB; (try clear hb); (try clear hkp); (try clear hy0)) | ((with_reducible refine gQc (f := 13) rfl ?_); refine goesL_ (some 89) rfl rfl Try.func13 (by kernel_rfl) rfl #[.slice Ao73 t379.length co73, .int .i64 1] rfl (by (try simp only [List.map_toArray, List.map_cons, List.map_nil]); first | done | (rw [show t379.length = t360.length from (Kd.R_reads' HO_11.out).1.symm] <;> rfl) | rfl | (simp only [List.length_drop, List.length_take]; rfl)) ?_; (with_reducible refine (laws_heldInt64S.calls kj46 _ _ t379 1 t380 _ ?s1 ?s2 A63.out).mono ?_); (case s1 => exact tC ((Kd.R_reads' HO_11.out).2.2)); (case s2 => rw [show t379.length = t360.length from (Kd.R_reads' HO_11.out).1.symm]; exact (Kd.R_reads' HO_11.out).2.1); rintro e w' ⟨rfl, ⟨nd, rfl⟩⟩; refine ⟨_, rfl, ?_⟩; have hcz75_0 : w74.cell? ⟨gb339, 0, none⟩ = some (.int .i64 a0_0) := (kQC BK339.out 0).trans rfl; have hcz75_1 : w74.cell? ⟨gb339, 1, none⟩ = some (.int .i64 a0_1) := (kQC BK339.out 1).trans rfl; have hfz75_0 := kQF BK339.out 0; have hfz75_1 := kQF BK339.out 1) | ((with_reducible refine gQc (f := 8) rfl ?_); refine goesL_ (some 97) rfl rfl Try.func8 (by kernel_rfl) rfl #[.agg #[.int .i64 a0_0, .int .i64 a0_1]] rfl tL ?_; (with_reducible refine (laws_toField.calls a0_0 a0_1 t381 t382 _ A68.out).mono ?_); rintro e w76 ⟨rfl, hb⟩; refine ⟨_, rfl, ?_⟩; refine qM4 (Kd.R_below (tR HO_7.out) hb) (Kd.R_below (tR HO_11.out) hb) (tQ BK339.out hb) (bQT tB hb) ?_; clear HO_7 HO_11 BK339 HB; intro HO_7 HO_11 BK339 HB; (try clear hb); (try clear hb2); (try clear hk); (try clear hi)) | ((with_reducible refine gQc (f := 9) rfl ?_); refine goesL_ (some 99) rfl rfl Try.func9 (by kernel_rfl) rfl #[.slice A1 l1.length c1] rfl tL ?_; (with_reducible refine (laws_toInt64S.calls kj46 _ _ l1 t383 _ ?s1 ?s2 A69.out).mono ?_); (case s1 => exact tC ((Kd.C_below HR1.out HB.out))); (case s2 => exact HC1.out); rintro e w77 ⟨v384, rfl, ho0, hb⟩; refine ⟨_, rfl, ?_⟩; refine qM5 (Kd.R_elder' (tR HO_7.out) (Kd.R_base ho0) hb) (Kd.R_elder' (tR HO_11.out) (Kd.R_base ho0) hb) (Kd.R_lower (Kd.R_new' (Kd.R_new' ho0 (Kd.R_lt (tR HO_7.out))) (Kd.R_lt (tR HO_11.out))) (bQZ tB)) (tQ BK339.out hb) (bQT tB hb) ?_; clear HO_7 HO_11 BK339 HB; intro HO_7 HO_11 HO385 BK339 HB; (try clear hb); (try clear hb2); (try clear hk); (try clear hi); (try clear ho0)) | ((with_reducible refine gQc (f := 9) rfl ?_); refine goesL_ (some 101) rfl rfl Try.func9 (by kernel_rfl) rfl #[.slice A2 l2.length c2] rfl tL ?_; (with_reducible refine (laws_toInt64S.calls kj46 _ _ l2 t386 _ ?s1 ?s2 A70.out).mono ?_); (case s1 => exact tC ((Kd.C_below HR2.out HB.out))); (case s2 => exact HC2.out); rintro e w78 ⟨v387, rfl, ho0, hb⟩; refine ⟨_, rfl, ?_⟩; refine qM6 (Kd.R_elder' (tR HO_7.out) (Kd.R_base ho0) hb) (Kd.R_elder' (tR HO_11.out) (Kd.R_base ho0) hb) (Kd.R_elder' (tR HO385.out) (Kd.R_base ho0) hb) (Kd.R_lower (Kd.R_new' (Kd.R_new' (Kd.R_new' ho0 (Kd.R_lt (tR HO_7.out))) (Kd.R_lt (tR HO_11.out))) (Kd.R_lt (tR HO385.out))) (bQZ tB)) (tQ BK339.out hb) (bQT tB hb) ?_; clear HO_7 HO_11 HO385 BK339 HB; intro HO_7 HO_11 HO385 HO388 BK339 HB; (try clear hb); (try clear hb2); (try clear hk); (try clear hi); (try clear ho0); obtain ⟨Ao79, co79, eo79⟩ := Kd.R_slice HO385.out; subst eo79; obtain ⟨Ao80, co80, eo80⟩ := Kd.R_slice HO388.out; subst eo80) | ((with_reducible refine gQc (f := 15) rfl ?_); refine goesL_ (some 102) rfl rfl Try.func15 (by kernel_rfl) rfl #[.agg #[.int .i64 t381, .int .i64 t382], .slice Ao79 t383.length co79, .slice Ao80 t386.length co80] rfl tL ?_; (with_reducible refine (impl_ComposeLinear.calls kj46 t381 t382 (fun k_ => some k_ = (.slice Ao79 t383.length co79 : Value).ownBlock) _ _ t383 (fun k_ => some k_ = (.slice Ao80 t386.length co80 : Value).ownBlock) _ _ t386 t389 t392 _ ?s1 ?s2 A71.out).mono ?_); (case s1 => exact Kd.R_V (Kd.R_tight rfl (Kd.R_types (HO385.out) BK339.out (by decide)))); (case s2 => exact Kd.R_V (Kd.R_tight rfl (Kd.R_types (HO388.out) BK339.out (by decide)))); rintro e w81 ⟨v390, rfl, ho0, hb⟩; refine ⟨_, rfl, ?_⟩; refine qM7 (Kd.R_elder' (tR HO_7.out) (Kd.R_base ho0) hb) (Kd.R_elder' (tR HO_11.out) (Kd.R_base ho0) hb) (Kd.R_elder' (tR HO385.out) (Kd.R_base ho0) hb) (Kd.R_elder' (tR HO388.out) (Kd.R_base ho0) hb) (Kd.R_lower (Kd.R_new' (Kd.R_new' (Kd.R_new' (Kd.R_new' (Kd.R_mono (ok' := fun k_ => True) ho0 (fun _ hk_ => trivial)) (Kd.R_lt (tR HO_7.out))) (Kd.R_lt (tR HO_11.out))) (Kd.R_lt (tR HO385.out))) (Kd.R_lt (tR HO388.out))) (bQZ tB)) (tQ BK339.out hb) (bQT tB hb) ?_; clear HO_7 HO_11 HO385 HO388 BK339 HB; intro HO_7 HO_11 HO385 HO388 HO391 BK339 HB; (try clear hb); (try clear hb2); (try clear hk); (try clear hi); (try clear ho0)))
   (try simp only [Act.put, qSa, qSb, qSc])
   go_cut [113] (fun v113 wc => ∃ (kq : Nat) (x113_71 : Bool), v113 = .bool x113_71 ∧ Aq (laws_FnExactComposeLinear.j2 kq t379 t378 x113_71 = some r) ∧ Aq (kq ≤ kj46) ∧ Aq (Kd.R (Kd.int .i64) 2 wc w.heap.size (fun _ => True) (.slice Ao73 t360.length co73) t379) ∧ Aq (wc.heap[gb339]? = some (.cells #[.int .i64 a0_0, .int .i64 a0_1] 23 (0, 0))) ∧ Aq (Below w.heap.size w wc))
   case first =>
    have H := HC72.out
    clear HC72
    obtain ⟨t393, A82, H⟩ := qBd H
    by_cases c83 : t393 = true
    ·subst c83
     rw [if_pos rfl] at H
     replace H' := Aq.mk H
     clear H
     obtain ⟨Ao84, co84, eo84⟩ := Kd.R_slice HO391.out
     subst eo84
     obtain ⟨Ao85, co85, eo85⟩ := Kd.R_slice HO_7.out
     subst eo85
     go_wp2_with (first | ((with_reducible refine gQc (f := 11) rfl ?_); refine goesL_ (some 107) rfl rfl Try.func11 (by kernel_rfl) rfl #[.slice Ao84 t389.length co84, .slice Ao85 t348.length co85] rfl tL ?_; (with_reducible refine (laws_eqInt64S.calls kj46 _ _ t389 _ _ t348 true _ ?s1 ?s2 ?s3 ?s4 A82.out).mono ?_); (case s1 => exact tC ((Kd.R_reads' HO391.out).2.2)); (case s2 => exact (Kd.R_reads' HO391.out).2.1); (case s3 => exact tC ((Kd.R_reads' HO_7.out).2.2)); (case s4 => exact (Kd.R_reads' HO_7.out).2.1); rintro e w' ⟨rfl, ⟨nd, rfl⟩⟩; refine ⟨_, rfl, ?_⟩))
     go_meet
     case rel => exact ⟨_, ((t392 != t351)), tS, H', ⟨by have := HJ15.out; have := HJ46.out; first | omega | exact Nat.le_refl _⟩, ⟨by (with_reducible repeat (first | apply Kd.RqA | apply Kd.RqN | apply Kd.RqD)); exact Kd.R_mono HO_11.out (fun _ hk => trivial)⟩, ⟨tG BK339.out⟩, ⟨tB⟩⟩
    replace c83 := Bool.eq_false_iff.mpr c83
    subst c83
    rw [if_neg (show ¬ (false = true) by decide)] at H
    replace H' := Aq.mk H
    clear H
    obtain ⟨Ao86, co86, eo86⟩ := Kd.R_slice HO391.out
    subst eo86
    obtain ⟨Ao87, co87, eo87⟩ := Kd.R_slice HO_7.out
    subst eo87
    go_wp2_with (first | ((with_reducible refine gQc (f := 11) rfl ?_); refine goesL_ (some 107) rfl rfl Try.func11 (by kernel_rfl) rfl #[.slice Ao86 t389.length co86, .slice Ao87 t348.length co87] rfl tL ?_; (with_reducible refine (laws_eqInt64S.calls kj46 _ _ t389 _ _ t348 false _ ?s1 ?s2 ?s3 ?s4 A82.out).mono ?_); (case s1 => exact tC ((Kd.R_reads' HO391.out).2.2)); (case s2 => exact (Kd.R_reads' HO391.out).2.1); (case s3 => exact tC ((Kd.R_reads' HO_7.out).2.2)); (case s4 => exact (Kd.R_reads' HO_7.out).2.1); rintro e w' ⟨rfl, ⟨nd, rfl⟩⟩; refine ⟨_, rfl, ?_⟩))
    go_meet
    case rel => exact ⟨_, (true), tS, H', ⟨by have := HJ15.out; have := HJ46.out; first | omega | exact Nat.le_refl _⟩, ⟨by (with_reducible repeat (first | apply Kd.RqA | apply Kd.RqN | apply Kd.RqD)); exact Kd.R_mono HO_11.out (fun _ hk => trivial)⟩, ⟨tG BK339.out⟩, ⟨tB⟩⟩
   clear HC72
   try clear c1
   try clear c2
   try clear c4
   try clear c4b0
   try clear c4b1
   try clear c6
   try clear c6b0
   try clear c6b1
   try clear c33
   try clear c38
   try clear c41
   try clear c44
   try clear c54
   try clear c54b0
   try clear c56
   try clear c61
   try clear c64
   try clear c64b0
   try clear c67
   try clear c67b0
   try clear c67b1
   try clear c83
   try clear hcz18_0
   try clear hcz18_1
   try clear hcz27_0
   try clear hcz27_1
   try clear hcz75_0
   try clear hcz75_1
   try clear hfz18_0
   try clear hfz18_1
   try clear hfz27_0
   try clear hfz27_1
   try clear hfz75_0
   try clear hfz75_1
   obtain ⟨kq, x113_71, rfl, HA, HJ71, HO_11, BK339, HB⟩ := hcut
   have hl11_71 := (Kd.R_reads' HO_11.out).1
   rw [hl11_71] at HO_11
   (try simp only [hl11_71])
   (try simp only [hl11_71] at BK339)
   cases kq with
   | zero => exact absurd HA.out (by simp [laws_FnExactComposeLinear.j2])
   | succ kj71 =>
    have H := HA.out
    clear HA
    simp only [laws_FnExactComposeLinear.j2] at H
    by_cases c88 : x113_71 = true
    ·subst c88
     rw [if_pos rfl] at H
     obtain rfl := Option.some.inj H
     go_wp2
     go_ret
     exact ⟨tE, tB⟩
    replace c88 := Bool.eq_false_iff.mpr c88
    subst c88
    rw [if_neg (show ¬ (false = true) by decide)] at H
    obtain ⟨t394, A89, H⟩ := qBd H
    by_cases c90 : t394 < 0
    ·rw [if_pos c90] at H
     have c90b0 := decide_eq_true c90
     clear c90
     (try (have c90b0z := c90b0; simp only [hl11_71] at c90b0z))
     obtain rfl := Option.some.inj H
     go_wp2_with (first | ((with_reducible refine gQc (f := 13) rfl ?_); refine goesL_ (some 116) rfl rfl Try.func13 (by kernel_rfl) rfl #[.slice Ao73 t379.length co73, .int .i64 1] rfl tL ?_; (with_reducible refine (laws_heldInt64S.calls kj71 _ _ t379 1 t394 _ ?s1 ?s2 A89.out).mono ?_); (case s1 => exact tC ((Kd.R_reads' HO_11.out).2.2)); (case s2 => exact (Kd.R_reads' HO_11.out).2.1); rintro e w' ⟨rfl, ⟨nd, rfl⟩⟩; refine ⟨_, rfl, ?_⟩))
     go_ret
     exact ⟨tE, tB⟩
    rw [if_neg c90] at H
    have c90b0 := decide_eq_false c90
    clear c90
    (try (have c90b0z := c90b0; simp only [hl11_71] at c90b0z))
    by_cases c91 : t394 = t378
    ·rw [if_pos c91] at H
     have c91b0 := beq_iff_eq.mpr c91
     have c91b1 := bne_eq_false_iff_eq.mpr c91
     clear c91
     (try (have c91b0z := c91b0; simp only [hl11_71] at c91b0z))
     (try (have c91b1z := c91b1; simp only [hl11_71] at c91b1z))
     obtain rfl := Option.some.inj H
     go_wp2_with (first | ((with_reducible refine gQc (f := 13) rfl ?_); refine goesL_ (some 116) rfl rfl Try.func13 (by kernel_rfl) rfl #[.slice Ao73 t379.length co73, .int .i64 1] rfl tL ?_; (with_reducible refine (laws_heldInt64S.calls kj71 _ _ t379 1 t394 _ ?s1 ?s2 A89.out).mono ?_); (case s1 => exact tC ((Kd.R_reads' HO_11.out).2.2)); (case s2 => exact (Kd.R_reads' HO_11.out).2.1); rintro e w' ⟨rfl, ⟨nd, rfl⟩⟩; refine ⟨_, rfl, ?_⟩))
     go_ret
     exact ⟨tE, tB⟩
    rw [if_neg c91] at H
    have c91b0 := beq_eq_false_iff_ne.mpr c91
    have c91b1 := bne_iff_ne.mpr c91
    (try (have c91b0z := c91b0; simp only [hl11_71] at c91b0z))
    (try (have c91b1z := c91b1; simp only [hl11_71] at c91b1z))
    obtain rfl := Option.some.inj H
    go_wp2_with (first | ((with_reducible refine gQc (f := 13) rfl ?_); refine goesL_ (some 116) rfl rfl Try.func13 (by kernel_rfl) rfl #[.slice Ao73 t379.length co73, .int .i64 1] rfl tL ?_; (with_reducible refine (laws_heldInt64S.calls kj71 _ _ t379 1 t394 _ ?s1 ?s2 A89.out).mono ?_); (case s1 => exact tC ((Kd.R_reads' HO_11.out).2.2)); (case s2 => exact (Kd.R_reads' HO_11.out).2.1); rintro e w' ⟨rfl, ⟨nd, rfl⟩⟩; refine ⟨_, rfl, ?_⟩))
    go_ret
    exact ⟨tE, tB⟩
end Go.Proofs.Ytpigghpimgkilaa.P
