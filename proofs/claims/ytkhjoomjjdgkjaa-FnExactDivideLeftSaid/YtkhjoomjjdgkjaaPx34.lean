/- Functions of the program and what they tell, as the printing program wrote it. -/
import Derived.Test.YtkhjoomjjdgkjaaPx0
import Derived.Test.YtkhjoomjjdgkjaaPx11
import Derived.Test.YtkhjoomjjdgkjaaPx12
import Derived.Test.YtkhjoomjjdgkjaaPx17
import Derived.Test.YtkhjoomjjdgkjaaPx23
namespace Go.Proofs.Ytkhjoomjjdgkjaa.P
open Go.Shelf Go.RowKit Go.Proofs.YtkhjoomjjdgkjaaW.PrintWords Go.Proofs.YtkhjoomjjdgkjaaW.PrintLast Go.Proofs.YtkhjoomjjdgkjaaW.PrintMore
attribute [local go_sem] max2_int min2_int max_two min_two max_three min_three max_four min_four
set_option linter.unusedVariables false
set_option linter.unusedSimpArgs false
set_option maxHeartbeats 8000000
set_option maxRecDepth 100000
mutual
def laws_FnExactDivideLeft.j0 : Nat → List Int → List Int → List Int → List Int → Int → List Int → List Int → List Int → List Int → Int → Bool → Int → Int → Option (Bool)
  | 0, _, _, _, _, _, _, _, _, _, _, _, _, _ => none
  | k + 1, x1, x2, x7, x8, x9, x10, x11, x12, x13, x14, x65, x486000, x486001 => if x65 = true then (some false) else ((laws_toInt64S.f k x1).bind fun t518 => ((laws_eqInt64S.f k x10 t518).bind fun t521 => (if t521 = true then ((laws_toInt64S.f k x2).bind fun t522 => ((laws_eqInt64S.f k x11 t522).bind fun t525 => (if t525 = true then ((laws_markInt64S.f k x10 1).bind fun bt526 => ((laws_markInt64S.f k x11 bt526.1).bind fun bt528 => (if bt528.1 < 0 then (laws_FnExactDivideLeft.j1 k x1 x2 x7 x8 x9 x12 x13 true x486000 x486001) else ((laws_eqInt64S.f k x12 x7).bind fun t530 => (if t530 = true then ((laws_eqInt64S.f k x13 x8).bind fun t531 => (if t531 = true then (laws_FnExactDivideLeft.j1 k x1 x2 x7 x8 x9 x12 x13 (x14 != x9) x486000 x486001) else (laws_FnExactDivideLeft.j1 k x1 x2 x7 x8 x9 x12 x13 true x486000 x486001))) else (laws_FnExactDivideLeft.j1 k x1 x2 x7 x8 x9 x12 x13 true x486000 x486001)))))) else (some false)))) else (some false))))
def laws_FnExactDivideLeft.j1 : Nat → List Int → List Int → List Int → List Int → Int → List Int → List Int → Bool → Int → Int → Option (Bool)
  | 0, _, _, _, _, _, _, _, _, _, _ => none
  | k + 1, x1, x2, x7, x8, x9, x12, x13, x100, x486000, x486001 => if x100 = true then (some false) else ((laws_markInt64S.f k x12 1).bind fun bt532 => ((laws_markInt64S.f k x13 bt532.1).bind fun bt534 => ((laws_heldInt64S.f k bt532.2 1).bind fun t536 => (if t536 < 0 then (some false) else ((laws_heldInt64S.f k bt534.2 t536).bind fun t537 => (if t537 < 0 then (some false) else (if t537 = bt534.1 then ((laws_toField.f x486000 x486001).bind fun bt538 => ((laws_toInt64S.f k x1).bind fun t540 => ((laws_toInt64S.f k x2).bind fun t543 => ((impl_DivideLeft.f k bt538.1 bt538.2 t540 t543).bind fun bt546 => ((laws_eqInt64S.f k bt546.1 x7).bind fun t553 => (if t553 = true then ((laws_eqInt64S.f k bt546.2.1 x8).bind fun t554 => (if t554 = true then (laws_FnExactDivideLeft.j2 k bt532.2 bt534.2 bt534.1 (bt546.2.2 != x9)) else (laws_FnExactDivideLeft.j2 k bt532.2 bt534.2 bt534.1 true))) else (laws_FnExactDivideLeft.j2 k bt532.2 bt534.2 bt534.1 true))))))) else (some false))))))))
def laws_FnExactDivideLeft.j2 : Nat → List Int → List Int → Int → Bool → Option (Bool)
  | 0, _, _, _, _ => none
  | k + 1, x12, x13, x16, x145 => if x145 = true then (some false) else ((laws_heldInt64S.f k x12 1).bind fun t555 => (if t555 < 0 then (some false) else ((laws_heldInt64S.f k x13 t555).bind fun t556 => (if t556 < 0 then (some false) else (if t556 = x16 then (some true) else (some false))))))
end
def laws_FnExactDivideLeft.f (k : Nat) (a0_0 : Int) (a0_1 : Int) (l1 : List Int) (l2 : List Int) : Option (Bool) := if (l1.length : Int) > 1048576 then (some true) else (if (l2.length : Int) > 1048576 then (some true) else ((laws_toField.f a0_0 a0_1).bind fun bt486 => ((laws_toInt64S.f k l1).bind fun t488 => ((laws_toInt64S.f k l2).bind fun t491 => ((spec_DivideLeft.f k bt486.1 bt486.2 t488 t491).bind fun bt494 => ((laws_toInt64S.f k l1).bind fun t501 => ((laws_toInt64S.f k l2).bind fun t504 => ((laws_toField.f a0_0 a0_1).bind fun bt507 => ((impl_DivideLeft.f k bt507.1 bt507.2 t501 t504).bind fun bt509 => ((laws_eqInt64S.f k bt509.1 bt494.1).bind fun t516 => (if t516 = true then ((laws_eqInt64S.f k bt509.2.1 bt494.2.1).bind fun t517 => (if t517 = true then (laws_FnExactDivideLeft.j0 k l1 l2 bt494.1 bt494.2.1 bt494.2.2 t501 t504 bt509.1 bt509.2.1 bt509.2.2 (bt509.2.2 != bt494.2.2) a0_0 a0_1) else (laws_FnExactDivideLeft.j0 k l1 l2 bt494.1 bt494.2.1 bt494.2.2 t501 t504 bt509.1 bt509.2.1 bt509.2.2 true a0_0 a0_1))) else (laws_FnExactDivideLeft.j0 k l1 l2 bt494.1 bt494.2.1 bt494.2.2 t501 t504 bt509.1 bt509.2.1 bt509.2.2 true a0_0 a0_1))))))))))))
theorem laws_FnExactDivideLeft.mono_l : ∀ k, (∀ y0 y1 y2 y3 y4 y5 y6 y7 y8 y9 y10 y11 y12, LeO (laws_FnExactDivideLeft.j0 k y0 y1 y2 y3 y4 y5 y6 y7 y8 y9 y10 y11 y12) (laws_FnExactDivideLeft.j0 (k + 1) y0 y1 y2 y3 y4 y5 y6 y7 y8 y9 y10 y11 y12)) ∧ (∀ y0 y1 y2 y3 y4 y5 y6 y7 y8 y9, LeO (laws_FnExactDivideLeft.j1 k y0 y1 y2 y3 y4 y5 y6 y7 y8 y9) (laws_FnExactDivideLeft.j1 (k + 1) y0 y1 y2 y3 y4 y5 y6 y7 y8 y9)) ∧ (∀ y0 y1 y2 y3, LeO (laws_FnExactDivideLeft.j2 k y0 y1 y2 y3) (laws_FnExactDivideLeft.j2 (k + 1) y0 y1 y2 y3))
 | 0 => ⟨fun _ _ _ _ _ _ _ _ _ _ _ _ _ r h => by simp [laws_FnExactDivideLeft.j0] at h, fun _ _ _ _ _ _ _ _ _ _ r h => by simp [laws_FnExactDivideLeft.j1] at h, fun _ _ _ _ r h => by simp [laws_FnExactDivideLeft.j2] at h⟩
 | k + 1 => by
  obtain ⟨ih0, ih1, ih2⟩ := laws_FnExactDivideLeft.mono_l k
  refine ⟨?_, ?_, ?_⟩ <;> intros <;> first | unfold laws_FnExactDivideLeft.j0 | unfold laws_FnExactDivideLeft.j1 | unfold laws_FnExactDivideLeft.j2
  all_goals repeat' first
   | (with_reducible first | apply ih0 | apply ih1 | apply ih2 | apply impl_DivideLeft.mono | apply laws_eqInt64S.mono | apply laws_heldInt64S.mono | apply laws_markInt64S.mono | apply laws_toInt64S.mono | apply spec_DivideLeft.mono | exact LeO.refl _ | exact LeO.none _ | refine LeO.ite ?_ ?_ | refine LeO.bind ?_ (fun _ => ?_))
   | exact LeO.none _
   | refine LeO.ite ?_ ?_
   | refine LeO.bind ?_ (fun _ => ?_)
theorem laws_FnExactDivideLeft.mono : ∀ a0 a1 a2 a3 k, LeO (laws_FnExactDivideLeft.f k a0 a1 a2 a3) (laws_FnExactDivideLeft.f (k + 1) a0 a1 a2 a3) := by
 intro a0 a1 a2 a3 k
 obtain ⟨ih0, ih1, ih2⟩ := laws_FnExactDivideLeft.mono_l k
 unfold laws_FnExactDivideLeft.f
 repeat' first
  | (with_reducible first | apply ih0 | apply ih1 | apply ih2 | apply impl_DivideLeft.mono | apply laws_eqInt64S.mono | apply laws_heldInt64S.mono | apply laws_markInt64S.mono | apply laws_toInt64S.mono | apply spec_DivideLeft.mono | exact LeO.refl _ | exact LeO.none _ | refine LeO.ite ?_ ?_ | refine LeO.bind ?_ (fun _ => ?_))
  | exact LeO.none _
  | refine LeO.ite ?_ ?_
  | refine LeO.bind ?_ (fun _ => ?_)
theorem laws_FnExactDivideLeft.calls (k : Nat) (a0_0 : Int) (a0_1 : Int) (A1 : Option Addr) (c1 : Nat) (l1 : List Int) (A2 : Option Addr) (c2 : Nat) (l2 : List Int) (r : Bool) (w : World) (hr1 : Kd.C (Kd.int .i64) w A1 l1.length l1) (hc1 : l1.length ≤ c1) (hr2 : Kd.C (Kd.int .i64) w A2 l2.length l2) (hc2 : l2.length ≤ c2) (h : laws_FnExactDivideLeft.f k a0_0 a0_1 l1 l2 = some r) :
 Calls Try.prog 4 #[.agg #[.int .i64 a0_0, .int .i64 a0_1], .slice A1 l1.length c1, .slice A2 l2.length c2] w fun e w' => e = .returned (.bool r) ∧ Below w.heap.size w w' := by
 have hu23 := Try.underlying23
 have HR1 := Aq.mk hr1
 have HC1 := Aq.mk hc1
 clear hr1 hc1
 have HR2 := Aq.mk hr2
 have HC2 := Aq.mk hc2
 clear hr2 hc2
 have HB := Aq.mk (Below.refl w.heap.size w)
 have H : (if (l1.length : Int) > 1048576 then (some true) else (if (l2.length : Int) > 1048576 then (some true) else ((laws_toField.f a0_0 a0_1).bind fun bt486 => ((laws_toInt64S.f k l1).bind fun t488 => ((laws_toInt64S.f k l2).bind fun t491 => ((spec_DivideLeft.f k bt486.1 bt486.2 t488 t491).bind fun bt494 => ((laws_toInt64S.f k l1).bind fun t501 => ((laws_toInt64S.f k l2).bind fun t504 => ((laws_toField.f a0_0 a0_1).bind fun bt507 => ((impl_DivideLeft.f k bt507.1 bt507.2 t501 t504).bind fun bt509 => ((laws_eqInt64S.f k bt509.1 bt494.1).bind fun t516 => (if t516 = true then ((laws_eqInt64S.f k bt509.2.1 bt494.2.1).bind fun t517 => (if t517 = true then (laws_FnExactDivideLeft.j0 k l1 l2 bt494.1 bt494.2.1 bt494.2.2 t501 t504 bt509.1 bt509.2.1 bt509.2.2 (bt509.2.2 != bt494.2.2) a0_0 a0_1) else (laws_FnExactDivideLeft.j0 k l1 l2 bt494.1 bt494.2.1 bt494.2.2 t501 t504 bt509.1 bt509.2.1 bt509.2.2 true a0_0 a0_1))) else (laws_FnExactDivideLeft.j0 k l1 l2 bt494.1 bt494.2.1 bt494.2.2 t501 t504 bt509.1 bt509.2.1 bt509.2.2 true a0_0 a0_1))))))))))))) = some r := h
 clear h
 by_cases c4 : (l1.length : Int) > 1048576
 ·rw [if_pos c4] at H
  have c4b0 := decide_eq_true c4
  have c4b1 : decide (1048576 < l1.length) = true := decide_eq_true (by omega)
  clear c4
  obtain rfl := Option.some.inj H
  go_enter Try.func4, Try.ntmps4
  go_wp2_with (first | ((with_reducible refine gQd (N := 3) rfl ?_); refine xQe ?hg (N := 3) ?hd (cs := #[.int .i64 a0_0, .int .i64 a0_1]) (t := 23) ?hr ?_; (case hd => rfl); (case hg => rfl); (case hr => exact tH); intro gb485 hg w5 hbox hb; refine qM4 (bQT tB hb) hbox (tZ w hg) (tZ w hg) ?_; clear HB; intro HB BK485 GW485 GE485; clear hb hbox hg))
  go_ret
  exact ⟨tE, tB⟩
 rw [if_neg c4] at H
 have c4b0 := decide_eq_false c4
 have c4b1 : decide (1048576 < l1.length) = false := decide_eq_false (by omega)
 clear c4
 by_cases c6 : (l2.length : Int) > 1048576
 ·rw [if_pos c6] at H
  have c6b0 := decide_eq_true c6
  have c6b1 : decide (1048576 < l2.length) = true := decide_eq_true (by omega)
  clear c6
  obtain rfl := Option.some.inj H
  go_enter Try.func4, Try.ntmps4
  go_wp2_with (first | ((with_reducible refine gQd (N := 3) rfl ?_); refine xQe ?hg (N := 3) ?hd (cs := #[.int .i64 a0_0, .int .i64 a0_1]) (t := 23) ?hr ?_; (case hd => rfl); (case hg => rfl); (case hr => exact tH); intro gb485 hg w7 hbox hb; refine qM4 (bQT tB hb) hbox (tZ w hg) (tZ w hg) ?_; clear HB; intro HB BK485 GW485 GE485; clear hb hbox hg))
  go_ret
  exact ⟨tE, tB⟩
 rw [if_neg c6] at H
 have c6b0 := decide_eq_false c6
 have c6b1 : decide (1048576 < l2.length) = false := decide_eq_false (by omega)
 clear c6
 obtain ⟨⟨t486, t487⟩, A8, H⟩ := qBd H
 (try dsimp only at H)
 obtain ⟨t488, A9, H⟩ := qBd H
 obtain ⟨t491, A10, H⟩ := qBd H
 obtain ⟨⟨t494, t497, t500⟩, A11, H⟩ := qBd H
 (try dsimp only at H)
 obtain ⟨t501, A12, H⟩ := qBd H
 obtain ⟨t504, A13, H⟩ := qBd H
 obtain ⟨⟨t507, t508⟩, A14, H⟩ := qBd H
 (try dsimp only at H)
 obtain ⟨⟨t509, t512, t515⟩, A15, H⟩ := qBd H
 (try dsimp only at H)
 have HC16 := Aq.mk H
 clear H
 go_enter Try.func4, Try.ntmps4
 go_upto_region 9 with (first | ((with_reducible refine gQd (N := 3) rfl ?_); refine xQe ?hg (N := 3) ?hd (cs := #[.int .i64 a0_0, .int .i64 a0_1]) (t := 23) ?hr ?_; (case hd => rfl); (case hg => rfl); (case hr => exact tH); intro gb485 hg w17 hbox hb; refine qM4 (bQT tB hb) hbox (tZ w hg) (tZ w hg) ?_; clear HB; intro HB BK485 GW485 GE485; clear hb hbox hg; have hcz18_0 : w17.cell? ⟨gb485, 0, none⟩ = some (.int .i64 a0_0) := (kQC BK485.out 0).trans rfl; have hcz18_1 : w17.cell? ⟨gb485, 1, none⟩ = some (.int .i64 a0_1) := (kQC BK485.out 1).trans rfl; have hfz18_0 := kQF BK485.out 0; have hfz18_1 := kQF BK485.out 1) | ((with_reducible refine gQc (f := 9) rfl ?_); refine goesL_ (some 29) rfl rfl Try.func9 (by kernel_rfl) rfl #[.agg #[.int .i64 a0_0, .int .i64 a0_1]] rfl tL ?_; (with_reducible refine (laws_toField.calls a0_0 a0_1 t486 t487 _ A8.out).mono ?_); rintro e w19 ⟨rfl, hb⟩; refine ⟨_, rfl, ?_⟩; refine qM2 (tQ BK485.out hb) (bQT tB hb) ?_; clear BK485 HB; intro BK485 HB; (try clear hb); (try clear hb2); (try clear hk); (try clear hi)) | ((with_reducible refine gQc (f := 10) rfl ?_); refine goesL_ (some 31) rfl rfl Try.func10 (by kernel_rfl) rfl #[.slice A1 l1.length c1] rfl tL ?_; (with_reducible refine (laws_toInt64S.calls k _ _ l1 t488 _ ?s1 ?s2 A9.out).mono ?_); (case s1 => exact tC ((Kd.C_below HR1.out HB.out))); (case s2 => exact HC1.out); rintro e w20 ⟨v489, rfl, ho0, hb⟩; refine ⟨_, rfl, ?_⟩; refine qM3 (Kd.R_lower ho0 (bQZ tB)) (tQ BK485.out hb) (bQT tB hb) ?_; clear BK485 HB; intro HO490 BK485 HB; (try clear hb); (try clear hb2); (try clear hk); (try clear hi); (try clear ho0)) | ((with_reducible refine gQc (f := 10) rfl ?_); refine goesL_ (some 33) rfl rfl Try.func10 (by kernel_rfl) rfl #[.slice A2 l2.length c2] rfl tL ?_; (with_reducible refine (laws_toInt64S.calls k _ _ l2 t491 _ ?s1 ?s2 A10.out).mono ?_); (case s1 => exact tC ((Kd.C_below HR2.out HB.out))); (case s2 => exact HC2.out); rintro e w21 ⟨v492, rfl, ho0, hb⟩; refine ⟨_, rfl, ?_⟩; refine qM4 (Kd.R_elder' (tR HO490.out) (Kd.R_base ho0) hb) (Kd.R_lower (Kd.R_new' ho0 (Kd.R_lt (tR HO490.out))) (bQZ tB)) (tQ BK485.out hb) (bQT tB hb) ?_; clear HO490 BK485 HB; intro HO490 HO493 BK485 HB; (try clear hb); (try clear hb2); (try clear hk); (try clear hi); (try clear ho0); obtain ⟨Ao22, co22, eo22⟩ := Kd.R_slice HO490.out; subst eo22; obtain ⟨Ao23, co23, eo23⟩ := Kd.R_slice HO493.out; subst eo23) | ((with_reducible refine gQc (f := 15) rfl ?_); refine goesL_ (some 34) rfl rfl Try.func15 (by kernel_rfl) rfl #[.agg #[.int .i64 t486, .int .i64 t487], .slice Ao22 t488.length co22, .slice Ao23 t491.length co23] rfl tL ?_; (with_reducible refine (spec_DivideLeft.calls k t486 t487 _ _ t488 _ _ t491 t494 t497 t500 _ ?s1 ?s2 ?s3 ?s4 A11.out).mono ?_); (case s1 => exact tC ((Kd.R_reads' HO490.out).2.2)); (case s2 => exact (Kd.R_reads' HO490.out).2.1); (case s3 => exact tC ((Kd.R_reads' HO493.out).2.2)); (case s4 => exact (Kd.R_reads' HO493.out).2.1); rintro e w24 ⟨v495, v498, rfl, ho0, ho1, hb⟩; refine ⟨_, rfl, ?_⟩; refine qM6 (Kd.R_mono (Kd.R_told (Kd.R_told (Kd.R_old (tR HO490.out) hb) (Kd.R_base ho0)) (Kd.R_base ho1)) (fun _ h_ => h_.1)) (Kd.R_mono (Kd.R_told (Kd.R_told (Kd.R_old (tR HO493.out) hb) (Kd.R_base ho0)) (Kd.R_base ho1)) (fun _ h_ => h_.1)) (Kd.R_lower (Kd.R_new' (Kd.R_new' ho0 (Kd.R_lt (tR HO490.out))) (Kd.R_lt (tR HO493.out))) (bQZ tB)) (Kd.R_lower (Kd.R_new' (Kd.R_new' ho1 (Kd.R_lt (tR HO490.out))) (Kd.R_lt (tR HO493.out))) (bQZ tB)) (tQ BK485.out hb) (bQT tB hb) ?_; clear HO490 HO493 BK485 HB; intro HO490 HO493 HO496 HO499 BK485 HB; (try clear hb); (try clear hb2); (try clear hk); (try clear hi); (try clear ho0); (try clear ho1)) | ((with_reducible refine gQc (f := 10) rfl ?_); refine goesL_ (some 39) rfl rfl Try.func10 (by kernel_rfl) rfl #[.slice A1 l1.length c1] rfl tL ?_; (with_reducible refine (laws_toInt64S.calls k _ _ l1 t501 _ ?s1 ?s2 A12.out).mono ?_); (case s1 => exact tC ((Kd.C_below HR1.out HB.out))); (case s2 => exact HC1.out); rintro e w25 ⟨v502, rfl, ho0, hb⟩; refine ⟨_, rfl, ?_⟩; refine qM7 (Kd.R_elder' (tR HO490.out) (Kd.R_base ho0) hb) (Kd.R_elder' (tR HO493.out) (Kd.R_base ho0) hb) (Kd.R_elder' (tR HO496.out) (Kd.R_base ho0) hb) (Kd.R_elder' (tR HO499.out) (Kd.R_base ho0) hb) (Kd.R_lower (Kd.R_new' (Kd.R_new' (Kd.R_new' (Kd.R_new' ho0 (Kd.R_lt (tR HO490.out))) (Kd.R_lt (tR HO493.out))) (Kd.R_lt (tR HO496.out))) (Kd.R_lt (tR HO499.out))) (bQZ tB)) (tQ BK485.out hb) (bQT tB hb) ?_; clear HO490 HO493 HO496 HO499 BK485 HB; intro HO490 HO493 HO496 HO499 HO503 BK485 HB; (try clear hb); (try clear hb2); (try clear hk); (try clear hi); (try clear ho0)) | ((with_reducible refine gQc (f := 10) rfl ?_); refine goesL_ (some 41) rfl rfl Try.func10 (by kernel_rfl) rfl #[.slice A2 l2.length c2] rfl tL ?_; (with_reducible refine (laws_toInt64S.calls k _ _ l2 t504 _ ?s1 ?s2 A13.out).mono ?_); (case s1 => exact tC ((Kd.C_below HR2.out HB.out))); (case s2 => exact HC2.out); rintro e w26 ⟨v505, rfl, ho0, hb⟩; refine ⟨_, rfl, ?_⟩; refine qM8 (Kd.R_elder' (tR HO490.out) (Kd.R_base ho0) hb) (Kd.R_elder' (tR HO493.out) (Kd.R_base ho0) hb) (Kd.R_elder' (tR HO496.out) (Kd.R_base ho0) hb) (Kd.R_elder' (tR HO499.out) (Kd.R_base ho0) hb) (Kd.R_elder' (tR HO503.out) (Kd.R_base ho0) hb) (Kd.R_lower (Kd.R_new' (Kd.R_new' (Kd.R_new' (Kd.R_new' (Kd.R_new' ho0 (Kd.R_lt (tR HO490.out))) (Kd.R_lt (tR HO493.out))) (Kd.R_lt (tR HO496.out))) (Kd.R_lt (tR HO499.out))) (Kd.R_lt (tR HO503.out))) (bQZ tB)) (tQ BK485.out hb) (bQT tB hb) ?_; clear HO490 HO493 HO496 HO499 HO503 BK485 HB; intro HO490 HO493 HO496 HO499 HO503 HO506 BK485 HB; (try clear hb); (try clear hb2); (try clear hk); (try clear hi); (try clear ho0); have hcz27_0 : w26.cell? ⟨gb485, 0, none⟩ = some (.int .i64 a0_0) := (kQC BK485.out 0).trans rfl; have hcz27_1 : w26.cell? ⟨gb485, 1, none⟩ = some (.int .i64 a0_1) := (kQC BK485.out 1).trans rfl; have hfz27_0 := kQF BK485.out 0; have hfz27_1 := kQF BK485.out 1) | ((with_reducible refine gQc (f := 9) rfl ?_); refine goesL_ (some 44) rfl rfl Try.func9 (by kernel_rfl) rfl #[.agg #[.int .i64 a0_0, .int .i64 a0_1]] rfl tL ?_; (with_reducible refine (laws_toField.calls a0_0 a0_1 t507 t508 _ A14.out).mono ?_); rintro e w28 ⟨rfl, hb⟩; refine ⟨_, rfl, ?_⟩; refine qM8 (Kd.R_below (tR HO490.out) hb) (Kd.R_below (tR HO493.out) hb) (Kd.R_below (tR HO496.out) hb) (Kd.R_below (tR HO499.out) hb) (Kd.R_below (tR HO503.out) hb) (Kd.R_below (tR HO506.out) hb) (tQ BK485.out hb) (bQT tB hb) ?_; clear HO490 HO493 HO496 HO499 HO503 HO506 BK485 HB; intro HO490 HO493 HO496 HO499 HO503 HO506 BK485 HB; (try clear hb); (try clear hb2); (try clear hk); (try clear hi); obtain ⟨Ao29, co29, eo29⟩ := Kd.R_slice HO503.out; subst eo29; obtain ⟨Ao30, co30, eo30⟩ := Kd.R_slice HO506.out; subst eo30) | ((with_reducible refine gQc (f := 16) rfl ?_); refine goesL_ (some 47) rfl rfl Try.func16 (by kernel_rfl) rfl #[.agg #[.int .i64 t507, .int .i64 t508], .slice Ao29 t501.length co29, .slice Ao30 t504.length co30] rfl tL ?_; (with_reducible refine (impl_DivideLeft.calls k t507 t508 _ _ t501 _ _ t504 t509 t512 t515 _ ?s1 ?s2 ?s3 ?s4 A15.out).mono ?_); (case s1 => exact tC ((Kd.R_reads' HO503.out).2.2)); (case s2 => exact (Kd.R_reads' HO503.out).2.1); (case s3 => exact tC ((Kd.R_reads' HO506.out).2.2)); (case s4 => exact (Kd.R_reads' HO506.out).2.1); rintro e w31 ⟨v510, v513, rfl, ho0, ho1, hb⟩; refine ⟨_, rfl, ?_⟩; refine qM10 (Kd.R_mono (Kd.R_told (Kd.R_told (Kd.R_old (tR HO490.out) hb) (Kd.R_base ho0)) (Kd.R_base ho1)) (fun _ h_ => h_.1)) (Kd.R_mono (Kd.R_told (Kd.R_told (Kd.R_old (tR HO493.out) hb) (Kd.R_base ho0)) (Kd.R_base ho1)) (fun _ h_ => h_.1)) (Kd.R_mono (Kd.R_told (Kd.R_told (Kd.R_old (tR HO496.out) hb) (Kd.R_base ho0)) (Kd.R_base ho1)) (fun _ h_ => h_.1)) (Kd.R_mono (Kd.R_told (Kd.R_told (Kd.R_old (tR HO499.out) hb) (Kd.R_base ho0)) (Kd.R_base ho1)) (fun _ h_ => h_.1)) (Kd.R_mono (Kd.R_told (Kd.R_told (Kd.R_old (tR HO503.out) hb) (Kd.R_base ho0)) (Kd.R_base ho1)) (fun _ h_ => h_.1)) (Kd.R_mono (Kd.R_told (Kd.R_told (Kd.R_old (tR HO506.out) hb) (Kd.R_base ho0)) (Kd.R_base ho1)) (fun _ h_ => h_.1)) (Kd.R_lower (Kd.R_new' (Kd.R_new' (Kd.R_new' (Kd.R_new' (Kd.R_new' (Kd.R_new' ho0 (Kd.R_lt (tR HO490.out))) (Kd.R_lt (tR HO493.out))) (Kd.R_lt (tR HO496.out))) (Kd.R_lt (tR HO499.out))) (Kd.R_lt (tR HO503.out))) (Kd.R_lt (tR HO506.out))) (bQZ tB)) (Kd.R_lower (Kd.R_new' (Kd.R_new' (Kd.R_new' (Kd.R_new' (Kd.R_new' (Kd.R_new' ho1 (Kd.R_lt (tR HO490.out))) (Kd.R_lt (tR HO493.out))) (Kd.R_lt (tR HO496.out))) (Kd.R_lt (tR HO499.out))) (Kd.R_lt (tR HO503.out))) (Kd.R_lt (tR HO506.out))) (bQZ tB)) (tQ BK485.out hb) (bQT tB hb) ?_; clear HO490 HO493 HO496 HO499 HO503 HO506 BK485 HB; intro HO490 HO493 HO496 HO499 HO503 HO506 HO511 HO514 BK485 HB; (try clear hb); (try clear hb2); (try clear hk); (try clear hi); (try clear ho0); (try clear ho1)))
 (try simp only [Act.put, qSa, qSb, qSc])
 go_cut [65] (fun v65 wc => ∃ (kq : Nat) (x65_15 : Bool), v65 = .bool x65_15 ∧ Aq (laws_FnExactDivideLeft.j0 kq l1 l2 t494 t497 t500 t501 t504 t509 t512 t515 x65_15 a0_0 a0_1 = some r) ∧ Aq (kq ≤ k) ∧ Aq (Kd.R (Kd.int .i64) 2 wc w.heap.size (fun k_ => some k_ ≠ (v498 : Value).ownBlock ∧ some k_ ≠ ((.slice Ao29 t501.length co29) : Value).ownBlock ∧ some k_ ≠ ((.slice Ao30 t504.length co30) : Value).ownBlock ∧ some k_ ≠ (v510 : Value).ownBlock ∧ some k_ ≠ (v513 : Value).ownBlock) v495 t494) ∧ Aq (Kd.R (Kd.int .i64) 2 wc w.heap.size (fun k_ => some k_ ≠ (v495 : Value).ownBlock ∧ some k_ ≠ ((.slice Ao29 t501.length co29) : Value).ownBlock ∧ some k_ ≠ ((.slice Ao30 t504.length co30) : Value).ownBlock ∧ some k_ ≠ (v510 : Value).ownBlock ∧ some k_ ≠ (v513 : Value).ownBlock) v498 t497) ∧ Aq (Kd.R (Kd.int .i64) 2 wc w.heap.size (fun k_ => some k_ ≠ (v495 : Value).ownBlock ∧ some k_ ≠ (v498 : Value).ownBlock ∧ some k_ ≠ ((.slice Ao30 t504.length co30) : Value).ownBlock ∧ some k_ ≠ (v510 : Value).ownBlock ∧ some k_ ≠ (v513 : Value).ownBlock) (.slice Ao29 t501.length co29) t501) ∧ Aq (Kd.R (Kd.int .i64) 2 wc w.heap.size (fun k_ => some k_ ≠ (v495 : Value).ownBlock ∧ some k_ ≠ (v498 : Value).ownBlock ∧ some k_ ≠ ((.slice Ao29 t501.length co29) : Value).ownBlock ∧ some k_ ≠ (v510 : Value).ownBlock ∧ some k_ ≠ (v513 : Value).ownBlock) (.slice Ao30 t504.length co30) t504) ∧ Aq (Kd.R (Kd.int .i64) 2 wc w.heap.size (fun k_ => some k_ ≠ (v495 : Value).ownBlock ∧ some k_ ≠ (v498 : Value).ownBlock ∧ some k_ ≠ ((.slice Ao29 t501.length co29) : Value).ownBlock ∧ some k_ ≠ ((.slice Ao30 t504.length co30) : Value).ownBlock ∧ some k_ ≠ (v513 : Value).ownBlock) v510 t509) ∧ Aq (Kd.R (Kd.int .i64) 2 wc w.heap.size (fun k_ => some k_ ≠ (v495 : Value).ownBlock ∧ some k_ ≠ (v498 : Value).ownBlock ∧ some k_ ≠ ((.slice Ao29 t501.length co29) : Value).ownBlock ∧ some k_ ≠ ((.slice Ao30 t504.length co30) : Value).ownBlock ∧ some k_ ≠ (v510 : Value).ownBlock) v513 t512) ∧ Aq (wc.heap[gb485]? = some (.cells #[.int .i64 a0_0, .int .i64 a0_1] 23 (0, 0))) ∧ Aq (Below w.heap.size w wc))
 case first =>
  have H := HC16.out
  clear HC16
  obtain ⟨t516, A32, H⟩ := qBd H
  by_cases c33 : t516 = true
  rotate_left
  ·replace c33 := Bool.eq_false_iff.mpr c33
   subst c33
   rw [if_neg (show ¬ (false = true) by decide)] at H
   replace H' := Aq.mk H
   clear H
   obtain ⟨Ao44, co44, eo44⟩ := Kd.R_slice HO511.out
   subst eo44
   obtain ⟨Ao45, co45, eo45⟩ := Kd.R_slice HO496.out
   subst eo45
   go_wp2_with (first | ((with_reducible refine gQc (f := 12) rfl ?_); refine goesL_ (some 53) rfl rfl Try.func12 (by kernel_rfl) rfl #[.slice Ao44 t509.length co44, .slice Ao45 t494.length co45] rfl tL ?_; (with_reducible refine (laws_eqInt64S.calls k _ _ t509 _ _ t494 false _ ?s1 ?s2 ?s3 ?s4 A32.out).mono ?_); (case s1 => exact tC ((Kd.R_reads' HO511.out).2.2)); (case s2 => exact (Kd.R_reads' HO511.out).2.1); (case s3 => exact tC ((Kd.R_reads' HO496.out).2.2)); (case s4 => exact (Kd.R_reads' HO496.out).2.1); rintro e w' ⟨rfl, ⟨nd, rfl⟩⟩; refine ⟨_, rfl, ?_⟩))
   go_meet
   case rel => exact ⟨_, (true), tS, H', ⟨tO⟩, ⟨by (with_reducible repeat (first | apply Kd.RqA | apply Kd.RqN | apply Kd.RqD)); exact Kd.R_mono HO496.out (fun _ hk => ⟨hk.1.1.1.1.1.1, ⟨hk.1.1.1.2, ⟨hk.1.1.2, ⟨hk.1.2, hk.2⟩⟩⟩⟩)⟩, ⟨by (with_reducible repeat (first | apply Kd.RqA | apply Kd.RqN | apply Kd.RqD)); exact Kd.R_mono HO499.out (fun _ hk => ⟨hk.1.1.1.1.1.1, ⟨hk.1.1.1.2, ⟨hk.1.1.2, ⟨hk.1.2, hk.2⟩⟩⟩⟩)⟩, ⟨by (with_reducible repeat (first | apply Kd.RqA | apply Kd.RqN | apply Kd.RqD)); exact Kd.R_mono HO503.out (fun _ hk => ⟨hk.1.1.1.1.2, ⟨hk.1.1.1.2, ⟨hk.1.1.2, ⟨hk.1.2, hk.2⟩⟩⟩⟩)⟩, ⟨by (with_reducible repeat (first | apply Kd.RqA | apply Kd.RqN | apply Kd.RqD)); exact Kd.R_mono HO506.out (fun _ hk => ⟨hk.1.1.1.1.2, ⟨hk.1.1.1.2, ⟨hk.1.1.2, ⟨hk.1.2, hk.2⟩⟩⟩⟩)⟩, ⟨by (with_reducible repeat (first | apply Kd.RqA | apply Kd.RqN | apply Kd.RqD)); exact Kd.R_mono HO511.out (fun _ hk => ⟨hk.1.1.1.2, ⟨hk.1.1.2, ⟨hk.1.2, ⟨hk.2, hk.1.1.1.1.1.1⟩⟩⟩⟩)⟩, ⟨by (with_reducible repeat (first | apply Kd.RqA | apply Kd.RqN | apply Kd.RqD)); exact Kd.R_mono HO514.out (fun _ hk => ⟨hk.1.1.1.2, ⟨hk.1.1.2, ⟨hk.1.2, ⟨hk.2, hk.1.1.1.1.1.1⟩⟩⟩⟩)⟩, ⟨tG BK485.out⟩, ⟨tB⟩⟩
  subst c33
  rw [if_pos rfl] at H
  obtain ⟨t517, A34, H⟩ := qBd H
  by_cases c35 : t517 = true
  ·subst c35
   rw [if_pos rfl] at H
   replace H' := Aq.mk H
   clear H
   obtain ⟨Ao36, co36, eo36⟩ := Kd.R_slice HO511.out
   subst eo36
   obtain ⟨Ao37, co37, eo37⟩ := Kd.R_slice HO496.out
   subst eo37
   go_wp2_with (first | ((with_reducible refine gQc (f := 12) rfl ?_); refine goesL_ (some 53) rfl rfl Try.func12 (by kernel_rfl) rfl #[.slice Ao36 t509.length co36, .slice Ao37 t494.length co37] rfl tL ?_; (with_reducible refine (laws_eqInt64S.calls k _ _ t509 _ _ t494 true _ ?s1 ?s2 ?s3 ?s4 A32.out).mono ?_); (case s1 => exact tC ((Kd.R_reads' HO511.out).2.2)); (case s2 => exact (Kd.R_reads' HO511.out).2.1); (case s3 => exact tC ((Kd.R_reads' HO496.out).2.2)); (case s4 => exact (Kd.R_reads' HO496.out).2.1); rintro e w' ⟨rfl, ⟨nd, rfl⟩⟩; refine ⟨_, rfl, ?_⟩; obtain ⟨Ao38, co38, eo38⟩ := Kd.R_slice HO514.out; subst eo38; obtain ⟨Ao39, co39, eo39⟩ := Kd.R_slice HO499.out; subst eo39) | (go_at_call 12; (with_reducible refine (laws_eqInt64S.calls k _ _ t512 _ _ t497 true _ ?s1 ?s2 ?s3 ?s4 A34.out).mono ?_); (case s1 => exact tC ((Kd.R_reads' HO514.out).2.2)); (case s2 => exact (Kd.R_reads' HO514.out).2.1); (case s3 => exact tC ((Kd.R_reads' HO499.out).2.2)); (case s4 => exact (Kd.R_reads' HO499.out).2.1); rintro e w' ⟨rfl, ⟨nd, rfl⟩⟩))
   go_meet
   case rel => exact ⟨_, ((t515 != t500)), tS, H', ⟨tO⟩, ⟨by (with_reducible repeat (first | apply Kd.RqA | apply Kd.RqN | apply Kd.RqD)); exact Kd.R_mono HO496.out (fun _ hk => ⟨hk.1.1.1.1.1.1, ⟨hk.1.1.1.2, ⟨hk.1.1.2, ⟨hk.1.2, hk.2⟩⟩⟩⟩)⟩, ⟨by (with_reducible repeat (first | apply Kd.RqA | apply Kd.RqN | apply Kd.RqD)); exact Kd.R_mono HO499.out (fun _ hk => ⟨hk.1.1.1.1.1.1, ⟨hk.1.1.1.2, ⟨hk.1.1.2, ⟨hk.1.2, hk.2⟩⟩⟩⟩)⟩, ⟨by (with_reducible repeat (first | apply Kd.RqA | apply Kd.RqN | apply Kd.RqD)); exact Kd.R_mono HO503.out (fun _ hk => ⟨hk.1.1.1.1.2, ⟨hk.1.1.1.2, ⟨hk.1.1.2, ⟨hk.1.2, hk.2⟩⟩⟩⟩)⟩, ⟨by (with_reducible repeat (first | apply Kd.RqA | apply Kd.RqN | apply Kd.RqD)); exact Kd.R_mono HO506.out (fun _ hk => ⟨hk.1.1.1.1.2, ⟨hk.1.1.1.2, ⟨hk.1.1.2, ⟨hk.1.2, hk.2⟩⟩⟩⟩)⟩, ⟨by (with_reducible repeat (first | apply Kd.RqA | apply Kd.RqN | apply Kd.RqD)); exact Kd.R_mono HO511.out (fun _ hk => ⟨hk.1.1.1.2, ⟨hk.1.1.2, ⟨hk.1.2, ⟨hk.2, hk.1.1.1.1.1.1⟩⟩⟩⟩)⟩, ⟨by (with_reducible repeat (first | apply Kd.RqA | apply Kd.RqN | apply Kd.RqD)); exact Kd.R_mono HO514.out (fun _ hk => ⟨hk.1.1.1.2, ⟨hk.1.1.2, ⟨hk.1.2, ⟨hk.2, hk.1.1.1.1.1.1⟩⟩⟩⟩)⟩, ⟨tG BK485.out⟩, ⟨tB⟩⟩
  replace c35 := Bool.eq_false_iff.mpr c35
  subst c35
  rw [if_neg (show ¬ (false = true) by decide)] at H
  replace H' := Aq.mk H
  clear H
  obtain ⟨Ao40, co40, eo40⟩ := Kd.R_slice HO511.out
  subst eo40
  obtain ⟨Ao41, co41, eo41⟩ := Kd.R_slice HO496.out
  subst eo41
  go_wp2_with (first | ((with_reducible refine gQc (f := 12) rfl ?_); refine goesL_ (some 53) rfl rfl Try.func12 (by kernel_rfl) rfl #[.slice Ao40 t509.length co40, .slice Ao41 t494.length co41] rfl tL ?_; (with_reducible refine (laws_eqInt64S.calls k _ _ t509 _ _ t494 true _ ?s1 ?s2 ?s3 ?s4 A32.out).mono ?_); (case s1 => exact tC ((Kd.R_reads' HO511.out).2.2)); (case s2 => exact (Kd.R_reads' HO511.out).2.1); (case s3 => exact tC ((Kd.R_reads' HO496.out).2.2)); (case s4 => exact (Kd.R_reads' HO496.out).2.1); rintro e w' ⟨rfl, ⟨nd, rfl⟩⟩; refine ⟨_, rfl, ?_⟩; obtain ⟨Ao42, co42, eo42⟩ := Kd.R_slice HO514.out; subst eo42; obtain ⟨Ao43, co43, eo43⟩ := Kd.R_slice HO499.out; subst eo43) | (go_at_call 12; (with_reducible refine (laws_eqInt64S.calls k _ _ t512 _ _ t497 false _ ?s1 ?s2 ?s3 ?s4 A34.out).mono ?_); (case s1 => exact tC ((Kd.R_reads' HO514.out).2.2)); (case s2 => exact (Kd.R_reads' HO514.out).2.1); (case s3 => exact tC ((Kd.R_reads' HO499.out).2.2)); (case s4 => exact (Kd.R_reads' HO499.out).2.1); rintro e w' ⟨rfl, ⟨nd, rfl⟩⟩))
  go_meet
  case rel => exact ⟨_, (true), tS, H', ⟨tO⟩, ⟨by (with_reducible repeat (first | apply Kd.RqA | apply Kd.RqN | apply Kd.RqD)); exact Kd.R_mono HO496.out (fun _ hk => ⟨hk.1.1.1.1.1.1, ⟨hk.1.1.1.2, ⟨hk.1.1.2, ⟨hk.1.2, hk.2⟩⟩⟩⟩)⟩, ⟨by (with_reducible repeat (first | apply Kd.RqA | apply Kd.RqN | apply Kd.RqD)); exact Kd.R_mono HO499.out (fun _ hk => ⟨hk.1.1.1.1.1.1, ⟨hk.1.1.1.2, ⟨hk.1.1.2, ⟨hk.1.2, hk.2⟩⟩⟩⟩)⟩, ⟨by (with_reducible repeat (first | apply Kd.RqA | apply Kd.RqN | apply Kd.RqD)); exact Kd.R_mono HO503.out (fun _ hk => ⟨hk.1.1.1.1.2, ⟨hk.1.1.1.2, ⟨hk.1.1.2, ⟨hk.1.2, hk.2⟩⟩⟩⟩)⟩, ⟨by (with_reducible repeat (first | apply Kd.RqA | apply Kd.RqN | apply Kd.RqD)); exact Kd.R_mono HO506.out (fun _ hk => ⟨hk.1.1.1.1.2, ⟨hk.1.1.1.2, ⟨hk.1.1.2, ⟨hk.1.2, hk.2⟩⟩⟩⟩)⟩, ⟨by (with_reducible repeat (first | apply Kd.RqA | apply Kd.RqN | apply Kd.RqD)); exact Kd.R_mono HO511.out (fun _ hk => ⟨hk.1.1.1.2, ⟨hk.1.1.2, ⟨hk.1.2, ⟨hk.2, hk.1.1.1.1.1.1⟩⟩⟩⟩)⟩, ⟨by (with_reducible repeat (first | apply Kd.RqA | apply Kd.RqN | apply Kd.RqD)); exact Kd.R_mono HO514.out (fun _ hk => ⟨hk.1.1.1.2, ⟨hk.1.1.2, ⟨hk.1.2, ⟨hk.2, hk.1.1.1.1.1.1⟩⟩⟩⟩)⟩, ⟨tG BK485.out⟩, ⟨tB⟩⟩
 clear HC16
 try clear c1
 try clear c2
 try clear c4
 try clear c4b0
 try clear c4b1
 try clear c6
 try clear c6b0
 try clear c6b1
 try clear c33
 try clear c35
 try clear hcz18_0
 try clear hcz18_1
 try clear hcz27_0
 try clear hcz27_1
 try clear hfz18_0
 try clear hfz18_1
 try clear hfz27_0
 try clear hfz27_1
 obtain ⟨kq, x65_15, rfl, HA, HJ15, HO_7, HO_8, HO_10, HO_11, HO_12, HO_13, BK485, HB⟩ := hcut
 cases kq with
 | zero => exact absurd HA.out (by simp [laws_FnExactDivideLeft.j0])
 | succ kj15 =>
  have H := HA.out
  clear HA
  simp only [laws_FnExactDivideLeft.j0] at H
  by_cases c46 : x65_15 = true
  ·subst c46
   rw [if_pos rfl] at H
   obtain rfl := Option.some.inj H
   go_wp2
   go_ret
   exact ⟨tE, tB⟩
  replace c46 := Bool.eq_false_iff.mpr c46
  subst c46
  rw [if_neg (show ¬ (false = true) by decide)] at H
  obtain ⟨t518, A47, H⟩ := qBd H
  obtain ⟨t521, A48, H⟩ := qBd H
  by_cases c49 : t521 = true
  rotate_left
  ·replace c49 := Bool.eq_false_iff.mpr c49
   subst c49
   rw [if_neg (show ¬ (false = true) by decide)] at H
   obtain rfl := Option.some.inj H
   go_wp2_with (first | ((with_reducible refine gQc (f := 10) rfl ?_); refine goesL_ (some 68) rfl rfl Try.func10 (by kernel_rfl) rfl #[.slice A1 l1.length c1] rfl tL ?_; (with_reducible refine (laws_toInt64S.calls kj15 _ _ l1 t518 _ ?s1 ?s2 A47.out).mono ?_); (case s1 => exact tC ((Kd.C_below HR1.out HB.out))); (case s2 => exact HC1.out); rintro e w137 ⟨v519, rfl, ho0, hb⟩; refine ⟨_, rfl, ?_⟩; refine qM9 (Kd.R_elder' (tR HO_7.out) (Kd.R_base ho0) hb) (Kd.R_elder' (tR HO_8.out) (Kd.R_base ho0) hb) (Kd.R_elder' (tR HO_10.out) (Kd.R_base ho0) hb) (Kd.R_elder' (tR HO_11.out) (Kd.R_base ho0) hb) (Kd.R_elder' (tR HO_12.out) (Kd.R_base ho0) hb) (Kd.R_elder' (tR HO_13.out) (Kd.R_base ho0) hb) (Kd.R_lower (Kd.R_new' (Kd.R_new' (Kd.R_new' (Kd.R_new' (Kd.R_new' (Kd.R_new' ho0 (Kd.R_lt (tR HO_7.out))) (Kd.R_lt (tR HO_8.out))) (Kd.R_lt (tR HO_10.out))) (Kd.R_lt (tR HO_11.out))) (Kd.R_lt (tR HO_12.out))) (Kd.R_lt (tR HO_13.out))) (bQZ tB)) (tQ BK485.out hb) (bQT tB hb) ?_; clear HO_7 HO_8 HO_10 HO_11 HO_12 HO_13 BK485 HB; intro HO_7 HO_8 HO_10 HO_11 HO_12 HO_13 HO520 BK485 HB; (try clear hb); (try clear hb2); (try clear hk); (try clear hi); (try clear ho0); obtain ⟨Ao138, co138, eo138⟩ := Kd.R_slice HO520.out; subst eo138) | ((with_reducible refine gQc (f := 12) rfl ?_); refine goesL_ (some 69) rfl rfl Try.func12 (by kernel_rfl) rfl #[.slice Ao29 t501.length co29, .slice Ao138 t518.length co138] rfl tL ?_; (with_reducible refine (laws_eqInt64S.calls kj15 _ _ t501 _ _ t518 false _ ?s1 ?s2 ?s3 ?s4 A48.out).mono ?_); (case s1 => exact tC ((Kd.R_reads' HO_10.out).2.2)); (case s2 => exact (Kd.R_reads' HO_10.out).2.1); (case s3 => exact tC ((Kd.R_reads' HO520.out).2.2)); (case s4 => exact (Kd.R_reads' HO520.out).2.1); rintro e w' ⟨rfl, ⟨nd, rfl⟩⟩; refine ⟨_, rfl, ?_⟩))
   go_ret
   exact ⟨tE, tB⟩
  subst c49
  rw [if_pos rfl] at H
  obtain ⟨t522, A50, H⟩ := qBd H
  obtain ⟨t525, A51, H⟩ := qBd H
  by_cases c52 : t525 = true
  rotate_left
  ·replace c52 := Bool.eq_false_iff.mpr c52
   subst c52
   rw [if_neg (show ¬ (false = true) by decide)] at H
   obtain rfl := Option.some.inj H
   go_wp2_with (first | ((with_reducible refine gQc (f := 10) rfl ?_); refine goesL_ (some 68) rfl rfl Try.func10 (by kernel_rfl) rfl #[.slice A1 l1.length c1] rfl tL ?_; (with_reducible refine (laws_toInt64S.calls kj15 _ _ l1 t518 _ ?s1 ?s2 A47.out).mono ?_); (case s1 => exact tC ((Kd.C_below HR1.out HB.out))); (case s2 => exact HC1.out); rintro e w133 ⟨v519, rfl, ho0, hb⟩; refine ⟨_, rfl, ?_⟩; refine qM9 (Kd.R_elder' (tR HO_7.out) (Kd.R_base ho0) hb) (Kd.R_elder' (tR HO_8.out) (Kd.R_base ho0) hb) (Kd.R_elder' (tR HO_10.out) (Kd.R_base ho0) hb) (Kd.R_elder' (tR HO_11.out) (Kd.R_base ho0) hb) (Kd.R_elder' (tR HO_12.out) (Kd.R_base ho0) hb) (Kd.R_elder' (tR HO_13.out) (Kd.R_base ho0) hb) (Kd.R_lower (Kd.R_new' (Kd.R_new' (Kd.R_new' (Kd.R_new' (Kd.R_new' (Kd.R_new' ho0 (Kd.R_lt (tR HO_7.out))) (Kd.R_lt (tR HO_8.out))) (Kd.R_lt (tR HO_10.out))) (Kd.R_lt (tR HO_11.out))) (Kd.R_lt (tR HO_12.out))) (Kd.R_lt (tR HO_13.out))) (bQZ tB)) (tQ BK485.out hb) (bQT tB hb) ?_; clear HO_7 HO_8 HO_10 HO_11 HO_12 HO_13 BK485 HB; intro HO_7 HO_8 HO_10 HO_11 HO_12 HO_13 HO520 BK485 HB; (try clear hb); (try clear hb2); (try clear hk); (try clear hi); (try clear ho0); obtain ⟨Ao134, co134, eo134⟩ := Kd.R_slice HO520.out; subst eo134) | ((with_reducible refine gQc (f := 12) rfl ?_); refine goesL_ (some 69) rfl rfl Try.func12 (by kernel_rfl) rfl #[.slice Ao29 t501.length co29, .slice Ao134 t518.length co134] rfl tL ?_; (with_reducible refine (laws_eqInt64S.calls kj15 _ _ t501 _ _ t518 true _ ?s1 ?s2 ?s3 ?s4 A48.out).mono ?_); (case s1 => exact tC ((Kd.R_reads' HO_10.out).2.2)); (case s2 => exact (Kd.R_reads' HO_10.out).2.1); (case s3 => exact tC ((Kd.R_reads' HO520.out).2.2)); (case s4 => exact (Kd.R_reads' HO520.out).2.1); rintro e w' ⟨rfl, ⟨nd, rfl⟩⟩; refine ⟨_, rfl, ?_⟩) | ((with_reducible refine gQc (f := 10) rfl ?_); refine goesL_ (some 73) rfl rfl Try.func10 (by kernel_rfl) rfl #[.slice A2 l2.length c2] rfl tL ?_; (with_reducible refine (laws_toInt64S.calls kj15 _ _ l2 t522 _ ?s1 ?s2 A50.out).mono ?_); (case s1 => exact tC ((Kd.C_below HR2.out tB))); (case s2 => exact HC2.out); rintro e w135 ⟨v523, rfl, ho0, hb⟩; refine ⟨_, rfl, ?_⟩; refine qM10 (Kd.R_elder' (tR HO_7.out) (Kd.R_base ho0) hb) (Kd.R_elder' (tR HO_8.out) (Kd.R_base ho0) hb) (Kd.R_elder' (tR HO_10.out) (Kd.R_base ho0) hb) (Kd.R_elder' (tR HO_11.out) (Kd.R_base ho0) hb) (Kd.R_elder' (tR HO_12.out) (Kd.R_base ho0) hb) (Kd.R_elder' (tR HO_13.out) (Kd.R_base ho0) hb) (Kd.R_elder' (tR HO520.out) (Kd.R_base ho0) hb) (Kd.R_lower (Kd.R_new' (Kd.R_new' (Kd.R_new' (Kd.R_new' (Kd.R_new' (Kd.R_new' (Kd.R_new' ho0 (Kd.R_lt (tR HO_7.out))) (Kd.R_lt (tR HO_8.out))) (Kd.R_lt (tR HO_10.out))) (Kd.R_lt (tR HO_11.out))) (Kd.R_lt (tR HO_12.out))) (Kd.R_lt (tR HO_13.out))) (Kd.R_lt (tR HO520.out))) (bQZ tB)) (tQ BK485.out hb) (bQT tB hb) ?_; clear HO_7 HO_8 HO_10 HO_11 HO_12 HO_13 HO520 BK485 HB; intro HO_7 HO_8 HO_10 HO_11 HO_12 HO_13 HO520 HO524 BK485 HB; (try clear hb); (try clear hb2); (try clear hk); (try clear hi); (try clear ho0); obtain ⟨Ao136, co136, eo136⟩ := Kd.R_slice HO524.out; subst eo136) | ((with_reducible refine gQc (f := 12) rfl ?_); refine goesL_ (some 74) rfl rfl Try.func12 (by kernel_rfl) rfl #[.slice Ao30 t504.length co30, .slice Ao136 t522.length co136] rfl tL ?_; (with_reducible refine (laws_eqInt64S.calls kj15 _ _ t504 _ _ t522 false _ ?s1 ?s2 ?s3 ?s4 A51.out).mono ?_); (case s1 => exact tC ((Kd.R_reads' HO_11.out).2.2)); (case s2 => exact (Kd.R_reads' HO_11.out).2.1); (case s3 => exact tC ((Kd.R_reads' HO524.out).2.2)); (case s4 => exact (Kd.R_reads' HO524.out).2.1); rintro e w' ⟨rfl, ⟨nd, rfl⟩⟩; refine ⟨_, rfl, ?_⟩))
   go_ret
   exact ⟨tE, tB⟩
  subst c52
  rw [if_pos rfl] at H
  obtain ⟨⟨t526, t527⟩, A53, H⟩ := qBd H
  (try dsimp only at H)
  obtain ⟨⟨t528, t529⟩, A54, H⟩ := qBd H
  (try dsimp only at H)
  have HC55 := Aq.mk H
  clear H
  go_upto_region 18 with (first | ((with_reducible refine gQc (f := 10) rfl ?_); refine goesL_ (some 68) rfl rfl Try.func10 (by kernel_rfl) rfl #[.slice A1 l1.length c1] rfl tL ?_; (with_reducible refine (laws_toInt64S.calls kj15 _ _ l1 t518 _ ?s1 ?s2 A47.out).mono ?_); (case s1 => exact tC ((Kd.C_below HR1.out HB.out))); (case s2 => exact HC1.out); rintro e w56 ⟨v519, rfl, ho0, hb⟩; refine ⟨_, rfl, ?_⟩; refine qM9 (Kd.R_elder' (tR HO_7.out) (Kd.R_base ho0) hb) (Kd.R_elder' (tR HO_8.out) (Kd.R_base ho0) hb) (Kd.R_elder' (tR HO_10.out) (Kd.R_base ho0) hb) (Kd.R_elder' (tR HO_11.out) (Kd.R_base ho0) hb) (Kd.R_elder' (tR HO_12.out) (Kd.R_base ho0) hb) (Kd.R_elder' (tR HO_13.out) (Kd.R_base ho0) hb) (Kd.R_lower (Kd.R_new' (Kd.R_new' (Kd.R_new' (Kd.R_new' (Kd.R_new' (Kd.R_new' ho0 (Kd.R_lt (tR HO_7.out))) (Kd.R_lt (tR HO_8.out))) (Kd.R_lt (tR HO_10.out))) (Kd.R_lt (tR HO_11.out))) (Kd.R_lt (tR HO_12.out))) (Kd.R_lt (tR HO_13.out))) (bQZ tB)) (tQ BK485.out hb) (bQT tB hb) ?_; clear HO_7 HO_8 HO_10 HO_11 HO_12 HO_13 BK485 HB; intro HO_7 HO_8 HO_10 HO_11 HO_12 HO_13 HO520 BK485 HB; (try clear hb); (try clear hb2); (try clear hk); (try clear hi); (try clear ho0); obtain ⟨Ao57, co57, eo57⟩ := Kd.R_slice HO520.out; subst eo57) | ((with_reducible refine gQc (f := 12) rfl ?_); refine goesL_ (some 69) rfl rfl Try.func12 (by kernel_rfl) rfl #[.slice Ao29 t501.length co29, .slice Ao57 t518.length co57] rfl tL ?_; (with_reducible refine (laws_eqInt64S.calls kj15 _ _ t501 _ _ t518 true _ ?s1 ?s2 ?s3 ?s4 A48.out).mono ?_); (case s1 => exact tC ((Kd.R_reads' HO_10.out).2.2)); (case s2 => exact (Kd.R_reads' HO_10.out).2.1); (case s3 => exact tC ((Kd.R_reads' HO520.out).2.2)); (case s4 => exact (Kd.R_reads' HO520.out).2.1); rintro e w' ⟨rfl, ⟨nd, rfl⟩⟩; refine ⟨_, rfl, ?_⟩) | ((with_reducible refine gQc (f := 10) rfl ?_); refine goesL_ (some 73) rfl rfl Try.func10 (by kernel_rfl) rfl #[.slice A2 l2.length c2] rfl tL ?_; (with_reducible refine (laws_toInt64S.calls kj15 _ _ l2 t522 _ ?s1 ?s2 A50.out).mono ?_); (case s1 => exact tC ((Kd.C_below HR2.out tB))); (case s2 => exact HC2.out); rintro e w58 ⟨v523, rfl, ho0, hb⟩; refine ⟨_, rfl, ?_⟩; refine qM10 (Kd.R_elder' (tR HO_7.out) (Kd.R_base ho0) hb) (Kd.R_elder' (tR HO_8.out) (Kd.R_base ho0) hb) (Kd.R_elder' (tR HO_10.out) (Kd.R_base ho0) hb) (Kd.R_elder' (tR HO_11.out) (Kd.R_base ho0) hb) (Kd.R_elder' (tR HO_12.out) (Kd.R_base ho0) hb) (Kd.R_elder' (tR HO_13.out) (Kd.R_base ho0) hb) (Kd.R_elder' (tR HO520.out) (Kd.R_base ho0) hb) (Kd.R_lower (Kd.R_new' (Kd.R_new' (Kd.R_new' (Kd.R_new' (Kd.R_new' (Kd.R_new' (Kd.R_new' ho0 (Kd.R_lt (tR HO_7.out))) (Kd.R_lt (tR HO_8.out))) (Kd.R_lt (tR HO_10.out))) (Kd.R_lt (tR HO_11.out))) (Kd.R_lt (tR HO_12.out))) (Kd.R_lt (tR HO_13.out))) (Kd.R_lt (tR HO520.out))) (bQZ tB)) (tQ BK485.out hb) (bQT tB hb) ?_; clear HO_7 HO_8 HO_10 HO_11 HO_12 HO_13 HO520 BK485 HB; intro HO_7 HO_8 HO_10 HO_11 HO_12 HO_13 HO520 HO524 BK485 HB; (try clear hb); (try clear hb2); (try clear hk); (try clear hi); (try clear ho0); obtain ⟨Ao59, co59, eo59⟩ := Kd.R_slice HO524.out; subst eo59) | ((with_reducible refine gQc (f := 12) rfl ?_); refine goesL_ (some 74) rfl rfl Try.func12 (by kernel_rfl) rfl #[.slice Ao30 t504.length co30, .slice Ao59 t522.length co59] rfl tL ?_; (with_reducible refine (laws_eqInt64S.calls kj15 _ _ t504 _ _ t522 true _ ?s1 ?s2 ?s3 ?s4 A51.out).mono ?_); (case s1 => exact tC ((Kd.R_reads' HO_11.out).2.2)); (case s2 => exact (Kd.R_reads' HO_11.out).2.1); (case s3 => exact tC ((Kd.R_reads' HO524.out).2.2)); (case s4 => exact (Kd.R_reads' HO524.out).2.1); rintro e w' ⟨rfl, ⟨nd, rfl⟩⟩; refine ⟨_, rfl, ?_⟩) | ((with_reducible refine gQc (f := 13) rfl ?_); refine goesL_ (some 78) rfl rfl Try.func13 (by kernel_rfl) rfl #[.slice Ao29 t501.length co29, .int .i64 1] rfl tL ?_; (with_reducible refine (laws_markInt64S.calls kj15 (fun k_ => some k_ = (.slice Ao29 t501.length co29 : Value).ownBlock) (.slice Ao29 t501.length co29) t501 1 t526 t527 w _ ?s1 ?s2 A53.out).mono ?_); (case s1 => exact tB); (case s2 => exact Kd.R_tight rfl HO_10.out); rintro e w60 ⟨rfl, hy0, hb, hkp⟩; refine ⟨_, rfl, ?_⟩; refine qM10 (Kd.R_mono (ok' := fun k_ => some k_ ≠ (v498 : Value).ownBlock ∧ some k_ ≠ (.slice Ao29 t501.length co29 : Value).ownBlock ∧ some k_ ≠ (.slice Ao30 t504.length co30 : Value).ownBlock ∧ some k_ ≠ (v510 : Value).ownBlock ∧ some k_ ≠ (v513 : Value).ownBlock ∧ some k_ ≠ (.slice Ao57 t518.length co57 : Value).ownBlock ∧ some k_ ≠ (.slice Ao59 t522.length co59 : Value).ownBlock) (Kd.R_keptB (HO_7.out) hkp (fun k_ hk_ hs_ => (hk_.1.1.2.1) hs_)) (fun k_ hk_ => ⟨hk_.1.1.1.1, hk_.1.1.1.2.1, hk_.1.1.1.2.2.1, hk_.1.1.1.2.2.2.1, hk_.1.1.1.2.2.2.2, hk_.1.1.2, hk_.1.2⟩)) (Kd.R_mono (ok' := fun k_ => some k_ ≠ (v495 : Value).ownBlock ∧ some k_ ≠ (.slice Ao29 t501.length co29 : Value).ownBlock ∧ some k_ ≠ (.slice Ao30 t504.length co30 : Value).ownBlock ∧ some k_ ≠ (v510 : Value).ownBlock ∧ some k_ ≠ (v513 : Value).ownBlock ∧ some k_ ≠ (.slice Ao57 t518.length co57 : Value).ownBlock ∧ some k_ ≠ (.slice Ao59 t522.length co59 : Value).ownBlock) (Kd.R_keptB (HO_8.out) hkp (fun k_ hk_ hs_ => (hk_.1.1.2.1) hs_)) (fun k_ hk_ => ⟨hk_.1.1.1.1, hk_.1.1.1.2.1, hk_.1.1.1.2.2.1, hk_.1.1.1.2.2.2.1, hk_.1.1.1.2.2.2.2, hk_.1.1.2, hk_.1.2⟩)) (Kd.R_reok rfl hy0 (fun k_ e_ => HO_10.out.1 k_ e_)) (Kd.R_mono (ok' := fun k_ => some k_ ≠ (v495 : Value).ownBlock ∧ some k_ ≠ (v498 : Value).ownBlock ∧ some k_ ≠ (.slice Ao29 t501.length co29 : Value).ownBlock ∧ some k_ ≠ (v510 : Value).ownBlock ∧ some k_ ≠ (v513 : Value).ownBlock ∧ some k_ ≠ (.slice Ao57 t518.length co57 : Value).ownBlock ∧ some k_ ≠ (.slice Ao59 t522.length co59 : Value).ownBlock) (Kd.R_keptB (HO_11.out) hkp (fun k_ hk_ hs_ => (hk_.1.1.2.2.1) hs_)) (fun k_ hk_ => ⟨hk_.1.1.1.1, hk_.1.1.1.2.1, hk_.1.1.1.2.2.1, hk_.1.1.1.2.2.2.1, hk_.1.1.1.2.2.2.2, hk_.1.1.2, hk_.1.2⟩)) (Kd.R_mono (ok' := fun k_ => some k_ ≠ (v495 : Value).ownBlock ∧ some k_ ≠ (v498 : Value).ownBlock ∧ some k_ ≠ (.slice Ao29 t501.length co29 : Value).ownBlock ∧ some k_ ≠ (.slice Ao30 t504.length co30 : Value).ownBlock ∧ some k_ ≠ (v513 : Value).ownBlock ∧ some k_ ≠ (.slice Ao57 t518.length co57 : Value).ownBlock ∧ some k_ ≠ (.slice Ao59 t522.length co59 : Value).ownBlock) (Kd.R_keptB (HO_12.out) hkp (fun k_ hk_ hs_ => (hk_.1.1.2.2.1) hs_)) (fun k_ hk_ => ⟨hk_.1.1.1.1, hk_.1.1.1.2.1, hk_.1.1.1.2.2.1, hk_.1.1.1.2.2.2.1, hk_.1.1.1.2.2.2.2, hk_.1.1.2, hk_.1.2⟩)) (Kd.R_mono (ok' := fun k_ => some k_ ≠ (v495 : Value).ownBlock ∧ some k_ ≠ (v498 : Value).ownBlock ∧ some k_ ≠ (.slice Ao29 t501.length co29 : Value).ownBlock ∧ some k_ ≠ (.slice Ao30 t504.length co30 : Value).ownBlock ∧ some k_ ≠ (v510 : Value).ownBlock ∧ some k_ ≠ (.slice Ao57 t518.length co57 : Value).ownBlock ∧ some k_ ≠ (.slice Ao59 t522.length co59 : Value).ownBlock) (Kd.R_keptB (HO_13.out) hkp (fun k_ hk_ hs_ => (hk_.1.1.2.2.1) hs_)) (fun k_ hk_ => ⟨hk_.1.1.1.1, hk_.1.1.1.2.1, hk_.1.1.1.2.2.1, hk_.1.1.1.2.2.2.1, hk_.1.1.1.2.2.2.2, hk_.1.1.2, hk_.1.2⟩)) (blk_kept (tG BK485.out) hkp (fun hs_ => (fun e_ => (Kd.R_ne HO_10.out BK485.out (by decide)) e_) hs_)) (Kd.R_mono (ok' := fun k_ => some k_ ≠ (v495 : Value).ownBlock ∧ some k_ ≠ (v498 : Value).ownBlock ∧ some k_ ≠ (.slice Ao29 t501.length co29 : Value).ownBlock ∧ some k_ ≠ (.slice Ao30 t504.length co30 : Value).ownBlock ∧ some k_ ≠ (v510 : Value).ownBlock ∧ some k_ ≠ (v513 : Value).ownBlock ∧ some k_ ≠ (.slice Ao59 t522.length co59 : Value).ownBlock) (Kd.R_keptB (HO520.out) hkp (fun k_ hk_ hs_ => (hk_.1.1.1.1.2) hs_)) (fun k_ hk_ => ⟨hk_.1.1.1.1.1.1.1.2, hk_.1.1.1.1.1.1.2, hk_.1.1.1.1.1.2, hk_.1.1.1.1.2, hk_.1.1.1.2, hk_.1.1.2, hk_.1.2⟩)) (Kd.R_mono (ok' := fun k_ => some k_ ≠ (v495 : Value).ownBlock ∧ some k_ ≠ (v498 : Value).ownBlock ∧ some k_ ≠ (.slice Ao29 t501.length co29 : Value).ownBlock ∧ some k_ ≠ (.slice Ao30 t504.length co30 : Value).ownBlock ∧ some k_ ≠ (v510 : Value).ownBlock ∧ some k_ ≠ (v513 : Value).ownBlock ∧ some k_ ≠ (.slice Ao57 t518.length co57 : Value).ownBlock) (Kd.R_keptB (HO524.out) hkp (fun k_ hk_ hs_ => (hk_.1.1.1.1.2) hs_)) (fun k_ hk_ => ⟨hk_.1.1.1.1.1.1.1.2, hk_.1.1.1.1.1.1.2, hk_.1.1.1.1.1.2, hk_.1.1.1.1.2, hk_.1.1.1.2, hk_.1.1.2, hk_.1.2⟩)) hb ?_; clear HO_7 HO_8 HO_10 HO_11 HO_12 HO_13 BK485 HO520 HO524 HB; intro HO_7 HO_8 HO_10 HO_11 HO_12 HO_13 BK485 HO520 HO524 HB; (try clear hb); (try clear hkp); (try clear hy0)) | ((with_reducible refine gQc (f := 13) rfl ?_); refine goesL_ (some 81) rfl rfl Try.func13 (by kernel_rfl) rfl #[.slice Ao30 t504.length co30, .int .i64 t526] rfl tL ?_; (with_reducible refine (laws_markInt64S.calls kj15 (fun k_ => some k_ = (.slice Ao30 t504.length co30 : Value).ownBlock) (.slice Ao30 t504.length co30) t504 t526 t528 t529 w _ ?s1 ?s2 A54.out).mono ?_); (case s1 => exact tB); (case s2 => exact Kd.R_tight rfl HO_11.out); rintro e w61 ⟨rfl, hy0, hb, hkp⟩; refine ⟨_, rfl, ?_⟩; refine qM10 (Kd.R_mono (ok' := fun k_ => some k_ ≠ (v498 : Value).ownBlock ∧ some k_ ≠ (.slice Ao29 t501.length co29 : Value).ownBlock ∧ some k_ ≠ (.slice Ao30 t504.length co30 : Value).ownBlock ∧ some k_ ≠ (v510 : Value).ownBlock ∧ some k_ ≠ (v513 : Value).ownBlock ∧ some k_ ≠ (.slice Ao57 t518.length co57 : Value).ownBlock ∧ some k_ ≠ (.slice Ao59 t522.length co59 : Value).ownBlock) (Kd.R_keptB (HO_7.out) hkp (fun k_ hk_ hs_ => (hk_.2.2.1) hs_)) (fun k_ hk_ => ⟨hk_.1.1, hk_.1.2.1, hk_.1.2.2.1, hk_.1.2.2.2.1, hk_.1.2.2.2.2.1, hk_.1.2.2.2.2.2.1, hk_.1.2.2.2.2.2.2⟩)) (Kd.R_mono (ok' := fun k_ => some k_ ≠ (v495 : Value).ownBlock ∧ some k_ ≠ (.slice Ao29 t501.length co29 : Value).ownBlock ∧ some k_ ≠ (.slice Ao30 t504.length co30 : Value).ownBlock ∧ some k_ ≠ (v510 : Value).ownBlock ∧ some k_ ≠ (v513 : Value).ownBlock ∧ some k_ ≠ (.slice Ao57 t518.length co57 : Value).ownBlock ∧ some k_ ≠ (.slice Ao59 t522.length co59 : Value).ownBlock) (Kd.R_keptB (HO_8.out) hkp (fun k_ hk_ hs_ => (hk_.2.2.1) hs_)) (fun k_ hk_ => ⟨hk_.1.1, hk_.1.2.1, hk_.1.2.2.1, hk_.1.2.2.2.1, hk_.1.2.2.2.2.1, hk_.1.2.2.2.2.2.1, hk_.1.2.2.2.2.2.2⟩)) (Kd.R_mono (ok' := fun k_ => some k_ ≠ (v495 : Value).ownBlock ∧ some k_ ≠ (v498 : Value).ownBlock ∧ some k_ ≠ (.slice Ao30 t504.length co30 : Value).ownBlock ∧ some k_ ≠ (v510 : Value).ownBlock ∧ some k_ ≠ (v513 : Value).ownBlock ∧ some k_ ≠ (.slice Ao57 t518.length co57 : Value).ownBlock ∧ some k_ ≠ (.slice Ao59 t522.length co59 : Value).ownBlock) (Kd.R_keptB (HO_10.out) hkp (fun k_ hk_ hs_ => (hk_.1.1.2.2.1) hs_)) (fun k_ hk_ => ⟨hk_.1.1.1.1, hk_.1.1.1.2.1, hk_.1.1.1.2.2.1, hk_.1.1.1.2.2.2.1, hk_.1.1.1.2.2.2.2, hk_.1.1.2, hk_.1.2⟩)) (Kd.R_reok rfl hy0 (fun k_ e_ => HO_11.out.1 k_ e_)) (Kd.R_mono (ok' := fun k_ => some k_ ≠ (v495 : Value).ownBlock ∧ some k_ ≠ (v498 : Value).ownBlock ∧ some k_ ≠ (.slice Ao29 t501.length co29 : Value).ownBlock ∧ some k_ ≠ (.slice Ao30 t504.length co30 : Value).ownBlock ∧ some k_ ≠ (v513 : Value).ownBlock ∧ some k_ ≠ (.slice Ao57 t518.length co57 : Value).ownBlock ∧ some k_ ≠ (.slice Ao59 t522.length co59 : Value).ownBlock) (Kd.R_keptB (HO_12.out) hkp (fun k_ hk_ hs_ => (hk_.2.2.2.1) hs_)) (fun k_ hk_ => ⟨hk_.1.1, hk_.1.2.1, hk_.1.2.2.1, hk_.1.2.2.2.1, hk_.1.2.2.2.2.1, hk_.1.2.2.2.2.2.1, hk_.1.2.2.2.2.2.2⟩)) (Kd.R_mono (ok' := fun k_ => some k_ ≠ (v495 : Value).ownBlock ∧ some k_ ≠ (v498 : Value).ownBlock ∧ some k_ ≠ (.slice Ao29 t501.length co29 : Value).ownBlock ∧ some k_ ≠ (.slice Ao30 t504.length co30 : Value).ownBlock ∧ some k_ ≠ (v510 : Value).ownBlock ∧ some k_ ≠ (.slice Ao57 t518.length co57 : Value).ownBlock ∧ some k_ ≠ (.slice Ao59 t522.length co59 : Value).ownBlock) (Kd.R_keptB (HO_13.out) hkp (fun k_ hk_ hs_ => (hk_.2.2.2.1) hs_)) (fun k_ hk_ => ⟨hk_.1.1, hk_.1.2.1, hk_.1.2.2.1, hk_.1.2.2.2.1, hk_.1.2.2.2.2.1, hk_.1.2.2.2.2.2.1, hk_.1.2.2.2.2.2.2⟩)) (blk_kept (tG BK485.out) hkp (fun hs_ => (fun e_ => (Kd.R_ne HO_11.out BK485.out (by decide)) e_) hs_)) (Kd.R_mono (ok' := fun k_ => some k_ ≠ (v495 : Value).ownBlock ∧ some k_ ≠ (v498 : Value).ownBlock ∧ some k_ ≠ (.slice Ao29 t501.length co29 : Value).ownBlock ∧ some k_ ≠ (.slice Ao30 t504.length co30 : Value).ownBlock ∧ some k_ ≠ (v510 : Value).ownBlock ∧ some k_ ≠ (v513 : Value).ownBlock ∧ some k_ ≠ (.slice Ao59 t522.length co59 : Value).ownBlock) (Kd.R_keptB (HO520.out) hkp (fun k_ hk_ hs_ => (hk_.2.2.2.1) hs_)) (fun k_ hk_ => ⟨hk_.1.1, hk_.1.2.1, hk_.1.2.2.1, hk_.1.2.2.2.1, hk_.1.2.2.2.2.1, hk_.1.2.2.2.2.2.1, hk_.1.2.2.2.2.2.2⟩)) (Kd.R_mono (ok' := fun k_ => some k_ ≠ (v495 : Value).ownBlock ∧ some k_ ≠ (v498 : Value).ownBlock ∧ some k_ ≠ (.slice Ao29 t501.length co29 : Value).ownBlock ∧ some k_ ≠ (.slice Ao30 t504.length co30 : Value).ownBlock ∧ some k_ ≠ (v510 : Value).ownBlock ∧ some k_ ≠ (v513 : Value).ownBlock ∧ some k_ ≠ (.slice Ao57 t518.length co57 : Value).ownBlock) (Kd.R_keptB (HO524.out) hkp (fun k_ hk_ hs_ => (hk_.2.2.2.1) hs_)) (fun k_ hk_ => ⟨hk_.1.1, hk_.1.2.1, hk_.1.2.2.1, hk_.1.2.2.2.1, hk_.1.2.2.2.2.1, hk_.1.2.2.2.2.2.1, hk_.1.2.2.2.2.2.2⟩)) hb ?_; clear HO_7 HO_8 HO_10 HO_11 HO_12 HO_13 BK485 HO520 HO524 HB; intro HO_7 HO_8 HO_10 HO_11 HO_12 HO_13 BK485 HO520 HO524 HB; (try clear hb); (try clear hkp); (try clear hy0)))
  (try simp only [Act.put, qSa, qSb, qSc])
  go_cut [100] (fun v100 wc => ∃ (kq : Nat) (x100_54 : Bool), v100 = .bool x100_54 ∧ Aq (laws_FnExactDivideLeft.j1 kq l1 l2 t494 t497 t500 t509 t512 x100_54 a0_0 a0_1 = some r) ∧ Aq (kq ≤ kj15) ∧ Aq (Kd.R (Kd.int .i64) 2 wc w.heap.size (fun k_ => some k_ ≠ (v498 : Value).ownBlock ∧ some k_ ≠ (v510 : Value).ownBlock ∧ some k_ ≠ (v513 : Value).ownBlock) v495 t494) ∧ Aq (Kd.R (Kd.int .i64) 2 wc w.heap.size (fun k_ => some k_ ≠ (v495 : Value).ownBlock ∧ some k_ ≠ (v510 : Value).ownBlock ∧ some k_ ≠ (v513 : Value).ownBlock) v498 t497) ∧ Aq (Kd.R (Kd.int .i64) 2 wc w.heap.size (fun k_ => some k_ ≠ (v495 : Value).ownBlock ∧ some k_ ≠ (v498 : Value).ownBlock ∧ some k_ ≠ (v513 : Value).ownBlock) v510 t509) ∧ Aq (Kd.R (Kd.int .i64) 2 wc w.heap.size (fun k_ => some k_ ≠ (v495 : Value).ownBlock ∧ some k_ ≠ (v498 : Value).ownBlock ∧ some k_ ≠ (v510 : Value).ownBlock) v513 t512) ∧ Aq (wc.heap[gb485]? = some (.cells #[.int .i64 a0_0, .int .i64 a0_1] 23 (0, 0))) ∧ Aq (Below w.heap.size w wc))
  case first =>
   have H := HC55.out
   clear HC55
   by_cases c62 : t528 < 0
   ·rw [if_pos c62] at H
    have c62b0 := decide_eq_true c62
    clear c62
    (first | rw [c62b0] | (simp only [i64_w, i32_w]; rw [c62b0]) | skip)
    replace H' := Aq.mk H
    clear H
    go_wp2
    go_meet
    case rel => exact ⟨_, (true), tS, H', ⟨by have := HJ15.out; first | omega | exact Nat.le_refl _⟩, ⟨by (with_reducible repeat (first | apply Kd.RqA | apply Kd.RqN | apply Kd.RqD)); exact Kd.R_mono HO_7.out (fun _ hk => ⟨hk.1, ⟨hk.2.2.2.1, hk.2.2.2.2.1⟩⟩)⟩, ⟨by (with_reducible repeat (first | apply Kd.RqA | apply Kd.RqN | apply Kd.RqD)); exact Kd.R_mono HO_8.out (fun _ hk => ⟨hk.1, ⟨hk.2.2.2.1, hk.2.2.2.2.1⟩⟩)⟩, ⟨by (with_reducible repeat (first | apply Kd.RqA | apply Kd.RqN | apply Kd.RqD)); exact Kd.R_mono HO_12.out (fun _ hk => ⟨hk.1, ⟨hk.2.1, hk.2.2.2.2.1⟩⟩)⟩, ⟨by (with_reducible repeat (first | apply Kd.RqA | apply Kd.RqN | apply Kd.RqD)); exact Kd.R_mono HO_13.out (fun _ hk => ⟨hk.1, ⟨hk.2.1, hk.2.2.2.2.1⟩⟩)⟩, ⟨tG BK485.out⟩, ⟨tB⟩⟩
   rw [if_neg c62] at H
   have c62b0 := decide_eq_false c62
   clear c62
   (first | rw [c62b0] | (simp only [i64_w, i32_w]; rw [c62b0]) | skip)
   obtain ⟨t530, A63, H⟩ := qBd H
   by_cases c64 : t530 = true
   rotate_left
   ·replace c64 := Bool.eq_false_iff.mpr c64
    subst c64
    rw [if_neg (show ¬ (false = true) by decide)] at H
    replace H' := Aq.mk H
    clear H
    obtain ⟨Ao75, co75, eo75⟩ := Kd.R_slice HO_12.out
    subst eo75
    obtain ⟨Ao76, co76, eo76⟩ := Kd.R_slice HO_7.out
    subst eo76
    go_wp2_with (first | (go_at_call 12; (with_reducible refine (laws_eqInt64S.calls kj15 _ _ t509 _ _ t494 false _ ?s1 ?s2 ?s3 ?s4 A63.out).mono ?_); (case s1 => exact tC ((Kd.R_reads' HO_12.out).2.2)); (case s2 => exact (Kd.R_reads' HO_12.out).2.1); (case s3 => exact tC ((Kd.R_reads' HO_7.out).2.2)); (case s4 => exact (Kd.R_reads' HO_7.out).2.1); rintro e w' ⟨rfl, ⟨nd, rfl⟩⟩))
    go_meet
    case rel => exact ⟨_, (true), tS, H', ⟨by have := HJ15.out; first | omega | exact Nat.le_refl _⟩, ⟨by (with_reducible repeat (first | apply Kd.RqA | apply Kd.RqN | apply Kd.RqD)); exact Kd.R_mono HO_7.out (fun _ hk => ⟨hk.1, ⟨hk.2.2.2.1, hk.2.2.2.2.1⟩⟩)⟩, ⟨by (with_reducible repeat (first | apply Kd.RqA | apply Kd.RqN | apply Kd.RqD)); exact Kd.R_mono HO_8.out (fun _ hk => ⟨hk.1, ⟨hk.2.2.2.1, hk.2.2.2.2.1⟩⟩)⟩, ⟨by (with_reducible repeat (first | apply Kd.RqA | apply Kd.RqN | apply Kd.RqD)); exact Kd.R_mono HO_12.out (fun _ hk => ⟨hk.1, ⟨hk.2.1, hk.2.2.2.2.1⟩⟩)⟩, ⟨by (with_reducible repeat (first | apply Kd.RqA | apply Kd.RqN | apply Kd.RqD)); exact Kd.R_mono HO_13.out (fun _ hk => ⟨hk.1, ⟨hk.2.1, hk.2.2.2.2.1⟩⟩)⟩, ⟨tG BK485.out⟩, ⟨tB⟩⟩
   subst c64
   rw [if_pos rfl] at H
   obtain ⟨t531, A65, H⟩ := qBd H
   by_cases c66 : t531 = true
   ·subst c66
    rw [if_pos rfl] at H
    replace H' := Aq.mk H
    clear H
    obtain ⟨Ao67, co67, eo67⟩ := Kd.R_slice HO_12.out
    subst eo67
    obtain ⟨Ao68, co68, eo68⟩ := Kd.R_slice HO_7.out
    subst eo68
    go_wp2_with (first | (go_at_call 12; (with_reducible refine (laws_eqInt64S.calls kj15 _ _ t509 _ _ t494 true _ ?s1 ?s2 ?s3 ?s4 A63.out).mono ?_); (case s1 => exact tC ((Kd.R_reads' HO_12.out).2.2)); (case s2 => exact (Kd.R_reads' HO_12.out).2.1); (case s3 => exact tC ((Kd.R_reads' HO_7.out).2.2)); (case s4 => exact (Kd.R_reads' HO_7.out).2.1); rintro e w' ⟨rfl, ⟨nd, rfl⟩⟩; obtain ⟨Ao69, co69, eo69⟩ := Kd.R_slice HO_13.out; subst eo69; obtain ⟨Ao70, co70, eo70⟩ := Kd.R_slice HO_8.out; subst eo70) | (go_at_call 12; (with_reducible refine (laws_eqInt64S.calls kj15 _ _ t512 _ _ t497 true _ ?s1 ?s2 ?s3 ?s4 A65.out).mono ?_); (case s1 => exact tC ((Kd.R_reads' HO_13.out).2.2)); (case s2 => exact (Kd.R_reads' HO_13.out).2.1); (case s3 => exact tC ((Kd.R_reads' HO_8.out).2.2)); (case s4 => exact (Kd.R_reads' HO_8.out).2.1); rintro e w' ⟨rfl, ⟨nd, rfl⟩⟩))
    go_meet
    case rel => exact ⟨_, ((t515 != t500)), tS, H', ⟨by have := HJ15.out; first | omega | exact Nat.le_refl _⟩, ⟨by (with_reducible repeat (first | apply Kd.RqA | apply Kd.RqN | apply Kd.RqD)); exact Kd.R_mono HO_7.out (fun _ hk => ⟨hk.1, ⟨hk.2.2.2.1, hk.2.2.2.2.1⟩⟩)⟩, ⟨by (with_reducible repeat (first | apply Kd.RqA | apply Kd.RqN | apply Kd.RqD)); exact Kd.R_mono HO_8.out (fun _ hk => ⟨hk.1, ⟨hk.2.2.2.1, hk.2.2.2.2.1⟩⟩)⟩, ⟨by (with_reducible repeat (first | apply Kd.RqA | apply Kd.RqN | apply Kd.RqD)); exact Kd.R_mono HO_12.out (fun _ hk => ⟨hk.1, ⟨hk.2.1, hk.2.2.2.2.1⟩⟩)⟩, ⟨by (with_reducible repeat (first | apply Kd.RqA | apply Kd.RqN | apply Kd.RqD)); exact Kd.R_mono HO_13.out (fun _ hk => ⟨hk.1, ⟨hk.2.1, hk.2.2.2.2.1⟩⟩)⟩, ⟨tG BK485.out⟩, ⟨tB⟩⟩
   replace c66 := Bool.eq_false_iff.mpr c66
   subst c66
   rw [if_neg (show ¬ (false = true) by decide)] at H
   replace H' := Aq.mk H
   clear H
   obtain ⟨Ao71, co71, eo71⟩ := Kd.R_slice HO_12.out
   subst eo71
   obtain ⟨Ao72, co72, eo72⟩ := Kd.R_slice HO_7.out
   subst eo72
   go_wp2_with (first | (go_at_call 12; (with_reducible refine (laws_eqInt64S.calls kj15 _ _ t509 _ _ t494 true _ ?s1 ?s2 ?s3 ?s4 A63.out).mono ?_); (case s1 => exact tC ((Kd.R_reads' HO_12.out).2.2)); (case s2 => exact (Kd.R_reads' HO_12.out).2.1); (case s3 => exact tC ((Kd.R_reads' HO_7.out).2.2)); (case s4 => exact (Kd.R_reads' HO_7.out).2.1); rintro e w' ⟨rfl, ⟨nd, rfl⟩⟩; obtain ⟨Ao73, co73, eo73⟩ := Kd.R_slice HO_13.out; subst eo73; obtain ⟨Ao74, co74, eo74⟩ := Kd.R_slice HO_8.out; subst eo74) | (go_at_call 12; (with_reducible refine (laws_eqInt64S.calls kj15 _ _ t512 _ _ t497 false _ ?s1 ?s2 ?s3 ?s4 A65.out).mono ?_); (case s1 => exact tC ((Kd.R_reads' HO_13.out).2.2)); (case s2 => exact (Kd.R_reads' HO_13.out).2.1); (case s3 => exact tC ((Kd.R_reads' HO_8.out).2.2)); (case s4 => exact (Kd.R_reads' HO_8.out).2.1); rintro e w' ⟨rfl, ⟨nd, rfl⟩⟩))
   go_meet
   case rel => exact ⟨_, (true), tS, H', ⟨by have := HJ15.out; first | omega | exact Nat.le_refl _⟩, ⟨by (with_reducible repeat (first | apply Kd.RqA | apply Kd.RqN | apply Kd.RqD)); exact Kd.R_mono HO_7.out (fun _ hk => ⟨hk.1, ⟨hk.2.2.2.1, hk.2.2.2.2.1⟩⟩)⟩, ⟨by (with_reducible repeat (first | apply Kd.RqA | apply Kd.RqN | apply Kd.RqD)); exact Kd.R_mono HO_8.out (fun _ hk => ⟨hk.1, ⟨hk.2.2.2.1, hk.2.2.2.2.1⟩⟩)⟩, ⟨by (with_reducible repeat (first | apply Kd.RqA | apply Kd.RqN | apply Kd.RqD)); exact Kd.R_mono HO_12.out (fun _ hk => ⟨hk.1, ⟨hk.2.1, hk.2.2.2.2.1⟩⟩)⟩, ⟨by (with_reducible repeat (first | apply Kd.RqA | apply Kd.RqN | apply Kd.RqD)); exact Kd.R_mono HO_13.out (fun _ hk => ⟨hk.1, ⟨hk.2.1, hk.2.2.2.2.1⟩⟩)⟩, ⟨tG BK485.out⟩, ⟨tB⟩⟩
  clear HC55
  try clear c1
  try clear c2
  try clear c4
  try clear c4b0
  try clear c4b1
  try clear c6
  try clear c6b0
  try clear c6b1
  try clear c33
  try clear c35
  try clear c46
  try clear c49
  try clear c52
  try clear c62
  try clear c62b0
  try clear c64
  try clear c66
  try clear hcz18_0
  try clear hcz18_1
  try clear hcz27_0
  try clear hcz27_1
  try clear hfz18_0
  try clear hfz18_1
  try clear hfz27_0
  try clear hfz27_1
  obtain ⟨kq, x100_54, rfl, HA, HJ54, HO_7, HO_8, HO_12, HO_13, BK485, HB⟩ := hcut
  cases kq with
  | zero => exact absurd HA.out (by simp [laws_FnExactDivideLeft.j1])
  | succ kj54 =>
   have H := HA.out
   clear HA
   simp only [laws_FnExactDivideLeft.j1] at H
   by_cases c77 : x100_54 = true
   ·subst c77
    rw [if_pos rfl] at H
    obtain rfl := Option.some.inj H
    go_wp2
    go_ret
    exact ⟨tE, tB⟩
   replace c77 := Bool.eq_false_iff.mpr c77
   subst c77
   rw [if_neg (show ¬ (false = true) by decide)] at H
   obtain ⟨⟨t532, t533⟩, A78, H⟩ := qBd H
   (try dsimp only at H)
   obtain ⟨⟨t534, t535⟩, A79, H⟩ := qBd H
   (try dsimp only at H)
   obtain ⟨t536, A80, H⟩ := qBd H
   by_cases c81 : t536 < 0
   ·rw [if_pos c81] at H
    have c81b0 := decide_eq_true c81
    clear c81
    obtain rfl := Option.some.inj H
    obtain ⟨Ao82, co82, eo82⟩ := Kd.R_slice HO_12.out
    subst eo82
    go_wp2_with (first | ((with_reducible refine gQc (f := 13) rfl ?_); refine goesL_ (some 103) rfl rfl Try.func13 (by kernel_rfl) rfl #[.slice Ao82 t509.length co82, .int .i64 1] rfl tL ?_; (with_reducible refine (laws_markInt64S.calls kj54 (fun k_ => some k_ = (.slice Ao82 t509.length co82 : Value).ownBlock) (.slice Ao82 t509.length co82) t509 1 t532 t533 w _ ?s1 ?s2 A78.out).mono ?_); (case s1 => exact tB); (case s2 => exact Kd.R_tight rfl HO_12.out); rintro e w83 ⟨rfl, hy0, hb, hkp⟩; refine ⟨_, rfl, ?_⟩; refine qM6 (Kd.R_mono (ok' := fun k_ => some k_ ≠ (v498 : Value).ownBlock ∧ some k_ ≠ (.slice Ao82 t509.length co82 : Value).ownBlock ∧ some k_ ≠ (v513 : Value).ownBlock) (Kd.R_keptB (HO_7.out) hkp (fun k_ hk_ hs_ => (hk_.2.1) hs_)) (fun k_ hk_ => ⟨hk_.1.1, hk_.1.2.1, hk_.1.2.2⟩)) (Kd.R_mono (ok' := fun k_ => some k_ ≠ (v495 : Value).ownBlock ∧ some k_ ≠ (.slice Ao82 t509.length co82 : Value).ownBlock ∧ some k_ ≠ (v513 : Value).ownBlock) (Kd.R_keptB (HO_8.out) hkp (fun k_ hk_ hs_ => (hk_.2.1) hs_)) (fun k_ hk_ => ⟨hk_.1.1, hk_.1.2.1, hk_.1.2.2⟩)) (Kd.R_reok rfl hy0 (fun k_ e_ => HO_12.out.1 k_ e_)) (Kd.R_mono (ok' := fun k_ => some k_ ≠ (v495 : Value).ownBlock ∧ some k_ ≠ (v498 : Value).ownBlock ∧ some k_ ≠ (.slice Ao82 t509.length co82 : Value).ownBlock) (Kd.R_keptB (HO_13.out) hkp (fun k_ hk_ hs_ => (hk_.2.2) hs_)) (fun k_ hk_ => ⟨hk_.1.1, hk_.1.2.1, hk_.1.2.2⟩)) (blk_kept (tG BK485.out) hkp (fun hs_ => (fun e_ => (Kd.R_ne HO_12.out BK485.out (by decide)) e_) hs_)) hb ?_; clear HO_7 HO_8 HO_12 HO_13 BK485 HB; intro HO_7 HO_8 HO_12 HO_13 BK485 HB; (try clear hb); (try clear hkp); (try clear hy0); obtain ⟨Ao84, co84, eo84⟩ := Kd.R_slice HO_13.out; subst eo84) | ((with_reducible refine gQc (f := 13) rfl ?_); refine goesL_ (some 106) rfl rfl Try.func13 (by kernel_rfl) rfl #[.slice Ao84 t512.length co84, .int .i64 t532] rfl tL ?_; (with_reducible refine (laws_markInt64S.calls kj54 (fun k_ => some k_ = (.slice Ao84 t512.length co84 : Value).ownBlock) (.slice Ao84 t512.length co84) t512 t532 t534 t535 w _ ?s1 ?s2 A79.out).mono ?_); (case s1 => exact tB); (case s2 => exact Kd.R_tight rfl HO_13.out); rintro e w85 ⟨rfl, hy0, hb, hkp⟩; refine ⟨_, rfl, ?_⟩; refine qM6 (Kd.R_mono (ok' := fun k_ => some k_ ≠ (v498 : Value).ownBlock ∧ some k_ ≠ (.slice Ao82 t509.length co82 : Value).ownBlock ∧ some k_ ≠ (.slice Ao84 t512.length co84 : Value).ownBlock) (Kd.R_keptB (HO_7.out) hkp (fun k_ hk_ hs_ => (hk_.2.2) hs_)) (fun k_ hk_ => ⟨hk_.1.1, hk_.1.2.1, hk_.1.2.2⟩)) (Kd.R_mono (ok' := fun k_ => some k_ ≠ (v495 : Value).ownBlock ∧ some k_ ≠ (.slice Ao82 t509.length co82 : Value).ownBlock ∧ some k_ ≠ (.slice Ao84 t512.length co84 : Value).ownBlock) (Kd.R_keptB (HO_8.out) hkp (fun k_ hk_ hs_ => (hk_.2.2) hs_)) (fun k_ hk_ => ⟨hk_.1.1, hk_.1.2.1, hk_.1.2.2⟩)) (Kd.R_mono (ok' := fun k_ => some k_ ≠ (v495 : Value).ownBlock ∧ some k_ ≠ (v498 : Value).ownBlock ∧ some k_ ≠ (.slice Ao84 t512.length co84 : Value).ownBlock) (Kd.R_keptB (HO_12.out) hkp (fun k_ hk_ hs_ => (hk_.2.2) hs_)) (fun k_ hk_ => ⟨hk_.1.1, hk_.1.2.1, hk_.1.2.2⟩)) (Kd.R_reok rfl hy0 (fun k_ e_ => HO_13.out.1 k_ e_)) (blk_kept (tG BK485.out) hkp (fun hs_ => (fun e_ => (Kd.R_ne HO_13.out BK485.out (by decide)) e_) hs_)) hb ?_; clear HO_7 HO_8 HO_12 HO_13 BK485 HB; intro HO_7 HO_8 HO_12 HO_13 BK485 HB; (try clear hb); (try clear hkp); (try clear hy0)) | ((with_reducible refine gQc (f := 14) rfl ?_); refine goesL_ (some 109) rfl rfl Try.func14 (by kernel_rfl) rfl #[.slice Ao82 t533.length co82, .int .i64 1] rfl (by (try simp only [List.map_toArray, List.map_cons, List.map_nil]); first | done | (rw [show t533.length = t509.length from (Kd.R_reads' HO_12.out).1.symm] <;> rfl) | rfl | (simp only [List.length_drop, List.length_take]; rfl)) ?_; (with_reducible refine (laws_heldInt64S.calls kj54 _ _ t533 1 t536 _ ?s1 ?s2 A80.out).mono ?_); (case s1 => exact tC ((Kd.R_reads' HO_12.out).2.2)); (case s2 => rw [show t533.length = t509.length from (Kd.R_reads' HO_12.out).1.symm]; exact (Kd.R_reads' HO_12.out).2.1); rintro e w' ⟨rfl, ⟨nd, rfl⟩⟩; refine ⟨_, rfl, ?_⟩))
    go_ret
    exact ⟨tE, tB⟩
   rw [if_neg c81] at H
   have c81b0 := decide_eq_false c81
   clear c81
   obtain ⟨t537, A86, H⟩ := qBd H
   by_cases c87 : t537 < 0
   ·rw [if_pos c87] at H
    have c87b0 := decide_eq_true c87
    clear c87
    obtain rfl := Option.some.inj H
    obtain ⟨Ao88, co88, eo88⟩ := Kd.R_slice HO_12.out
    subst eo88
    go_wp2_with (first | ((with_reducible refine gQc (f := 13) rfl ?_); refine goesL_ (some 103) rfl rfl Try.func13 (by kernel_rfl) rfl #[.slice Ao88 t509.length co88, .int .i64 1] rfl tL ?_; (with_reducible refine (laws_markInt64S.calls kj54 (fun k_ => some k_ = (.slice Ao88 t509.length co88 : Value).ownBlock) (.slice Ao88 t509.length co88) t509 1 t532 t533 w _ ?s1 ?s2 A78.out).mono ?_); (case s1 => exact tB); (case s2 => exact Kd.R_tight rfl HO_12.out); rintro e w89 ⟨rfl, hy0, hb, hkp⟩; refine ⟨_, rfl, ?_⟩; refine qM6 (Kd.R_mono (ok' := fun k_ => some k_ ≠ (v498 : Value).ownBlock ∧ some k_ ≠ (.slice Ao88 t509.length co88 : Value).ownBlock ∧ some k_ ≠ (v513 : Value).ownBlock) (Kd.R_keptB (HO_7.out) hkp (fun k_ hk_ hs_ => (hk_.2.1) hs_)) (fun k_ hk_ => ⟨hk_.1.1, hk_.1.2.1, hk_.1.2.2⟩)) (Kd.R_mono (ok' := fun k_ => some k_ ≠ (v495 : Value).ownBlock ∧ some k_ ≠ (.slice Ao88 t509.length co88 : Value).ownBlock ∧ some k_ ≠ (v513 : Value).ownBlock) (Kd.R_keptB (HO_8.out) hkp (fun k_ hk_ hs_ => (hk_.2.1) hs_)) (fun k_ hk_ => ⟨hk_.1.1, hk_.1.2.1, hk_.1.2.2⟩)) (Kd.R_reok rfl hy0 (fun k_ e_ => HO_12.out.1 k_ e_)) (Kd.R_mono (ok' := fun k_ => some k_ ≠ (v495 : Value).ownBlock ∧ some k_ ≠ (v498 : Value).ownBlock ∧ some k_ ≠ (.slice Ao88 t509.length co88 : Value).ownBlock) (Kd.R_keptB (HO_13.out) hkp (fun k_ hk_ hs_ => (hk_.2.2) hs_)) (fun k_ hk_ => ⟨hk_.1.1, hk_.1.2.1, hk_.1.2.2⟩)) (blk_kept (tG BK485.out) hkp (fun hs_ => (fun e_ => (Kd.R_ne HO_12.out BK485.out (by decide)) e_) hs_)) hb ?_; clear HO_7 HO_8 HO_12 HO_13 BK485 HB; intro HO_7 HO_8 HO_12 HO_13 BK485 HB; (try clear hb); (try clear hkp); (try clear hy0); obtain ⟨Ao90, co90, eo90⟩ := Kd.R_slice HO_13.out; subst eo90) | ((with_reducible refine gQc (f := 13) rfl ?_); refine goesL_ (some 106) rfl rfl Try.func13 (by kernel_rfl) rfl #[.slice Ao90 t512.length co90, .int .i64 t532] rfl tL ?_; (with_reducible refine (laws_markInt64S.calls kj54 (fun k_ => some k_ = (.slice Ao90 t512.length co90 : Value).ownBlock) (.slice Ao90 t512.length co90) t512 t532 t534 t535 w _ ?s1 ?s2 A79.out).mono ?_); (case s1 => exact tB); (case s2 => exact Kd.R_tight rfl HO_13.out); rintro e w91 ⟨rfl, hy0, hb, hkp⟩; refine ⟨_, rfl, ?_⟩; refine qM6 (Kd.R_mono (ok' := fun k_ => some k_ ≠ (v498 : Value).ownBlock ∧ some k_ ≠ (.slice Ao88 t509.length co88 : Value).ownBlock ∧ some k_ ≠ (.slice Ao90 t512.length co90 : Value).ownBlock) (Kd.R_keptB (HO_7.out) hkp (fun k_ hk_ hs_ => (hk_.2.2) hs_)) (fun k_ hk_ => ⟨hk_.1.1, hk_.1.2.1, hk_.1.2.2⟩)) (Kd.R_mono (ok' := fun k_ => some k_ ≠ (v495 : Value).ownBlock ∧ some k_ ≠ (.slice Ao88 t509.length co88 : Value).ownBlock ∧ some k_ ≠ (.slice Ao90 t512.length co90 : Value).ownBlock) (Kd.R_keptB (HO_8.out) hkp (fun k_ hk_ hs_ => (hk_.2.2) hs_)) (fun k_ hk_ => ⟨hk_.1.1, hk_.1.2.1, hk_.1.2.2⟩)) (Kd.R_mono (ok' := fun k_ => some k_ ≠ (v495 : Value).ownBlock ∧ some k_ ≠ (v498 : Value).ownBlock ∧ some k_ ≠ (.slice Ao90 t512.length co90 : Value).ownBlock) (Kd.R_keptB (HO_12.out) hkp (fun k_ hk_ hs_ => (hk_.2.2) hs_)) (fun k_ hk_ => ⟨hk_.1.1, hk_.1.2.1, hk_.1.2.2⟩)) (Kd.R_reok rfl hy0 (fun k_ e_ => HO_13.out.1 k_ e_)) (blk_kept (tG BK485.out) hkp (fun hs_ => (fun e_ => (Kd.R_ne HO_13.out BK485.out (by decide)) e_) hs_)) hb ?_; clear HO_7 HO_8 HO_12 HO_13 BK485 HB; intro HO_7 HO_8 HO_12 HO_13 BK485 HB; (try clear hb); (try clear hkp); (try clear hy0)) | ((with_reducible refine gQc (f := 14) rfl ?_); refine goesL_ (some 109) rfl rfl Try.func14 (by kernel_rfl) rfl #[.slice Ao88 t533.length co88, .int .i64 1] rfl (by (try simp only [List.map_toArray, List.map_cons, List.map_nil]); first | done | (rw [show t533.length = t509.length from (Kd.R_reads' HO_12.out).1.symm] <;> rfl) | rfl | (simp only [List.length_drop, List.length_take]; rfl)) ?_; (with_reducible refine (laws_heldInt64S.calls kj54 _ _ t533 1 t536 _ ?s1 ?s2 A80.out).mono ?_); (case s1 => exact tC ((Kd.R_reads' HO_12.out).2.2)); (case s2 => rw [show t533.length = t509.length from (Kd.R_reads' HO_12.out).1.symm]; exact (Kd.R_reads' HO_12.out).2.1); rintro e w' ⟨rfl, ⟨nd, rfl⟩⟩; refine ⟨_, rfl, ?_⟩) | ((with_reducible refine gQc (f := 14) rfl ?_); refine goesL_ (some 114) rfl rfl Try.func14 (by kernel_rfl) rfl #[.slice Ao90 t535.length co90, .int .i64 t536] rfl (by (try simp only [List.map_toArray, List.map_cons, List.map_nil]); first | done | (rw [show t535.length = t512.length from (Kd.R_reads' HO_13.out).1.symm] <;> rfl) | rfl | (simp only [List.length_drop, List.length_take]; rfl)) ?_; (with_reducible refine (laws_heldInt64S.calls kj54 _ _ t535 t536 t537 _ ?s1 ?s2 A86.out).mono ?_); (case s1 => exact tC ((Kd.R_reads' HO_13.out).2.2)); (case s2 => rw [show t535.length = t512.length from (Kd.R_reads' HO_13.out).1.symm]; exact (Kd.R_reads' HO_13.out).2.1); rintro e w' ⟨rfl, ⟨nd, rfl⟩⟩; refine ⟨_, rfl, ?_⟩))
    go_ret
    exact ⟨tE, tB⟩
   rw [if_neg c87] at H
   have c87b0 := decide_eq_false c87
   clear c87
   by_cases c92 : t537 = t534
   rotate_left
   ·rw [if_neg c92] at H
    have c92b0 := beq_eq_false_iff_ne.mpr c92
    have c92b1 := bne_iff_ne.mpr c92
    obtain rfl := Option.some.inj H
    obtain ⟨Ao129, co129, eo129⟩ := Kd.R_slice HO_12.out
    subst eo129
    go_wp2_with (first | ((with_reducible refine gQc (f := 13) rfl ?_); refine goesL_ (some 103) rfl rfl Try.func13 (by kernel_rfl) rfl #[.slice Ao129 t509.length co129, .int .i64 1] rfl tL ?_; (with_reducible refine (laws_markInt64S.calls kj54 (fun k_ => some k_ = (.slice Ao129 t509.length co129 : Value).ownBlock) (.slice Ao129 t509.length co129) t509 1 t532 t533 w _ ?s1 ?s2 A78.out).mono ?_); (case s1 => exact tB); (case s2 => exact Kd.R_tight rfl HO_12.out); rintro e w130 ⟨rfl, hy0, hb, hkp⟩; refine ⟨_, rfl, ?_⟩; refine qM6 (Kd.R_mono (ok' := fun k_ => some k_ ≠ (v498 : Value).ownBlock ∧ some k_ ≠ (.slice Ao129 t509.length co129 : Value).ownBlock ∧ some k_ ≠ (v513 : Value).ownBlock) (Kd.R_keptB (HO_7.out) hkp (fun k_ hk_ hs_ => (hk_.2.1) hs_)) (fun k_ hk_ => ⟨hk_.1.1, hk_.1.2.1, hk_.1.2.2⟩)) (Kd.R_mono (ok' := fun k_ => some k_ ≠ (v495 : Value).ownBlock ∧ some k_ ≠ (.slice Ao129 t509.length co129 : Value).ownBlock ∧ some k_ ≠ (v513 : Value).ownBlock) (Kd.R_keptB (HO_8.out) hkp (fun k_ hk_ hs_ => (hk_.2.1) hs_)) (fun k_ hk_ => ⟨hk_.1.1, hk_.1.2.1, hk_.1.2.2⟩)) (Kd.R_reok rfl hy0 (fun k_ e_ => HO_12.out.1 k_ e_)) (Kd.R_mono (ok' := fun k_ => some k_ ≠ (v495 : Value).ownBlock ∧ some k_ ≠ (v498 : Value).ownBlock ∧ some k_ ≠ (.slice Ao129 t509.length co129 : Value).ownBlock) (Kd.R_keptB (HO_13.out) hkp (fun k_ hk_ hs_ => (hk_.2.2) hs_)) (fun k_ hk_ => ⟨hk_.1.1, hk_.1.2.1, hk_.1.2.2⟩)) (blk_kept (tG BK485.out) hkp (fun hs_ => (fun e_ => (Kd.R_ne HO_12.out BK485.out (by decide)) e_) hs_)) hb ?_; clear HO_7 HO_8 HO_12 HO_13 BK485 HB; intro HO_7 HO_8 HO_12 HO_13 BK485 HB; (try clear hb); (try clear hkp); (try clear hy0); obtain ⟨Ao131, co131, eo131⟩ := Kd.R_slice HO_13.out; subst eo131) | ((with_reducible refine gQc (f := 13) rfl ?_); refine goesL_ (some 106) rfl rfl Try.func13 (by kernel_rfl) rfl #[.slice Ao131 t512.length co131, .int .i64 t532] rfl tL ?_; (with_reducible refine (laws_markInt64S.calls kj54 (fun k_ => some k_ = (.slice Ao131 t512.length co131 : Value).ownBlock) (.slice Ao131 t512.length co131) t512 t532 t534 t535 w _ ?s1 ?s2 A79.out).mono ?_); (case s1 => exact tB); (case s2 => exact Kd.R_tight rfl HO_13.out); rintro e w132 ⟨rfl, hy0, hb, hkp⟩; refine ⟨_, rfl, ?_⟩; refine qM6 (Kd.R_mono (ok' := fun k_ => some k_ ≠ (v498 : Value).ownBlock ∧ some k_ ≠ (.slice Ao129 t509.length co129 : Value).ownBlock ∧ some k_ ≠ (.slice Ao131 t512.length co131 : Value).ownBlock) (Kd.R_keptB (HO_7.out) hkp (fun k_ hk_ hs_ => (hk_.2.2) hs_)) (fun k_ hk_ => ⟨hk_.1.1, hk_.1.2.1, hk_.1.2.2⟩)) (Kd.R_mono (ok' := fun k_ => some k_ ≠ (v495 : Value).ownBlock ∧ some k_ ≠ (.slice Ao129 t509.length co129 : Value).ownBlock ∧ some k_ ≠ (.slice Ao131 t512.length co131 : Value).ownBlock) (Kd.R_keptB (HO_8.out) hkp (fun k_ hk_ hs_ => (hk_.2.2) hs_)) (fun k_ hk_ => ⟨hk_.1.1, hk_.1.2.1, hk_.1.2.2⟩)) (Kd.R_mono (ok' := fun k_ => some k_ ≠ (v495 : Value).ownBlock ∧ some k_ ≠ (v498 : Value).ownBlock ∧ some k_ ≠ (.slice Ao131 t512.length co131 : Value).ownBlock) (Kd.R_keptB (HO_12.out) hkp (fun k_ hk_ hs_ => (hk_.2.2) hs_)) (fun k_ hk_ => ⟨hk_.1.1, hk_.1.2.1, hk_.1.2.2⟩)) (Kd.R_reok rfl hy0 (fun k_ e_ => HO_13.out.1 k_ e_)) (blk_kept (tG BK485.out) hkp (fun hs_ => (fun e_ => (Kd.R_ne HO_13.out BK485.out (by decide)) e_) hs_)) hb ?_; clear HO_7 HO_8 HO_12 HO_13 BK485 HB; intro HO_7 HO_8 HO_12 HO_13 BK485 HB; (try clear hb); (try clear hkp); (try clear hy0)) | ((with_reducible refine gQc (f := 14) rfl ?_); refine goesL_ (some 109) rfl rfl Try.func14 (by kernel_rfl) rfl #[.slice Ao129 t533.length co129, .int .i64 1] rfl (by (try simp only [List.map_toArray, List.map_cons, List.map_nil]); first | done | (rw [show t533.length = t509.length from (Kd.R_reads' HO_12.out).1.symm] <;> rfl) | rfl | (simp only [List.length_drop, List.length_take]; rfl)) ?_; (with_reducible refine (laws_heldInt64S.calls kj54 _ _ t533 1 t536 _ ?s1 ?s2 A80.out).mono ?_); (case s1 => exact tC ((Kd.R_reads' HO_12.out).2.2)); (case s2 => rw [show t533.length = t509.length from (Kd.R_reads' HO_12.out).1.symm]; exact (Kd.R_reads' HO_12.out).2.1); rintro e w' ⟨rfl, ⟨nd, rfl⟩⟩; refine ⟨_, rfl, ?_⟩) | ((with_reducible refine gQc (f := 14) rfl ?_); refine goesL_ (some 114) rfl rfl Try.func14 (by kernel_rfl) rfl #[.slice Ao131 t535.length co131, .int .i64 t536] rfl (by (try simp only [List.map_toArray, List.map_cons, List.map_nil]); first | done | (rw [show t535.length = t512.length from (Kd.R_reads' HO_13.out).1.symm] <;> rfl) | rfl | (simp only [List.length_drop, List.length_take]; rfl)) ?_; (with_reducible refine (laws_heldInt64S.calls kj54 _ _ t535 t536 t537 _ ?s1 ?s2 A86.out).mono ?_); (case s1 => exact tC ((Kd.R_reads' HO_13.out).2.2)); (case s2 => rw [show t535.length = t512.length from (Kd.R_reads' HO_13.out).1.symm]; exact (Kd.R_reads' HO_13.out).2.1); rintro e w' ⟨rfl, ⟨nd, rfl⟩⟩; refine ⟨_, rfl, ?_⟩))
    go_ret
    exact ⟨tE, tB⟩
   rw [if_pos c92] at H
   have c92b0 := beq_iff_eq.mpr c92
   have c92b1 := bne_eq_false_iff_eq.mpr c92
   clear c92
   obtain ⟨⟨t538, t539⟩, A93, H⟩ := qBd H
   (try dsimp only at H)
   obtain ⟨t540, A94, H⟩ := qBd H
   obtain ⟨t543, A95, H⟩ := qBd H
   obtain ⟨⟨t546, t549, t552⟩, A96, H⟩ := qBd H
   (try dsimp only at H)
   have HC97 := Aq.mk H
   clear H
   obtain ⟨Ao98, co98, eo98⟩ := Kd.R_slice HO_12.out
   subst eo98
   go_upto_region 33 with (first | ((with_reducible refine gQc (f := 13) rfl ?_); refine goesL_ (some 103) rfl rfl Try.func13 (by kernel_rfl) rfl #[.slice Ao98 t509.length co98, .int .i64 1] rfl tL ?_; (with_reducible refine (laws_markInt64S.calls kj54 (fun k_ => some k_ = (.slice Ao98 t509.length co98 : Value).ownBlock) (.slice Ao98 t509.length co98) t509 1 t532 t533 w _ ?s1 ?s2 A78.out).mono ?_); (case s1 => exact tB); (case s2 => exact Kd.R_tight rfl HO_12.out); rintro e w99 ⟨rfl, hy0, hb, hkp⟩; refine ⟨_, rfl, ?_⟩; refine qM6 (Kd.R_mono (ok' := fun k_ => some k_ ≠ (v498 : Value).ownBlock ∧ some k_ ≠ (.slice Ao98 t509.length co98 : Value).ownBlock ∧ some k_ ≠ (v513 : Value).ownBlock) (Kd.R_keptB (HO_7.out) hkp (fun k_ hk_ hs_ => (hk_.2.1) hs_)) (fun k_ hk_ => ⟨hk_.1.1, hk_.1.2.1, hk_.1.2.2⟩)) (Kd.R_mono (ok' := fun k_ => some k_ ≠ (v495 : Value).ownBlock ∧ some k_ ≠ (.slice Ao98 t509.length co98 : Value).ownBlock ∧ some k_ ≠ (v513 : Value).ownBlock) (Kd.R_keptB (HO_8.out) hkp (fun k_ hk_ hs_ => (hk_.2.1) hs_)) (fun k_ hk_ => ⟨hk_.1.1, hk_.1.2.1, hk_.1.2.2⟩)) (Kd.R_reok rfl hy0 (fun k_ e_ => HO_12.out.1 k_ e_)) (Kd.R_mono (ok' := fun k_ => some k_ ≠ (v495 : Value).ownBlock ∧ some k_ ≠ (v498 : Value).ownBlock ∧ some k_ ≠ (.slice Ao98 t509.length co98 : Value).ownBlock) (Kd.R_keptB (HO_13.out) hkp (fun k_ hk_ hs_ => (hk_.2.2) hs_)) (fun k_ hk_ => ⟨hk_.1.1, hk_.1.2.1, hk_.1.2.2⟩)) (blk_kept (tG BK485.out) hkp (fun hs_ => (fun e_ => (Kd.R_ne HO_12.out BK485.out (by decide)) e_) hs_)) hb ?_; clear HO_7 HO_8 HO_12 HO_13 BK485 HB; intro HO_7 HO_8 HO_12 HO_13 BK485 HB; (try clear hb); (try clear hkp); (try clear hy0); obtain ⟨Ao100, co100, eo100⟩ := Kd.R_slice HO_13.out; subst eo100) | ((with_reducible refine gQc (f := 13) rfl ?_); refine goesL_ (some 106) rfl rfl Try.func13 (by kernel_rfl) rfl #[.slice Ao100 t512.length co100, .int .i64 t532] rfl tL ?_; (with_reducible refine (laws_markInt64S.calls kj54 (fun k_ => some k_ = (.slice Ao100 t512.length co100 : Value).ownBlock) (.slice Ao100 t512.length co100) t512 t532 t534 t535 w _ ?s1 ?s2 A79.out).mono ?_); (case s1 => exact tB); (case s2 => exact Kd.R_tight rfl HO_13.out); rintro e w101 ⟨rfl, hy0, hb, hkp⟩; refine ⟨_, rfl, ?_⟩; refine qM6 (Kd.R_mono (ok' := fun k_ => some k_ ≠ (v498 : Value).ownBlock ∧ some k_ ≠ (.slice Ao98 t509.length co98 : Value).ownBlock ∧ some k_ ≠ (.slice Ao100 t512.length co100 : Value).ownBlock) (Kd.R_keptB (HO_7.out) hkp (fun k_ hk_ hs_ => (hk_.2.2) hs_)) (fun k_ hk_ => ⟨hk_.1.1, hk_.1.2.1, hk_.1.2.2⟩)) (Kd.R_mono (ok' := fun k_ => some k_ ≠ (v495 : Value).ownBlock ∧ some k_ ≠ (.slice Ao98 t509.length co98 : Value).ownBlock ∧ some k_ ≠ (.slice Ao100 t512.length co100 : Value).ownBlock) (Kd.R_keptB (HO_8.out) hkp (fun k_ hk_ hs_ => (hk_.2.2) hs_)) (fun k_ hk_ => ⟨hk_.1.1, hk_.1.2.1, hk_.1.2.2⟩)) (Kd.R_mono (ok' := fun k_ => some k_ ≠ (v495 : Value).ownBlock ∧ some k_ ≠ (v498 : Value).ownBlock ∧ some k_ ≠ (.slice Ao100 t512.length co100 : Value).ownBlock) (Kd.R_keptB (HO_12.out) hkp (fun k_ hk_ hs_ => (hk_.2.2) hs_)) (fun k_ hk_ => ⟨hk_.1.1, hk_.1.2.1, hk_.1.2.2⟩)) (Kd.R_reok rfl hy0 (fun k_ e_ => HO_13.out.1 k_ e_)) (blk_kept (tG BK485.out) hkp (fun hs_ => (fun e_ => (Kd.R_ne HO_13.out BK485.out (by decide)) e_) hs_)) hb ?_; clear HO_7 HO_8 HO_12 HO_13 BK485 HB; intro HO_7 HO_8 HO_12 HO_13 BK485 HB; (try clear hb); (try clear hkp); (try clear hy0)) | ((with_reducible refine gQc (f := 14) rfl ?_); refine goesL_ (some 109) rfl rfl Try.func14 (by kernel_rfl) rfl #[.slice Ao98 t533.length co98, .int .i64 1] rfl (by (try simp only [List.map_toArray, List.map_cons, List.map_nil]); first | done | (rw [show t533.length = t509.length from (Kd.R_reads' HO_12.out).1.symm] <;> rfl) | rfl | (simp only [List.length_drop, List.length_take]; rfl)) ?_; (with_reducible refine (laws_heldInt64S.calls kj54 _ _ t533 1 t536 _ ?s1 ?s2 A80.out).mono ?_); (case s1 => exact tC ((Kd.R_reads' HO_12.out).2.2)); (case s2 => rw [show t533.length = t509.length from (Kd.R_reads' HO_12.out).1.symm]; exact (Kd.R_reads' HO_12.out).2.1); rintro e w' ⟨rfl, ⟨nd, rfl⟩⟩; refine ⟨_, rfl, ?_⟩) | ((with_reducible refine gQc (f := 14) rfl ?_); refine goesL_ (some 114) rfl rfl Try.func14 (by kernel_rfl) rfl #[.slice Ao100 t535.length co100, .int .i64 t536] rfl (by (try simp only [List.map_toArray, List.map_cons, List.map_nil]); first | done | (rw [show t535.length = t512.length from (Kd.R_reads' HO_13.out).1.symm] <;> rfl) | rfl | (simp only [List.length_drop, List.length_take]; rfl)) ?_; (with_reducible refine (laws_heldInt64S.calls kj54 _ _ t535 t536 t537 _ ?s1 ?s2 A86.out).mono ?_); (case s1 => exact tC ((Kd.R_reads' HO_13.out).2.2)); (case s2 => rw [show t535.length = t512.length from (Kd.R_reads' HO_13.out).1.symm]; exact (Kd.R_reads' HO_13.out).2.1); rintro e w' ⟨rfl, ⟨nd, rfl⟩⟩; refine ⟨_, rfl, ?_⟩; have hcz102_0 : w101.cell? ⟨gb485, 0, none⟩ = some (.int .i64 a0_0) := (kQC BK485.out 0).trans rfl; have hcz102_1 : w101.cell? ⟨gb485, 1, none⟩ = some (.int .i64 a0_1) := (kQC BK485.out 1).trans rfl; have hfz102_0 := kQF BK485.out 0; have hfz102_1 := kQF BK485.out 1) | ((with_reducible refine gQc (f := 9) rfl ?_); refine goesL_ (some 122) rfl rfl Try.func9 (by kernel_rfl) rfl #[.agg #[.int .i64 a0_0, .int .i64 a0_1]] rfl tL ?_; (with_reducible refine (laws_toField.calls a0_0 a0_1 t538 t539 _ A93.out).mono ?_); rintro e w103 ⟨rfl, hb⟩; refine ⟨_, rfl, ?_⟩; refine qM6 (Kd.R_below (tR HO_7.out) hb) (Kd.R_below (tR HO_8.out) hb) (Kd.R_below (tR HO_12.out) hb) (Kd.R_below (tR HO_13.out) hb) (tQ BK485.out hb) (bQT tB hb) ?_; clear HO_7 HO_8 HO_12 HO_13 BK485 HB; intro HO_7 HO_8 HO_12 HO_13 BK485 HB; (try clear hb); (try clear hb2); (try clear hk); (try clear hi)) | ((with_reducible refine gQc (f := 10) rfl ?_); refine goesL_ (some 124) rfl rfl Try.func10 (by kernel_rfl) rfl #[.slice A1 l1.length c1] rfl tL ?_; (with_reducible refine (laws_toInt64S.calls kj54 _ _ l1 t540 _ ?s1 ?s2 A94.out).mono ?_); (case s1 => exact tC ((Kd.C_below HR1.out HB.out))); (case s2 => exact HC1.out); rintro e w104 ⟨v541, rfl, ho0, hb⟩; refine ⟨_, rfl, ?_⟩; refine qM7 (Kd.R_elder' (tR HO_7.out) (Kd.R_base ho0) hb) (Kd.R_elder' (tR HO_8.out) (Kd.R_base ho0) hb) (Kd.R_elder' (tR HO_12.out) (Kd.R_base ho0) hb) (Kd.R_elder' (tR HO_13.out) (Kd.R_base ho0) hb) (Kd.R_lower (Kd.R_new' (Kd.R_new' (Kd.R_new' (Kd.R_new' ho0 (Kd.R_lt (tR HO_7.out))) (Kd.R_lt (tR HO_8.out))) (Kd.R_lt (tR HO_12.out))) (Kd.R_lt (tR HO_13.out))) (bQZ tB)) (tQ BK485.out hb) (bQT tB hb) ?_; clear HO_7 HO_8 HO_12 HO_13 BK485 HB; intro HO_7 HO_8 HO_12 HO_13 HO542 BK485 HB; (try clear hb); (try clear hb2); (try clear hk); (try clear hi); (try clear ho0)) | ((with_reducible refine gQc (f := 10) rfl ?_); refine goesL_ (some 126) rfl rfl Try.func10 (by kernel_rfl) rfl #[.slice A2 l2.length c2] rfl tL ?_; (with_reducible refine (laws_toInt64S.calls kj54 _ _ l2 t543 _ ?s1 ?s2 A95.out).mono ?_); (case s1 => exact tC ((Kd.C_below HR2.out HB.out))); (case s2 => exact HC2.out); rintro e w105 ⟨v544, rfl, ho0, hb⟩; refine ⟨_, rfl, ?_⟩; refine qM8 (Kd.R_elder' (tR HO_7.out) (Kd.R_base ho0) hb) (Kd.R_elder' (tR HO_8.out) (Kd.R_base ho0) hb) (Kd.R_elder' (tR HO_12.out) (Kd.R_base ho0) hb) (Kd.R_elder' (tR HO_13.out) (Kd.R_base ho0) hb) (Kd.R_elder' (tR HO542.out) (Kd.R_base ho0) hb) (Kd.R_lower (Kd.R_new' (Kd.R_new' (Kd.R_new' (Kd.R_new' (Kd.R_new' ho0 (Kd.R_lt (tR HO_7.out))) (Kd.R_lt (tR HO_8.out))) (Kd.R_lt (tR HO_12.out))) (Kd.R_lt (tR HO_13.out))) (Kd.R_lt (tR HO542.out))) (bQZ tB)) (tQ BK485.out hb) (bQT tB hb) ?_; clear HO_7 HO_8 HO_12 HO_13 HO542 BK485 HB; intro HO_7 HO_8 HO_12 HO_13 HO542 HO545 BK485 HB; (try clear hb); (try clear hb2); (try clear hk); (try clear hi); (try clear ho0); obtain ⟨Ao106, co106, eo106⟩ := Kd.R_slice HO542.out; subst eo106; obtain ⟨Ao107, co107, eo107⟩ := Kd.R_slice HO545.out; subst eo107) | ((with_reducible refine gQc (f := 16) rfl ?_); refine goesL_ (some 127) rfl rfl Try.func16 (by kernel_rfl) rfl #[.agg #[.int .i64 t538, .int .i64 t539], .slice Ao106 t540.length co106, .slice Ao107 t543.length co107] rfl tL ?_; (with_reducible refine (impl_DivideLeft.calls kj54 t538 t539 _ _ t540 _ _ t543 t546 t549 t552 _ ?s1 ?s2 ?s3 ?s4 A96.out).mono ?_); (case s1 => exact tC ((Kd.R_reads' HO542.out).2.2)); (case s2 => exact (Kd.R_reads' HO542.out).2.1); (case s3 => exact tC ((Kd.R_reads' HO545.out).2.2)); (case s4 => exact (Kd.R_reads' HO545.out).2.1); rintro e w108 ⟨v547, v550, rfl, ho0, ho1, hb⟩; refine ⟨_, rfl, ?_⟩; refine qM10 (Kd.R_mono (Kd.R_told (Kd.R_told (Kd.R_old (tR HO_7.out) hb) (Kd.R_base ho0)) (Kd.R_base ho1)) (fun _ h_ => h_.1)) (Kd.R_mono (Kd.R_told (Kd.R_told (Kd.R_old (tR HO_8.out) hb) (Kd.R_base ho0)) (Kd.R_base ho1)) (fun _ h_ => h_.1)) (Kd.R_mono (Kd.R_told (Kd.R_told (Kd.R_old (tR HO_12.out) hb) (Kd.R_base ho0)) (Kd.R_base ho1)) (fun _ h_ => h_.1)) (Kd.R_mono (Kd.R_told (Kd.R_told (Kd.R_old (tR HO_13.out) hb) (Kd.R_base ho0)) (Kd.R_base ho1)) (fun _ h_ => h_.1)) (Kd.R_mono (Kd.R_told (Kd.R_told (Kd.R_old (tR HO542.out) hb) (Kd.R_base ho0)) (Kd.R_base ho1)) (fun _ h_ => h_.1)) (Kd.R_mono (Kd.R_told (Kd.R_told (Kd.R_old (tR HO545.out) hb) (Kd.R_base ho0)) (Kd.R_base ho1)) (fun _ h_ => h_.1)) (Kd.R_lower (Kd.R_new' (Kd.R_new' (Kd.R_new' (Kd.R_new' (Kd.R_new' (Kd.R_new' ho0 (Kd.R_lt (tR HO_7.out))) (Kd.R_lt (tR HO_8.out))) (Kd.R_lt (tR HO_12.out))) (Kd.R_lt (tR HO_13.out))) (Kd.R_lt (tR HO542.out))) (Kd.R_lt (tR HO545.out))) (bQZ tB)) (Kd.R_lower (Kd.R_new' (Kd.R_new' (Kd.R_new' (Kd.R_new' (Kd.R_new' (Kd.R_new' ho1 (Kd.R_lt (tR HO_7.out))) (Kd.R_lt (tR HO_8.out))) (Kd.R_lt (tR HO_12.out))) (Kd.R_lt (tR HO_13.out))) (Kd.R_lt (tR HO542.out))) (Kd.R_lt (tR HO545.out))) (bQZ tB)) (tQ BK485.out hb) (bQT tB hb) ?_; clear HO_7 HO_8 HO_12 HO_13 HO542 HO545 BK485 HB; intro HO_7 HO_8 HO_12 HO_13 HO542 HO545 HO548 HO551 BK485 HB; (try clear hb); (try clear hb2); (try clear hk); (try clear hi); (try clear ho0); (try clear ho1)))
   (try simp only [Act.put, qSa, qSb, qSc])
   go_cut [145] (fun v145 wc => ∃ (kq : Nat) (x145_96 : Bool), v145 = .bool x145_96 ∧ Aq (laws_FnExactDivideLeft.j2 kq t533 t535 t534 x145_96 = some r) ∧ Aq (kq ≤ kj54) ∧ Aq (Kd.R (Kd.int .i64) 2 wc w.heap.size (fun k_ => some k_ ≠ ((.slice Ao100 t512.length co100) : Value).ownBlock) (.slice Ao98 t509.length co98) t533) ∧ Aq (Kd.R (Kd.int .i64) 2 wc w.heap.size (fun k_ => some k_ ≠ ((.slice Ao98 t509.length co98) : Value).ownBlock) (.slice Ao100 t512.length co100) t535) ∧ Aq (wc.heap[gb485]? = some (.cells #[.int .i64 a0_0, .int .i64 a0_1] 23 (0, 0))) ∧ Aq (Below w.heap.size w wc))
   case first =>
    have H := HC97.out
    clear HC97
    obtain ⟨t553, A109, H⟩ := qBd H
    by_cases c110 : t553 = true
    rotate_left
    ·replace c110 := Bool.eq_false_iff.mpr c110
     subst c110
     rw [if_neg (show ¬ (false = true) by decide)] at H
     replace H' := Aq.mk H
     clear H
     obtain ⟨Ao121, co121, eo121⟩ := Kd.R_slice HO548.out
     subst eo121
     obtain ⟨Ao122, co122, eo122⟩ := Kd.R_slice HO_7.out
     subst eo122
     go_wp2_with (first | ((with_reducible refine gQc (f := 12) rfl ?_); refine goesL_ (some 133) rfl rfl Try.func12 (by kernel_rfl) rfl #[.slice Ao121 t546.length co121, .slice Ao122 t494.length co122] rfl tL ?_; (with_reducible refine (laws_eqInt64S.calls kj54 _ _ t546 _ _ t494 false _ ?s1 ?s2 ?s3 ?s4 A109.out).mono ?_); (case s1 => exact tC ((Kd.R_reads' HO548.out).2.2)); (case s2 => exact (Kd.R_reads' HO548.out).2.1); (case s3 => exact tC ((Kd.R_reads' HO_7.out).2.2)); (case s4 => exact (Kd.R_reads' HO_7.out).2.1); rintro e w' ⟨rfl, ⟨nd, rfl⟩⟩; refine ⟨_, rfl, ?_⟩))
     go_meet
     case rel => exact ⟨_, (true), tS, H', ⟨by have := HJ15.out; have := HJ54.out; first | omega | exact Nat.le_refl _⟩, ⟨by (with_reducible repeat (first | apply Kd.RqA | apply Kd.RqN | apply Kd.RqD)); exact Kd.R_mono HO_12.out (fun _ hk => hk.1.1.1.1.2.2)⟩, ⟨by (with_reducible repeat (first | apply Kd.RqA | apply Kd.RqN | apply Kd.RqD)); exact Kd.R_mono HO_13.out (fun _ hk => hk.1.1.1.1.2.2)⟩, ⟨tG BK485.out⟩, ⟨tB⟩⟩
    subst c110
    rw [if_pos rfl] at H
    obtain ⟨t554, A111, H⟩ := qBd H
    by_cases c112 : t554 = true
    ·subst c112
     rw [if_pos rfl] at H
     replace H' := Aq.mk H
     clear H
     obtain ⟨Ao113, co113, eo113⟩ := Kd.R_slice HO548.out
     subst eo113
     obtain ⟨Ao114, co114, eo114⟩ := Kd.R_slice HO_7.out
     subst eo114
     go_wp2_with (first | ((with_reducible refine gQc (f := 12) rfl ?_); refine goesL_ (some 133) rfl rfl Try.func12 (by kernel_rfl) rfl #[.slice Ao113 t546.length co113, .slice Ao114 t494.length co114] rfl tL ?_; (with_reducible refine (laws_eqInt64S.calls kj54 _ _ t546 _ _ t494 true _ ?s1 ?s2 ?s3 ?s4 A109.out).mono ?_); (case s1 => exact tC ((Kd.R_reads' HO548.out).2.2)); (case s2 => exact (Kd.R_reads' HO548.out).2.1); (case s3 => exact tC ((Kd.R_reads' HO_7.out).2.2)); (case s4 => exact (Kd.R_reads' HO_7.out).2.1); rintro e w' ⟨rfl, ⟨nd, rfl⟩⟩; refine ⟨_, rfl, ?_⟩; obtain ⟨Ao115, co115, eo115⟩ := Kd.R_slice HO551.out; subst eo115; obtain ⟨Ao116, co116, eo116⟩ := Kd.R_slice HO_8.out; subst eo116) | (go_at_call 12; (with_reducible refine (laws_eqInt64S.calls kj54 _ _ t549 _ _ t497 true _ ?s1 ?s2 ?s3 ?s4 A111.out).mono ?_); (case s1 => exact tC ((Kd.R_reads' HO551.out).2.2)); (case s2 => exact (Kd.R_reads' HO551.out).2.1); (case s3 => exact tC ((Kd.R_reads' HO_8.out).2.2)); (case s4 => exact (Kd.R_reads' HO_8.out).2.1); rintro e w' ⟨rfl, ⟨nd, rfl⟩⟩))
     go_meet
     case rel => exact ⟨_, ((t552 != t500)), tS, H', ⟨by have := HJ15.out; have := HJ54.out; first | omega | exact Nat.le_refl _⟩, ⟨by (with_reducible repeat (first | apply Kd.RqA | apply Kd.RqN | apply Kd.RqD)); exact Kd.R_mono HO_12.out (fun _ hk => hk.1.1.1.1.2.2)⟩, ⟨by (with_reducible repeat (first | apply Kd.RqA | apply Kd.RqN | apply Kd.RqD)); exact Kd.R_mono HO_13.out (fun _ hk => hk.1.1.1.1.2.2)⟩, ⟨tG BK485.out⟩, ⟨tB⟩⟩
    replace c112 := Bool.eq_false_iff.mpr c112
    subst c112
    rw [if_neg (show ¬ (false = true) by decide)] at H
    replace H' := Aq.mk H
    clear H
    obtain ⟨Ao117, co117, eo117⟩ := Kd.R_slice HO548.out
    subst eo117
    obtain ⟨Ao118, co118, eo118⟩ := Kd.R_slice HO_7.out
    subst eo118
    go_wp2_with (first | ((with_reducible refine gQc (f := 12) rfl ?_); refine goesL_ (some 133) rfl rfl Try.func12 (by kernel_rfl) rfl #[.slice Ao117 t546.length co117, .slice Ao118 t494.length co118] rfl tL ?_; (with_reducible refine (laws_eqInt64S.calls kj54 _ _ t546 _ _ t494 true _ ?s1 ?s2 ?s3 ?s4 A109.out).mono ?_); (case s1 => exact tC ((Kd.R_reads' HO548.out).2.2)); (case s2 => exact (Kd.R_reads' HO548.out).2.1); (case s3 => exact tC ((Kd.R_reads' HO_7.out).2.2)); (case s4 => exact (Kd.R_reads' HO_7.out).2.1); rintro e w' ⟨rfl, ⟨nd, rfl⟩⟩; refine ⟨_, rfl, ?_⟩; obtain ⟨Ao119, co119, eo119⟩ := Kd.R_slice HO551.out; subst eo119; obtain ⟨Ao120, co120, eo120⟩ := Kd.R_slice HO_8.out; subst eo120) | (go_at_call 12; (with_reducible refine (laws_eqInt64S.calls kj54 _ _ t549 _ _ t497 false _ ?s1 ?s2 ?s3 ?s4 A111.out).mono ?_); (case s1 => exact tC ((Kd.R_reads' HO551.out).2.2)); (case s2 => exact (Kd.R_reads' HO551.out).2.1); (case s3 => exact tC ((Kd.R_reads' HO_8.out).2.2)); (case s4 => exact (Kd.R_reads' HO_8.out).2.1); rintro e w' ⟨rfl, ⟨nd, rfl⟩⟩))
    go_meet
    case rel => exact ⟨_, (true), tS, H', ⟨by have := HJ15.out; have := HJ54.out; first | omega | exact Nat.le_refl _⟩, ⟨by (with_reducible repeat (first | apply Kd.RqA | apply Kd.RqN | apply Kd.RqD)); exact Kd.R_mono HO_12.out (fun _ hk => hk.1.1.1.1.2.2)⟩, ⟨by (with_reducible repeat (first | apply Kd.RqA | apply Kd.RqN | apply Kd.RqD)); exact Kd.R_mono HO_13.out (fun _ hk => hk.1.1.1.1.2.2)⟩, ⟨tG BK485.out⟩, ⟨tB⟩⟩
   clear HC97
   try clear c1
   try clear c2
   try clear c4
   try clear c4b0
   try clear c4b1
   try clear c6
   try clear c6b0
   try clear c6b1
   try clear c33
   try clear c35
   try clear c46
   try clear c49
   try clear c52
   try clear c62
   try clear c62b0
   try clear c64
   try clear c66
   try clear c77
   try clear c81
   try clear c81b0
   try clear c87
   try clear c87b0
   try clear c92
   try clear c92b0
   try clear c92b1
   try clear c110
   try clear c112
   try clear hcz102_0
   try clear hcz102_1
   try clear hcz18_0
   try clear hcz18_1
   try clear hcz27_0
   try clear hcz27_1
   try clear hfz102_0
   try clear hfz102_1
   try clear hfz18_0
   try clear hfz18_1
   try clear hfz27_0
   try clear hfz27_1
   obtain ⟨kq, x145_96, rfl, HA, HJ96, HO_12, HO_13, BK485, HB⟩ := hcut
   have hl12_96 := (Kd.R_reads' HO_12.out).1
   rw [hl12_96] at HO_12
   (try simp only [hl12_96])
   (try simp only [hl12_96] at BK485)
   (try simp only [hl12_96] at HO_13)
   have hl13_96 := (Kd.R_reads' HO_13.out).1
   rw [hl13_96] at HO_13
   (try simp only [hl13_96])
   (try simp only [hl13_96] at BK485)
   (try simp only [hl13_96] at HO_12)
   cases kq with
   | zero => exact absurd HA.out (by simp [laws_FnExactDivideLeft.j2])
   | succ kj96 =>
    have H := HA.out
    clear HA
    simp only [laws_FnExactDivideLeft.j2] at H
    by_cases c123 : x145_96 = true
    ·subst c123
     rw [if_pos rfl] at H
     obtain rfl := Option.some.inj H
     go_wp2
     go_ret
     exact ⟨tE, tB⟩
    replace c123 := Bool.eq_false_iff.mpr c123
    subst c123
    rw [if_neg (show ¬ (false = true) by decide)] at H
    obtain ⟨t555, A124, H⟩ := qBd H
    by_cases c125 : t555 < 0
    ·rw [if_pos c125] at H
     have c125b0 := decide_eq_true c125
     clear c125
     (try (have c125b0z := c125b0; simp only [hl12_96, hl13_96] at c125b0z))
     obtain rfl := Option.some.inj H
     go_wp2_with (first | ((with_reducible refine gQc (f := 14) rfl ?_); refine goesL_ (some 148) rfl rfl Try.func14 (by kernel_rfl) rfl #[.slice Ao98 t533.length co98, .int .i64 1] rfl tL ?_; (with_reducible refine (laws_heldInt64S.calls kj96 _ _ t533 1 t555 _ ?s1 ?s2 A124.out).mono ?_); (case s1 => exact tC ((Kd.R_reads' HO_12.out).2.2)); (case s2 => exact (Kd.R_reads' HO_12.out).2.1); rintro e w' ⟨rfl, ⟨nd, rfl⟩⟩; refine ⟨_, rfl, ?_⟩))
     go_ret
     exact ⟨tE, tB⟩
    rw [if_neg c125] at H
    have c125b0 := decide_eq_false c125
    clear c125
    (try (have c125b0z := c125b0; simp only [hl12_96, hl13_96] at c125b0z))
    obtain ⟨t556, A126, H⟩ := qBd H
    by_cases c127 : t556 < 0
    ·rw [if_pos c127] at H
     have c127b0 := decide_eq_true c127
     clear c127
     (try (have c127b0z := c127b0; simp only [hl12_96, hl13_96] at c127b0z))
     obtain rfl := Option.some.inj H
     go_wp2_with (first | ((with_reducible refine gQc (f := 14) rfl ?_); refine goesL_ (some 148) rfl rfl Try.func14 (by kernel_rfl) rfl #[.slice Ao98 t533.length co98, .int .i64 1] rfl tL ?_; (with_reducible refine (laws_heldInt64S.calls kj96 _ _ t533 1 t555 _ ?s1 ?s2 A124.out).mono ?_); (case s1 => exact tC ((Kd.R_reads' HO_12.out).2.2)); (case s2 => exact (Kd.R_reads' HO_12.out).2.1); rintro e w' ⟨rfl, ⟨nd, rfl⟩⟩; refine ⟨_, rfl, ?_⟩) | ((with_reducible refine gQc (f := 14) rfl ?_); refine goesL_ (some 153) rfl rfl Try.func14 (by kernel_rfl) rfl #[.slice Ao100 t535.length co100, .int .i64 t555] rfl tL ?_; (with_reducible refine (laws_heldInt64S.calls kj96 _ _ t535 t555 t556 _ ?s1 ?s2 A126.out).mono ?_); (case s1 => exact tC ((Kd.R_reads' HO_13.out).2.2)); (case s2 => exact (Kd.R_reads' HO_13.out).2.1); rintro e w' ⟨rfl, ⟨nd, rfl⟩⟩; refine ⟨_, rfl, ?_⟩))
     go_ret
     exact ⟨tE, tB⟩
    rw [if_neg c127] at H
    have c127b0 := decide_eq_false c127
    clear c127
    (try (have c127b0z := c127b0; simp only [hl12_96, hl13_96] at c127b0z))
    by_cases c128 : t556 = t534
    ·rw [if_pos c128] at H
     have c128b0 := beq_iff_eq.mpr c128
     have c128b1 := bne_eq_false_iff_eq.mpr c128
     clear c128
     (try (have c128b0z := c128b0; simp only [hl12_96, hl13_96] at c128b0z))
     (try (have c128b1z := c128b1; simp only [hl12_96, hl13_96] at c128b1z))
     obtain rfl := Option.some.inj H
     go_wp2_with (first | ((with_reducible refine gQc (f := 14) rfl ?_); refine goesL_ (some 148) rfl rfl Try.func14 (by kernel_rfl) rfl #[.slice Ao98 t533.length co98, .int .i64 1] rfl tL ?_; (with_reducible refine (laws_heldInt64S.calls kj96 _ _ t533 1 t555 _ ?s1 ?s2 A124.out).mono ?_); (case s1 => exact tC ((Kd.R_reads' HO_12.out).2.2)); (case s2 => exact (Kd.R_reads' HO_12.out).2.1); rintro e w' ⟨rfl, ⟨nd, rfl⟩⟩; refine ⟨_, rfl, ?_⟩) | ((with_reducible refine gQc (f := 14) rfl ?_); refine goesL_ (some 153) rfl rfl Try.func14 (by kernel_rfl) rfl #[.slice Ao100 t535.length co100, .int .i64 t555] rfl tL ?_; (with_reducible refine (laws_heldInt64S.calls kj96 _ _ t535 t555 t556 _ ?s1 ?s2 A126.out).mono ?_); (case s1 => exact tC ((Kd.R_reads' HO_13.out).2.2)); (case s2 => exact (Kd.R_reads' HO_13.out).2.1); rintro e w' ⟨rfl, ⟨nd, rfl⟩⟩; refine ⟨_, rfl, ?_⟩))
     go_ret
     exact ⟨tE, tB⟩
    rw [if_neg c128] at H
    have c128b0 := beq_eq_false_iff_ne.mpr c128
    have c128b1 := bne_iff_ne.mpr c128
    (try (have c128b0z := c128b0; simp only [hl12_96, hl13_96] at c128b0z))
    (try (have c128b1z := c128b1; simp only [hl12_96, hl13_96] at c128b1z))
    obtain rfl := Option.some.inj H
    go_wp2_with (first | ((with_reducible refine gQc (f := 14) rfl ?_); refine goesL_ (some 148) rfl rfl Try.func14 (by kernel_rfl) rfl #[.slice Ao98 t533.length co98, .int .i64 1] rfl tL ?_; (with_reducible refine (laws_heldInt64S.calls kj96 _ _ t533 1 t555 _ ?s1 ?s2 A124.out).mono ?_); (case s1 => exact tC ((Kd.R_reads' HO_12.out).2.2)); (case s2 => exact (Kd.R_reads' HO_12.out).2.1); rintro e w' ⟨rfl, ⟨nd, rfl⟩⟩; refine ⟨_, rfl, ?_⟩) | ((with_reducible refine gQc (f := 14) rfl ?_); refine goesL_ (some 153) rfl rfl Try.func14 (by kernel_rfl) rfl #[.slice Ao100 t535.length co100, .int .i64 t555] rfl tL ?_; (with_reducible refine (laws_heldInt64S.calls kj96 _ _ t535 t555 t556 _ ?s1 ?s2 A126.out).mono ?_); (case s1 => exact tC ((Kd.R_reads' HO_13.out).2.2)); (case s2 => exact (Kd.R_reads' HO_13.out).2.1); rintro e w' ⟨rfl, ⟨nd, rfl⟩⟩; refine ⟨_, rfl, ?_⟩))
    go_ret
    exact ⟨tE, tB⟩
end Go.Proofs.Ytkhjoomjjdgkjaa.P
