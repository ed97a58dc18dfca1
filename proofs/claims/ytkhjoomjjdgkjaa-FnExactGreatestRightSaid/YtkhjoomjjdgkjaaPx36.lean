/- Functions of the program and what they tell, as the printing program wrote it. -/
import Derived.Test.YtkhjoomjjdgkjaaPx0
import Derived.Test.YtkhjoomjjdgkjaaPx11
import Derived.Test.YtkhjoomjjdgkjaaPx12
import Derived.Test.YtkhjoomjjdgkjaaPx25
import Derived.Test.YtkhjoomjjdgkjaaPx27
namespace Go.Proofs.Ytkhjoomjjdgkjaa.P
open Go.Shelf Go.RowKit Go.Proofs.YtkhjoomjjdgkjaaW.PrintWords Go.Proofs.YtkhjoomjjdgkjaaW.PrintLast Go.Proofs.YtkhjoomjjdgkjaaW.PrintMore
attribute [local go_sem] max2_int min2_int max_two min_two max_three min_three max_four min_four
set_option linter.unusedVariables false
set_option linter.unusedSimpArgs false
set_option maxHeartbeats 8000000
set_option maxRecDepth 100000
mutual
def laws_FnExactGreatestRight.j0 : Nat → List Int → List Int → List Int → Int → List Int → List Int → List Int → Int → Bool → Int → Int → Option (Bool)
  | 0, _, _, _, _, _, _, _, _, _, _, _ => none
  | k + 1, x1, x2, x7, x8, x9, x10, x11, x12, x54, x771000, x771001 => if x54 = true then (some false) else ((laws_toInt64S.f k x1).bind fun t796 => ((laws_eqInt64S.f k x9 t796).bind fun t799 => (if t799 = true then ((laws_toInt64S.f k x2).bind fun t800 => ((laws_eqInt64S.f k x10 t800).bind fun t803 => (if t803 = true then ((laws_markInt64S.f k x9 1).bind fun bt804 => ((laws_markInt64S.f k x10 bt804.1).bind fun bt806 => (if bt806.1 < 0 then (laws_FnExactGreatestRight.j1 k x1 x2 x7 x8 x11 true x771000 x771001) else ((laws_eqInt64S.f k x11 x7).bind fun t808 => (if t808 = true then (laws_FnExactGreatestRight.j1 k x1 x2 x7 x8 x11 (x12 != x8) x771000 x771001) else (laws_FnExactGreatestRight.j1 k x1 x2 x7 x8 x11 true x771000 x771001)))))) else (some false)))) else (some false))))
def laws_FnExactGreatestRight.j1 : Nat → List Int → List Int → List Int → Int → List Int → Bool → Int → Int → Option (Bool)
  | 0, _, _, _, _, _, _, _, _ => none
  | k + 1, x1, x2, x7, x8, x11, x83, x771000, x771001 => if x83 = true then (some false) else ((laws_markInt64S.f k x11 1).bind fun bt809 => ((laws_heldInt64S.f k bt809.2 1).bind fun t811 => (if t811 < 0 then (some false) else (if t811 = bt809.1 then ((laws_toField.f x771000 x771001).bind fun bt812 => ((laws_toInt64S.f k x1).bind fun t814 => ((laws_toInt64S.f k x2).bind fun t817 => ((impl_GreatestRight.f k bt812.1 bt812.2 t814 t817).bind fun bt820 => ((laws_eqInt64S.f k bt820.1 x7).bind fun t824 => (if t824 = true then (laws_FnExactGreatestRight.j2 k bt809.2 bt809.1 (bt820.2 != x8)) else (laws_FnExactGreatestRight.j2 k bt809.2 bt809.1 true))))))) else (some false)))))
def laws_FnExactGreatestRight.j2 : Nat → List Int → Int → Bool → Option (Bool)
  | 0, _, _, _ => none
  | k + 1, x11, x14, x113 => if x113 = true then (some false) else ((laws_heldInt64S.f k x11 1).bind fun t825 => (if t825 < 0 then (some false) else (if t825 = x14 then (some true) else (some false))))
end
def laws_FnExactGreatestRight.f (k : Nat) (a0_0 : Int) (a0_1 : Int) (l1 : List Int) (l2 : List Int) : Option (Bool) := if (l1.length : Int) > 1048576 then (some true) else (if (l2.length : Int) > 1048576 then (some true) else ((laws_toField.f a0_0 a0_1).bind fun bt771 => ((laws_toInt64S.f k l1).bind fun t773 => ((laws_toInt64S.f k l2).bind fun t776 => ((spec_GreatestRight.f k bt771.1 bt771.2 t773 t776).bind fun bt779 => ((laws_toInt64S.f k l1).bind fun t783 => ((laws_toInt64S.f k l2).bind fun t786 => ((laws_toField.f a0_0 a0_1).bind fun bt789 => ((impl_GreatestRight.f k bt789.1 bt789.2 t783 t786).bind fun bt791 => ((laws_eqInt64S.f k bt791.1 bt779.1).bind fun t795 => (if t795 = true then (laws_FnExactGreatestRight.j0 k l1 l2 bt779.1 bt779.2 t783 t786 bt791.1 bt791.2 (bt791.2 != bt779.2) a0_0 a0_1) else (laws_FnExactGreatestRight.j0 k l1 l2 bt779.1 bt779.2 t783 t786 bt791.1 bt791.2 true a0_0 a0_1))))))))))))
theorem laws_FnExactGreatestRight.mono_l : ∀ k, (∀ y0 y1 y2 y3 y4 y5 y6 y7 y8 y9 y10, LeO (laws_FnExactGreatestRight.j0 k y0 y1 y2 y3 y4 y5 y6 y7 y8 y9 y10) (laws_FnExactGreatestRight.j0 (k + 1) y0 y1 y2 y3 y4 y5 y6 y7 y8 y9 y10)) ∧ (∀ y0 y1 y2 y3 y4 y5 y6 y7, LeO (laws_FnExactGreatestRight.j1 k y0 y1 y2 y3 y4 y5 y6 y7) (laws_FnExactGreatestRight.j1 (k + 1) y0 y1 y2 y3 y4 y5 y6 y7)) ∧ (∀ y0 y1 y2, LeO (laws_FnExactGreatestRight.j2 k y0 y1 y2) (laws_FnExactGreatestRight.j2 (k + 1) y0 y1 y2))
 | 0 => ⟨fun _ _ _ _ _ _ _ _ _ _ _ r h => by simp [laws_FnExactGreatestRight.j0] at h, fun _ _ _ _ _ _ _ _ r h => by simp [laws_FnExactGreatestRight.j1] at h, fun _ _ _ r h => by simp [laws_FnExactGreatestRight.j2] at h⟩
 | k + 1 => by
  obtain ⟨ih0, ih1, ih2⟩ := laws_FnExactGreatestRight.mono_l k
  refine ⟨?_, ?_, ?_⟩ <;> intros <;> first | unfold laws_FnExactGreatestRight.j0 | unfold laws_FnExactGreatestRight.j1 | unfold laws_FnExactGreatestRight.j2
  all_goals repeat' first
   | (with_reducible first | apply ih0 | apply ih1 | apply ih2 | apply impl_GreatestRight.mono | apply laws_eqInt64S.mono | apply laws_heldInt64S.mono | apply laws_markInt64S.mono | apply laws_toInt64S.mono | apply spec_GreatestRight.mono | exact LeO.refl _ | exact LeO.none _ | refine LeO.ite ?_ ?_ | refine LeO.bind ?_ (fun _ => ?_))
   | exact LeO.none _
   | refine LeO.ite ?_ ?_
   | refine LeO.bind ?_ (fun _ => ?_)
theorem laws_FnExactGreatestRight.mono : ∀ a0 a1 a2 a3 k, LeO (laws_FnExactGreatestRight.f k a0 a1 a2 a3) (laws_FnExactGreatestRight.f (k + 1) a0 a1 a2 a3) := by
 intro a0 a1 a2 a3 k
 obtain ⟨ih0, ih1, ih2⟩ := laws_FnExactGreatestRight.mono_l k
 unfold laws_FnExactGreatestRight.f
 repeat' first
  | (with_reducible first | apply ih0 | apply ih1 | apply ih2 | apply impl_GreatestRight.mono | apply laws_eqInt64S.mono | apply laws_heldInt64S.mono | apply laws_markInt64S.mono | apply laws_toInt64S.mono | apply spec_GreatestRight.mono | exact LeO.refl _ | exact LeO.none _ | refine LeO.ite ?_ ?_ | refine LeO.bind ?_ (fun _ => ?_))
  | exact LeO.none _
  | refine LeO.ite ?_ ?_
  | refine LeO.bind ?_ (fun _ => ?_)
theorem laws_FnExactGreatestRight.calls (k : Nat) (a0_0 : Int) (a0_1 : Int) (A1 : Option Addr) (c1 : Nat) (l1 : List Int) (A2 : Option Addr) (c2 : Nat) (l2 : List Int) (r : Bool) (w : World) (hr1 : Kd.C (Kd.int .i64) w A1 l1.length l1) (hc1 : l1.length ≤ c1) (hr2 : Kd.C (Kd.int .i64) w A2 l2.length l2) (hc2 : l2.length ≤ c2) (h : laws_FnExactGreatestRight.f k a0_0 a0_1 l1 l2 = some r) :
 Calls Try.prog 6 #[.agg #[.int .i64 a0_0, .int .i64 a0_1], .slice A1 l1.length c1, .slice A2 l2.length c2] w fun e w' => e = .returned (.bool r) ∧ Below w.heap.size w w' := by
 have hu23 := Try.underlying23
 have HR1 := Aq.mk hr1
 have HC1 := Aq.mk hc1
 clear hr1 hc1
 have HR2 := Aq.mk hr2
 have HC2 := Aq.mk hc2
 clear hr2 hc2
 have HB := Aq.mk (Below.refl w.heap.size w)
 have H : (if (l1.length : Int) > 1048576 then (some true) else (if (l2.length : Int) > 1048576 then (some true) else ((laws_toField.f a0_0 a0_1).bind fun bt771 => ((laws_toInt64S.f k l1).bind fun t773 => ((laws_toInt64S.f k l2).bind fun t776 => ((spec_GreatestRight.f k bt771.1 bt771.2 t773 t776).bind fun bt779 => ((laws_toInt64S.f k l1).bind fun t783 => ((laws_toInt64S.f k l2).bind fun t786 => ((laws_toField.f a0_0 a0_1).bind fun bt789 => ((impl_GreatestRight.f k bt789.1 bt789.2 t783 t786).bind fun bt791 => ((laws_eqInt64S.f k bt791.1 bt779.1).bind fun t795 => (if t795 = true then (laws_FnExactGreatestRight.j0 k l1 l2 bt779.1 bt779.2 t783 t786 bt791.1 bt791.2 (bt791.2 != bt779.2) a0_0 a0_1) else (laws_FnExactGreatestRight.j0 k l1 l2 bt779.1 bt779.2 t783 t786 bt791.1 bt791.2 true a0_0 a0_1))))))))))))) = some r := h
 clear h
 by_cases c4 : (l1.length : Int) > 1048576
 ·rw [if_pos c4] at H
  have c4b0 := decide_eq_true c4
  have c4b1 : decide (1048576 < l1.length) = true := decide_eq_true (by omega)
  clear c4
  obtain rfl := Option.some.inj H
  go_enter Try.func6, Try.ntmps6
  go_wp2_with (first | ((with_reducible refine gQd (N := 3) rfl ?_); refine xQe ?hg (N := 3) ?hd (cs := #[.int .i64 a0_0, .int .i64 a0_1]) (t := 23) ?hr ?_; (case hd => rfl); (case hg => rfl); (case hr => exact tH); intro gb770 hg w5 hbox hb; refine qM4 (bQT tB hb) hbox (tZ w hg) (tZ w hg) ?_; clear HB; intro HB BK770 GW770 GE770; clear hb hbox hg))
  go_ret
  exact ⟨tE, tB⟩
 rw [if_neg c4] at H
 have c4b0 := decide_eq_false c4
 have c4b1 : decide (1048576 < l1.length) = false := decide_eq_false (by omega)
 clear c4
 by_cases c6 : (l2.length : Int) > 1048576
 ·rw [if_pos c6] at H
  have c6b0 := decide_eq_true c6
  have c6b1 : decide (1048576 < l2.length) = true := decide_eq_true (by omega)
  clear c6
  obtain rfl := Option.some.inj H
  go_enter Try.func6, Try.ntmps6
  go_wp2_with (first | ((with_reducible refine gQd (N := 3) rfl ?_); refine xQe ?hg (N := 3) ?hd (cs := #[.int .i64 a0_0, .int .i64 a0_1]) (t := 23) ?hr ?_; (case hd => rfl); (case hg => rfl); (case hr => exact tH); intro gb770 hg w7 hbox hb; refine qM4 (bQT tB hb) hbox (tZ w hg) (tZ w hg) ?_; clear HB; intro HB BK770 GW770 GE770; clear hb hbox hg))
  go_ret
  exact ⟨tE, tB⟩
 rw [if_neg c6] at H
 have c6b0 := decide_eq_false c6
 have c6b1 : decide (1048576 < l2.length) = false := decide_eq_false (by omega)
 clear c6
 obtain ⟨⟨t771, t772⟩, A8, H⟩ := qBd H
 (try dsimp only at H)
 obtain ⟨t773, A9, H⟩ := qBd H
 obtain ⟨t776, A10, H⟩ := qBd H
 obtain ⟨⟨t779, t782⟩, A11, H⟩ := qBd H
 (try dsimp only at H)
 obtain ⟨t783, A12, H⟩ := qBd H
 obtain ⟨t786, A13, H⟩ := qBd H
 obtain ⟨⟨t789, t790⟩, A14, H⟩ := qBd H
 (try dsimp only at H)
 obtain ⟨⟨t791, t794⟩, A15, H⟩ := qBd H
 (try dsimp only at H)
 have HC16 := Aq.mk H
 clear H
 go_enter Try.func6, Try.ntmps6
 go_upto_region 9 with (first | ((with_reducible refine gQd (N := 3) rfl ?_); refine xQe ?hg (N := 3) ?hd (cs := #[.int .i64 a0_0, .int .i64 a0_1]) (t := 23) ?hr ?_; (case hd => rfl); (case hg => rfl); (case hr => exact tH); intro gb770 hg w17 hbox hb; refine qM4 (bQT tB hb) hbox (tZ w hg) (tZ w hg) ?_; clear HB; intro HB BK770 GW770 GE770; clear hb hbox hg; have hcz18_0 : w17.cell? ⟨gb770, 0, none⟩ = some (.int .i64 a0_0) := (kQC BK770.out 0).trans rfl; have hcz18_1 : w17.cell? ⟨gb770, 1, none⟩ = some (.int .i64 a0_1) := (kQC BK770.out 1).trans rfl; have hfz18_0 := kQF BK770.out 0; have hfz18_1 := kQF BK770.out 1) | ((with_reducible refine gQc (f := 9) rfl ?_); refine goesL_ (some 26) rfl rfl Try.func9 (by kernel_rfl) rfl #[.agg #[.int .i64 a0_0, .int .i64 a0_1]] rfl tL ?_; (with_reducible refine (laws_toField.calls a0_0 a0_1 t771 t772 _ A8.out).mono ?_); rintro e w19 ⟨rfl, hb⟩; refine ⟨_, rfl, ?_⟩; refine qM2 (tQ BK770.out hb) (bQT tB hb) ?_; clear BK770 HB; intro BK770 HB; (try clear hb); (try clear hb2); (try clear hk); (try clear hi)) | ((with_reducible refine gQc (f := 10) rfl ?_); refine goesL_ (some 28) rfl rfl Try.func10 (by kernel_rfl) rfl #[.slice A1 l1.length c1] rfl tL ?_; (with_reducible refine (laws_toInt64S.calls k _ _ l1 t773 _ ?s1 ?s2 A9.out).mono ?_); (case s1 => exact tC ((Kd.C_below HR1.out HB.out))); (case s2 => exact HC1.out); rintro e w20 ⟨v774, rfl, ho0, hb⟩; refine ⟨_, rfl, ?_⟩; refine qM3 (Kd.R_lower ho0 (bQZ tB)) (tQ BK770.out hb) (bQT tB hb) ?_; clear BK770 HB; intro HO775 BK770 HB; (try clear hb); (try clear hb2); (try clear hk); (try clear hi); (try clear ho0)) | ((with_reducible refine gQc (f := 10) rfl ?_); refine goesL_ (some 30) rfl rfl Try.func10 (by kernel_rfl) rfl #[.slice A2 l2.length c2] rfl tL ?_; (with_reducible refine (laws_toInt64S.calls k _ _ l2 t776 _ ?s1 ?s2 A10.out).mono ?_); (case s1 => exact tC ((Kd.C_below HR2.out HB.out))); (case s2 => exact HC2.out); rintro e w21 ⟨v777, rfl, ho0, hb⟩; refine ⟨_, rfl, ?_⟩; refine qM4 (Kd.R_elder' (tR HO775.out) (Kd.R_base ho0) hb) (Kd.R_lower (Kd.R_new' ho0 (Kd.R_lt (tR HO775.out))) (bQZ tB)) (tQ BK770.out hb) (bQT tB hb) ?_; clear HO775 BK770 HB; intro HO775 HO778 BK770 HB; (try clear hb); (try clear hb2); (try clear hk); (try clear hi); (try clear ho0); obtain ⟨Ao22, co22, eo22⟩ := Kd.R_slice HO775.out; subst eo22; obtain ⟨Ao23, co23, eo23⟩ := Kd.R_slice HO778.out; subst eo23) | ((with_reducible refine gQc (f := 24) rfl ?_); refine goesL_ (some 31) rfl rfl Try.func24 (by kernel_rfl) rfl #[.agg #[.int .i64 t771, .int .i64 t772], .slice Ao22 t773.length co22, .slice Ao23 t776.length co23] rfl tL ?_; (with_reducible refine (spec_GreatestRight.calls k t771 t772 _ _ t773 _ _ t776 t779 t782 _ ?s1 ?s2 ?s3 ?s4 A11.out).mono ?_); (case s1 => exact tC ((Kd.R_reads' HO775.out).2.2)); (case s2 => exact (Kd.R_reads' HO775.out).2.1); (case s3 => exact tC ((Kd.R_reads' HO778.out).2.2)); (case s4 => exact (Kd.R_reads' HO778.out).2.1); rintro e w24 ⟨v780, rfl, ho0, hb⟩; refine ⟨_, rfl, ?_⟩; refine qM5 (Kd.R_elder' (tR HO775.out) (Kd.R_base ho0) hb) (Kd.R_elder' (tR HO778.out) (Kd.R_base ho0) hb) (Kd.R_lower (Kd.R_new' (Kd.R_new' ho0 (Kd.R_lt (tR HO775.out))) (Kd.R_lt (tR HO778.out))) (bQZ tB)) (tQ BK770.out hb) (bQT tB hb) ?_; clear HO775 HO778 BK770 HB; intro HO775 HO778 HO781 BK770 HB; (try clear hb); (try clear hb2); (try clear hk); (try clear hi); (try clear ho0)) | ((with_reducible refine gQc (f := 10) rfl ?_); refine goesL_ (some 35) rfl rfl Try.func10 (by kernel_rfl) rfl #[.slice A1 l1.length c1] rfl tL ?_; (with_reducible refine (laws_toInt64S.calls k _ _ l1 t783 _ ?s1 ?s2 A12.out).mono ?_); (case s1 => exact tC ((Kd.C_below HR1.out HB.out))); (case s2 => exact HC1.out); rintro e w25 ⟨v784, rfl, ho0, hb⟩; refine ⟨_, rfl, ?_⟩; refine qM6 (Kd.R_elder' (tR HO775.out) (Kd.R_base ho0) hb) (Kd.R_elder' (tR HO778.out) (Kd.R_base ho0) hb) (Kd.R_elder' (tR HO781.out) (Kd.R_base ho0) hb) (Kd.R_lower (Kd.R_new' (Kd.R_new' (Kd.R_new' ho0 (Kd.R_lt (tR HO775.out))) (Kd.R_lt (tR HO778.out))) (Kd.R_lt (tR HO781.out))) (bQZ tB)) (tQ BK770.out hb) (bQT tB hb) ?_; clear HO775 HO778 HO781 BK770 HB; intro HO775 HO778 HO781 HO785 BK770 HB; (try clear hb); (try clear hb2); (try clear hk); (try clear hi); (try clear ho0)) | ((with_reducible refine gQc (f := 10) rfl ?_); refine goesL_ (some 37) rfl rfl Try.func10 (by kernel_rfl) rfl #[.slice A2 l2.length c2] rfl tL ?_; (with_reducible refine (laws_toInt64S.calls k _ _ l2 t786 _ ?s1 ?s2 A13.out).mono ?_); (case s1 => exact tC ((Kd.C_below HR2.out HB.out))); (case s2 => exact HC2.out); rintro e w26 ⟨v787, rfl, ho0, hb⟩; refine ⟨_, rfl, ?_⟩; refine qM7 (Kd.R_elder' (tR HO775.out) (Kd.R_base ho0) hb) (Kd.R_elder' (tR HO778.out) (Kd.R_base ho0) hb) (Kd.R_elder' (tR HO781.out) (Kd.R_base ho0) hb) (Kd.R_elder' (tR HO785.out) (Kd.R_base ho0) hb) (Kd.R_lower (Kd.R_new' (Kd.R_new' (Kd.R_new' (Kd.R_new' ho0 (Kd.R_lt (tR HO775.out))) (Kd.R_lt (tR HO778.out))) (Kd.R_lt (tR HO781.out))) (Kd.R_lt (tR HO785.out))) (bQZ tB)) (tQ BK770.out hb) (bQT tB hb) ?_; clear HO775 HO778 HO781 HO785 BK770 HB; intro HO775 HO778 HO781 HO785 HO788 BK770 HB; (try clear hb); (try clear hb2); (try clear hk); (try clear hi); (try clear ho0); have hcz27_0 : w26.cell? ⟨gb770, 0, none⟩ = some (.int .i64 a0_0) := (kQC BK770.out 0).trans rfl; have hcz27_1 : w26.cell? ⟨gb770, 1, none⟩ = some (.int .i64 a0_1) := (kQC BK770.out 1).trans rfl; have hfz27_0 := kQF BK770.out 0; have hfz27_1 := kQF BK770.out 1) | ((with_reducible refine gQc (f := 9) rfl ?_); refine goesL_ (some 40) rfl rfl Try.func9 (by kernel_rfl) rfl #[.agg #[.int .i64 a0_0, .int .i64 a0_1]] rfl tL ?_; (with_reducible refine (laws_toField.calls a0_0 a0_1 t789 t790 _ A14.out).mono ?_); rintro e w28 ⟨rfl, hb⟩; refine ⟨_, rfl, ?_⟩; refine qM7 (Kd.R_below (tR HO775.out) hb) (Kd.R_below (tR HO778.out) hb) (Kd.R_below (tR HO781.out) hb) (Kd.R_below (tR HO785.out) hb) (Kd.R_below (tR HO788.out) hb) (tQ BK770.out hb) (bQT tB hb) ?_; clear HO775 HO778 HO781 HO785 HO788 BK770 HB; intro HO775 HO778 HO781 HO785 HO788 BK770 HB; (try clear hb); (try clear hb2); (try clear hk); (try clear hi); obtain ⟨Ao29, co29, eo29⟩ := Kd.R_slice HO785.out; subst eo29; obtain ⟨Ao30, co30, eo30⟩ := Kd.R_slice HO788.out; subst eo30) | ((with_reducible refine gQc (f := 25) rfl ?_); refine goesL_ (some 43) rfl rfl Try.func25 (by kernel_rfl) rfl #[.agg #[.int .i64 t789, .int .i64 t790], .slice Ao29 t783.length co29, .slice Ao30 t786.length co30] rfl tL ?_; (with_reducible refine (impl_GreatestRight.calls k t789 t790 (fun k_ => some k_ = (.slice Ao29 t783.length co29 : Value).ownBlock) _ _ t783 (fun k_ => some k_ = (.slice Ao30 t786.length co30 : Value).ownBlock) _ _ t786 t791 t794 _ ?s1 ?s2 A15.out).mono ?_); (case s1 => exact Kd.R_V (Kd.R_tight rfl (Kd.R_types (HO785.out) BK770.out (by decide)))); (case s2 => exact Kd.R_V (Kd.R_tight rfl (Kd.R_types (HO788.out) BK770.out (by decide)))); rintro e w31 ⟨v792, rfl, ho0, hb⟩; refine ⟨_, rfl, ?_⟩; refine qM8 (Kd.R_elder' (tR HO775.out) (Kd.R_base ho0) hb) (Kd.R_elder' (tR HO778.out) (Kd.R_base ho0) hb) (Kd.R_elder' (tR HO781.out) (Kd.R_base ho0) hb) (Kd.R_elder' (tR HO785.out) (Kd.R_base ho0) hb) (Kd.R_elder' (tR HO788.out) (Kd.R_base ho0) hb) (Kd.R_lower (Kd.R_new' (Kd.R_new' (Kd.R_new' (Kd.R_new' (Kd.R_new' (Kd.R_mono (ok' := fun k_ => True) ho0 (fun _ hk_ => trivial)) (Kd.R_lt (tR HO775.out))) (Kd.R_lt (tR HO778.out))) (Kd.R_lt (tR HO781.out))) (Kd.R_lt (tR HO785.out))) (Kd.R_lt (tR HO788.out))) (bQZ tB)) (tQ BK770.out hb) (bQT tB hb) ?_; clear HO775 HO778 HO781 HO785 HO788 BK770 HB; intro HO775 HO778 HO781 HO785 HO788 HO793 BK770 HB; (try clear hb); (try clear hb2); (try clear hk); (try clear hi); (try clear ho0)))
 (try simp only [Act.put, qSa, qSb, qSc])
 go_cut [54] (fun v54 wc => ∃ (kq : Nat) (x54_15 : Bool), v54 = .bool x54_15 ∧ Aq (laws_FnExactGreatestRight.j0 kq l1 l2 t779 t782 t783 t786 t791 t794 x54_15 a0_0 a0_1 = some r) ∧ Aq (kq ≤ k) ∧ Aq (Kd.R (Kd.int .i64) 2 wc w.heap.size (fun k_ => some k_ ≠ ((.slice Ao29 t783.length co29) : Value).ownBlock ∧ some k_ ≠ ((.slice Ao30 t786.length co30) : Value).ownBlock ∧ some k_ ≠ (v792 : Value).ownBlock) v780 t779) ∧ Aq (Kd.R (Kd.int .i64) 2 wc w.heap.size (fun k_ => some k_ ≠ (v780 : Value).ownBlock ∧ some k_ ≠ ((.slice Ao30 t786.length co30) : Value).ownBlock ∧ some k_ ≠ (v792 : Value).ownBlock) (.slice Ao29 t783.length co29) t783) ∧ Aq (Kd.R (Kd.int .i64) 2 wc w.heap.size (fun k_ => some k_ ≠ (v780 : Value).ownBlock ∧ some k_ ≠ ((.slice Ao29 t783.length co29) : Value).ownBlock ∧ some k_ ≠ (v792 : Value).ownBlock) (.slice Ao30 t786.length co30) t786) ∧ Aq (Kd.R (Kd.int .i64) 2 wc w.heap.size (fun k_ => some k_ ≠ (v780 : Value).ownBlock ∧ some k_ ≠ ((.slice Ao29 t783.length co29) : Value).ownBlock ∧ some k_ ≠ ((.slice Ao30 t786.length co30) : Value).ownBlock) v792 t791) ∧ Aq (wc.heap[gb770]? = some (.cells #[.int .i64 a0_0, .int .i64 a0_1] 23 (0, 0))) ∧ Aq (Below w.heap.size w wc))
 case first =>
  have H := HC16.out
  clear HC16
  obtain ⟨t795, A32, H⟩ := qBd H
  by_cases c33 : t795 = true
  ·subst c33
   rw [if_pos rfl] at H
   replace H' := Aq.mk H
   clear H
   obtain ⟨Ao34, co34, eo34⟩ := Kd.R_slice HO793.out
   subst eo34
   obtain ⟨Ao35, co35, eo35⟩ := Kd.R_slice HO781.out
   subst eo35
   go_wp2_with (first | ((with_reducible refine gQc (f := 12) rfl ?_); refine goesL_ (some 48) rfl rfl Try.func12 (by kernel_rfl) rfl #[.slice Ao34 t791.length co34, .slice Ao35 t779.length co35] rfl tL ?_; (with_reducible refine (laws_eqInt64S.calls k _ _ t791 _ _ t779 true _ ?s1 ?s2 ?s3 ?s4 A32.out).mono ?_); (case s1 => exact tC ((Kd.R_reads' HO793.out).2.2)); (case s2 => exact (Kd.R_reads' HO793.out).2.1); (case s3 => exact tC ((Kd.R_reads' HO781.out).2.2)); (case s4 => exact (Kd.R_reads' HO781.out).2.1); rintro e w' ⟨rfl, ⟨nd, rfl⟩⟩; refine ⟨_, rfl, ?_⟩))
   go_meet
   case rel => exact ⟨_, ((t794 != t782)), tS, H', ⟨tO⟩, ⟨by (with_reducible repeat (first | apply Kd.RqA | apply Kd.RqN | apply Kd.RqD)); exact Kd.R_mono HO781.out (fun _ hk => ⟨hk.1.1.2, ⟨hk.1.2, hk.2⟩⟩)⟩, ⟨by (with_reducible repeat (first | apply Kd.RqA | apply Kd.RqN | apply Kd.RqD)); exact Kd.R_mono HO785.out (fun _ hk => ⟨hk.1.1.2, ⟨hk.1.2, hk.2⟩⟩)⟩, ⟨by (with_reducible repeat (first | apply Kd.RqA | apply Kd.RqN | apply Kd.RqD)); exact Kd.R_mono HO788.out (fun _ hk => ⟨hk.1.1.2, ⟨hk.1.2, hk.2⟩⟩)⟩, ⟨by (with_reducible repeat (first | apply Kd.RqA | apply Kd.RqN | apply Kd.RqD)); exact Kd.R_mono HO793.out (fun _ hk => ⟨hk.1.1.2, ⟨hk.1.2, hk.2⟩⟩)⟩, ⟨tG BK770.out⟩, ⟨tB⟩⟩
  replace c33 := Bool.eq_false_iff.mpr c33
  subst c33
  rw [if_neg (show ¬ (false = true) by decide)] at H
  replace H' := Aq.mk H
  clear H
  obtain ⟨Ao36, co36, eo36⟩ := Kd.R_slice HO793.out
  subst eo36
  obtain ⟨Ao37, co37, eo37⟩ := Kd.R_slice HO781.out
  subst eo37
  go_wp2_with (first | ((with_reducible refine gQc (f := 12) rfl ?_); refine goesL_ (some 48) rfl rfl Try.func12 (by kernel_rfl) rfl #[.slice Ao36 t791.length co36, .slice Ao37 t779.length co37] rfl tL ?_; (with_reducible refine (laws_eqInt64S.calls k _ _ t791 _ _ t779 false _ ?s1 ?s2 ?s3 ?s4 A32.out).mono ?_); (case s1 => exact tC ((Kd.R_reads' HO793.out).2.2)); (case s2 => exact (Kd.R_reads' HO793.out).2.1); (case s3 => exact tC ((Kd.R_reads' HO781.out).2.2)); (case s4 => exact (Kd.R_reads' HO781.out).2.1); rintro e w' ⟨rfl, ⟨nd, rfl⟩⟩; refine ⟨_, rfl, ?_⟩))
  go_meet
  case rel => exact ⟨_, (true), tS, H', ⟨tO⟩, ⟨by (with_reducible repeat (first | apply Kd.RqA | apply Kd.RqN | apply Kd.RqD)); exact Kd.R_mono HO781.out (fun _ hk => ⟨hk.1.1.2, ⟨hk.1.2, hk.2⟩⟩)⟩, ⟨by (with_reducible repeat (first | apply Kd.RqA | apply Kd.RqN | apply Kd.RqD)); exact Kd.R_mono HO785.out (fun _ hk => ⟨hk.1.1.2, ⟨hk.1.2, hk.2⟩⟩)⟩, ⟨by (with_reducible repeat (first | apply Kd.RqA | apply Kd.RqN | apply Kd.RqD)); exact Kd.R_mono HO788.out (fun _ hk => ⟨hk.1.1.2, ⟨hk.1.2, hk.2⟩⟩)⟩, ⟨by (with_reducible repeat (first | apply Kd.RqA | apply Kd.RqN | apply Kd.RqD)); exact Kd.R_mono HO793.out (fun _ hk => ⟨hk.1.1.2, ⟨hk.1.2, hk.2⟩⟩)⟩, ⟨tG BK770.out⟩, ⟨tB⟩⟩
 clear HC16
 try clear c1
 try clear c2
 try clear c4
 try clear c4b0
 try clear c4b1
 try clear c6
 try clear c6b0
 try clear c6b1
 try clear c33
 try clear hcz18_0
 try clear hcz18_1
 try clear hcz27_0
 try clear hcz27_1
 try clear hfz18_0
 try clear hfz18_1
 try clear hfz27_0
 try clear hfz27_1
 obtain ⟨kq, x54_15, rfl, HA, HJ15, HO_7, HO_9, HO_10, HO_11, BK770, HB⟩ := hcut
 cases kq with
 | zero => exact absurd HA.out (by simp [laws_FnExactGreatestRight.j0])
 | succ kj15 =>
  have H := HA.out
  clear HA
  simp only [laws_FnExactGreatestRight.j0] at H
  by_cases c38 : x54_15 = true
  ·subst c38
   rw [if_pos rfl] at H
   obtain rfl := Option.some.inj H
   go_wp2
   go_ret
   exact ⟨tE, tB⟩
  replace c38 := Bool.eq_false_iff.mpr c38
  subst c38
  rw [if_neg (show ¬ (false = true) by decide)] at H
  obtain ⟨t796, A39, H⟩ := qBd H
  obtain ⟨t799, A40, H⟩ := qBd H
  by_cases c41 : t799 = true
  rotate_left
  ·replace c41 := Bool.eq_false_iff.mpr c41
   subst c41
   rw [if_neg (show ¬ (false = true) by decide)] at H
   obtain rfl := Option.some.inj H
   go_wp2_with (first | ((with_reducible refine gQc (f := 10) rfl ?_); refine goesL_ (some 57) rfl rfl Try.func10 (by kernel_rfl) rfl #[.slice A1 l1.length c1] rfl tL ?_; (with_reducible refine (laws_toInt64S.calls kj15 _ _ l1 t796 _ ?s1 ?s2 A39.out).mono ?_); (case s1 => exact tC ((Kd.C_below HR1.out HB.out))); (case s2 => exact HC1.out); rintro e w98 ⟨v797, rfl, ho0, hb⟩; refine ⟨_, rfl, ?_⟩; refine qM7 (Kd.R_elder' (tR HO_7.out) (Kd.R_base ho0) hb) (Kd.R_elder' (tR HO_9.out) (Kd.R_base ho0) hb) (Kd.R_elder' (tR HO_10.out) (Kd.R_base ho0) hb) (Kd.R_elder' (tR HO_11.out) (Kd.R_base ho0) hb) (Kd.R_lower (Kd.R_new' (Kd.R_new' (Kd.R_new' (Kd.R_new' ho0 (Kd.R_lt (tR HO_7.out))) (Kd.R_lt (tR HO_9.out))) (Kd.R_lt (tR HO_10.out))) (Kd.R_lt (tR HO_11.out))) (bQZ tB)) (tQ BK770.out hb) (bQT tB hb) ?_; clear HO_7 HO_9 HO_10 HO_11 BK770 HB; intro HO_7 HO_9 HO_10 HO_11 HO798 BK770 HB; (try clear hb); (try clear hb2); (try clear hk); (try clear hi); (try clear ho0); obtain ⟨Ao99, co99, eo99⟩ := Kd.R_slice HO798.out; subst eo99) | ((with_reducible refine gQc (f := 12) rfl ?_); refine goesL_ (some 58) rfl rfl Try.func12 (by kernel_rfl) rfl #[.slice Ao29 t783.length co29, .slice Ao99 t796.length co99] rfl tL ?_; (with_reducible refine (laws_eqInt64S.calls kj15 _ _ t783 _ _ t796 false _ ?s1 ?s2 ?s3 ?s4 A40.out).mono ?_); (case s1 => exact tC ((Kd.R_reads' HO_9.out).2.2)); (case s2 => exact (Kd.R_reads' HO_9.out).2.1); (case s3 => exact tC ((Kd.R_reads' HO798.out).2.2)); (case s4 => exact (Kd.R_reads' HO798.out).2.1); rintro e w' ⟨rfl, ⟨nd, rfl⟩⟩; refine ⟨_, rfl, ?_⟩))
   go_ret
   exact ⟨tE, tB⟩
  subst c41
  rw [if_pos rfl] at H
  obtain ⟨t800, A42, H⟩ := qBd H
  obtain ⟨t803, A43, H⟩ := qBd H
  by_cases c44 : t803 = true
  rotate_left
  ·replace c44 := Bool.eq_false_iff.mpr c44
   subst c44
   rw [if_neg (show ¬ (false = true) by decide)] at H
   obtain rfl := Option.some.inj H
   go_wp2_with (first | ((with_reducible refine gQc (f := 10) rfl ?_); refine goesL_ (some 57) rfl rfl Try.func10 (by kernel_rfl) rfl #[.slice A1 l1.length c1] rfl tL ?_; (with_reducible refine (laws_toInt64S.calls kj15 _ _ l1 t796 _ ?s1 ?s2 A39.out).mono ?_); (case s1 => exact tC ((Kd.C_below HR1.out HB.out))); (case s2 => exact HC1.out); rintro e w94 ⟨v797, rfl, ho0, hb⟩; refine ⟨_, rfl, ?_⟩; refine qM7 (Kd.R_elder' (tR HO_7.out) (Kd.R_base ho0) hb) (Kd.R_elder' (tR HO_9.out) (Kd.R_base ho0) hb) (Kd.R_elder' (tR HO_10.out) (Kd.R_base ho0) hb) (Kd.R_elder' (tR HO_11.out) (Kd.R_base ho0) hb) (Kd.R_lower (Kd.R_new' (Kd.R_new' (Kd.R_new' (Kd.R_new' ho0 (Kd.R_lt (tR HO_7.out))) (Kd.R_lt (tR HO_9.out))) (Kd.R_lt (tR HO_10.out))) (Kd.R_lt (tR HO_11.out))) (bQZ tB)) (tQ BK770.out hb) (bQT tB hb) ?_; clear HO_7 HO_9 HO_10 HO_11 BK770 HB; intro HO_7 HO_9 HO_10 HO_11 HO798 BK770 HB; (try clear hb); (try clear hb2); (try clear hk); (try clear hi); (try clear ho0); obtain ⟨Ao95, co95, eo95⟩ := Kd.R_slice HO798.out; subst eo95) | ((with_reducible refine gQc (f := 12) rfl ?_); refine goesL_ (some 58) rfl rfl Try.func12 (by kernel_rfl) rfl #[.slice Ao29 t783.length co29, .slice Ao95 t796.length co95] rfl tL ?_; (with_reducible refine (laws_eqInt64S.calls kj15 _ _ t783 _ _ t796 true _ ?s1 ?s2 ?s3 ?s4 A40.out).mono ?_); (case s1 => exact tC ((Kd.R_reads' HO_9.out).2.2)); (case s2 => exact (Kd.R_reads' HO_9.out).2.1); (case s3 => exact tC ((Kd.R_reads' HO798.out).2.2)); (case s4 => exact (Kd.R_reads' HO798.out).2.1); rintro e w' ⟨rfl, ⟨nd, rfl⟩⟩; refine ⟨_, rfl, ?_⟩) | ((with_reducible refine gQc (f := 10) rfl ?_); refine goesL_ (some 62) rfl rfl Try.func10 (by kernel_rfl) rfl #[.slice A2 l2.length c2] rfl tL ?_; (with_reducible refine (laws_toInt64S.calls kj15 _ _ l2 t800 _ ?s1 ?s2 A42.out).mono ?_); (case s1 => exact tC ((Kd.C_below HR2.out tB))); (case s2 => exact HC2.out); rintro e w96 ⟨v801, rfl, ho0, hb⟩; refine ⟨_, rfl, ?_⟩; refine qM8 (Kd.R_elder' (tR HO_7.out) (Kd.R_base ho0) hb) (Kd.R_elder' (tR HO_9.out) (Kd.R_base ho0) hb) (Kd.R_elder' (tR HO_10.out) (Kd.R_base ho0) hb) (Kd.R_elder' (tR HO_11.out) (Kd.R_base ho0) hb) (Kd.R_elder' (tR HO798.out) (Kd.R_base ho0) hb) (Kd.R_lower (Kd.R_new' (Kd.R_new' (Kd.R_new' (Kd.R_new' (Kd.R_new' ho0 (Kd.R_lt (tR HO_7.out))) (Kd.R_lt (tR HO_9.out))) (Kd.R_lt (tR HO_10.out))) (Kd.R_lt (tR HO_11.out))) (Kd.R_lt (tR HO798.out))) (bQZ tB)) (tQ BK770.out hb) (bQT tB hb) ?_; clear HO_7 HO_9 HO_10 HO_11 HO798 BK770 HB; intro HO_7 HO_9 HO_10 HO_11 HO798 HO802 BK770 HB; (try clear hb); (try clear hb2); (try clear hk); (try clear hi); (try clear ho0); obtain ⟨Ao97, co97, eo97⟩ := Kd.R_slice HO802.out; subst eo97) | ((with_reducible refine gQc (f := 12) rfl ?_); refine goesL_ (some 63) rfl rfl Try.func12 (by kernel_rfl) rfl #[.slice Ao30 t786.length co30, .slice Ao97 t800.length co97] rfl tL ?_; (with_reducible refine (laws_eqInt64S.calls kj15 _ _ t786 _ _ t800 false _ ?s1 ?s2 ?s3 ?s4 A43.out).mono ?_); (case s1 => exact tC ((Kd.R_reads' HO_10.out).2.2)); (case s2 => exact (Kd.R_reads' HO_10.out).2.1); (case s3 => exact tC ((Kd.R_reads' HO802.out).2.2)); (case s4 => exact (Kd.R_reads' HO802.out).2.1); rintro e w' ⟨rfl, ⟨nd, rfl⟩⟩; refine ⟨_, rfl, ?_⟩))
   go_ret
   exact ⟨tE, tB⟩
  subst c44
  rw [if_pos rfl] at H
  obtain ⟨⟨t804, t805⟩, A45, H⟩ := qBd H
  (try dsimp only at H)
  obtain ⟨⟨t806, t807⟩, A46, H⟩ := qBd H
  (try dsimp only at H)
  have HC47 := Aq.mk H
  clear H
  go_upto_region 18 with (first | ((with_reducible refine gQc (f := 10) rfl ?_); refine goesL_ (some 57) rfl rfl Try.func10 (by kernel_rfl) rfl #[.slice A1 l1.length c1] rfl tL ?_; (with_reducible refine (laws_toInt64S.calls kj15 _ _ l1 t796 _ ?s1 ?s2 A39.out).mono ?_); (case s1 => exact tC ((Kd.C_below HR1.out HB.out))); (case s2 => exact HC1.out); rintro e w48 ⟨v797, rfl, ho0, hb⟩; refine ⟨_, rfl, ?_⟩; refine qM7 (Kd.R_elder' (tR HO_7.out) (Kd.R_base ho0) hb) (Kd.R_elder' (tR HO_9.out) (Kd.R_base ho0) hb) (Kd.R_elder' (tR HO_10.out) (Kd.R_base ho0) hb) (Kd.R_elder' (tR HO_11.out) (Kd.R_base ho0) hb) (Kd.R_lower (Kd.R_new' (Kd.R_new' (Kd.R_new' (Kd.R_new' ho0 (Kd.R_lt (tR HO_7.out))) (Kd.R_lt (tR HO_9.out))) (Kd.R_lt (tR HO_10.out))) (Kd.R_lt (tR HO_11.out))) (bQZ tB)) (tQ BK770.out hb) (bQT tB hb) ?_; clear HO_7 HO_9 HO_10 HO_11 BK770 HB; intro HO_7 HO_9 HO_10 HO_11 HO798 BK770 HB; (try clear hb); (try clear hb2); (try clear hk); (try clear hi); (try clear ho0); obtain ⟨Ao49, co49, eo49⟩ := Kd.R_slice HO798.out; subst eo49) | ((with_reducible refine gQc (f := 12) rfl ?_); refine goesL_ (some 58) rfl rfl Try.func12 (by kernel_rfl) rfl #[.slice Ao29 t783.length co29, .slice Ao49 t796.length co49] rfl tL ?_; (with_reducible refine (laws_eqInt64S.calls kj15 _ _ t783 _ _ t796 true _ ?s1 ?s2 ?s3 ?s4 A40.out).mono ?_); (case s1 => exact tC ((Kd.R_reads' HO_9.out).2.2)); (case s2 => exact (Kd.R_reads' HO_9.out).2.1); (case s3 => exact tC ((Kd.R_reads' HO798.out).2.2)); (case s4 => exact (Kd.R_reads' HO798.out).2.1); rintro e w' ⟨rfl, ⟨nd, rfl⟩⟩; refine ⟨_, rfl, ?_⟩) | ((with_reducible refine gQc (f := 10) rfl ?_); refine goesL_ (some 62) rfl rfl Try.func10 (by kernel_rfl) rfl #[.slice A2 l2.length c2] rfl tL ?_; (with_reducible refine (laws_toInt64S.calls kj15 _ _ l2 t800 _ ?s1 ?s2 A42.out).mono ?_); (case s1 => exact tC ((Kd.C_below HR2.out tB))); (case s2 => exact HC2.out); rintro e w50 ⟨v801, rfl, ho0, hb⟩; refine ⟨_, rfl, ?_⟩; refine qM8 (Kd.R_elder' (tR HO_7.out) (Kd.R_base ho0) hb) (Kd.R_elder' (tR HO_9.out) (Kd.R_base ho0) hb) (Kd.R_elder' (tR HO_10.out) (Kd.R_base ho0) hb) (Kd.R_elder' (tR HO_11.out) (Kd.R_base ho0) hb) (Kd.R_elder' (tR HO798.out) (Kd.R_base ho0) hb) (Kd.R_lower (Kd.R_new' (Kd.R_new' (Kd.R_new' (Kd.R_new' (Kd.R_new' ho0 (Kd.R_lt (tR HO_7.out))) (Kd.R_lt (tR HO_9.out))) (Kd.R_lt (tR HO_10.out))) (Kd.R_lt (tR HO_11.out))) (Kd.R_lt (tR HO798.out))) (bQZ tB)) (tQ BK770.out hb) (bQT tB hb) ?_; clear HO_7 HO_9 HO_10 HO_11 HO798 BK770 HB; intro HO_7 HO_9 HO_10 HO_11 HO798 HO802 BK770 HB; (try clear hb); (try clear hb2); (try clear hk); (try clear hi); (try clear ho0); obtain ⟨Ao51, co51, eo51⟩ := Kd.R_slice HO802.out; subst eo51) | ((with_reducible refine gQc (f := 12) rfl ?_); refine goesL_ (some 63) rfl rfl Try.func12 (by kernel_rfl) rfl #[.slice Ao30 t786.length co30, .slice Ao51 t800.length co51] rfl tL ?_; (with_reducible refine (laws_eqInt64S.calls kj15 _ _ t786 _ _ t800 true _ ?s1 ?s2 ?s3 ?s4 A43.out).mono ?_); (case s1 => exact tC ((Kd.R_reads' HO_10.out).2.2)); (case s2 => exact (Kd.R_reads' HO_10.out).2.1); (case s3 => exact tC ((Kd.R_reads' HO802.out).2.2)); (case s4 => exact (Kd.R_reads' HO802.out).2.1); rintro e w' ⟨rfl, ⟨nd, rfl⟩⟩; refine ⟨_, rfl, ?_⟩) | ((with_reducible refine gQc (f := 13) rfl ?_); refine goesL_ (some 67) rfl rfl Try.func13 (by kernel_rfl) rfl #[.slice Ao29 t783.length co29, .int .i64 1] rfl tL ?_; (with_reducible refine (laws_markInt64S.calls kj15 (fun k_ => some k_ = (.slice Ao29 t783.length co29 : Value).ownBlock) (.slice Ao29 t783.length co29) t783 1 t804 t805 w _ ?s1 ?s2 A45.out).mono ?_); (case s1 => exact tB); (case s2 => exact Kd.R_tight rfl HO_9.out); rintro e w52 ⟨rfl, hy0, hb, hkp⟩; refine ⟨_, rfl, ?_⟩; refine qM8 (Kd.R_mono (ok' := fun k_ => some k_ ≠ (.slice Ao29 t783.length co29 : Value).ownBlock ∧ some k_ ≠ (.slice Ao30 t786.length co30 : Value).ownBlock ∧ some k_ ≠ (v792 : Value).ownBlock ∧ some k_ ≠ (.slice Ao49 t796.length co49 : Value).ownBlock ∧ some k_ ≠ (.slice Ao51 t800.length co51 : Value).ownBlock) (Kd.R_keptB (HO_7.out) hkp (fun k_ hk_ hs_ => (hk_.1.1.1) hs_)) (fun k_ hk_ => ⟨hk_.1.1.1.1, hk_.1.1.1.2.1, hk_.1.1.1.2.2, hk_.1.1.2, hk_.1.2⟩)) (Kd.R_reok rfl hy0 (fun k_ e_ => HO_9.out.1 k_ e_)) (Kd.R_mono (ok' := fun k_ => some k_ ≠ (v780 : Value).ownBlock ∧ some k_ ≠ (.slice Ao29 t783.length co29 : Value).ownBlock ∧ some k_ ≠ (v792 : Value).ownBlock ∧ some k_ ≠ (.slice Ao49 t796.length co49 : Value).ownBlock ∧ some k_ ≠ (.slice Ao51 t800.length co51 : Value).ownBlock) (Kd.R_keptB (HO_10.out) hkp (fun k_ hk_ hs_ => (hk_.1.1.2.1) hs_)) (fun k_ hk_ => ⟨hk_.1.1.1.1, hk_.1.1.1.2.1, hk_.1.1.1.2.2, hk_.1.1.2, hk_.1.2⟩)) (Kd.R_mono (ok' := fun k_ => some k_ ≠ (v780 : Value).ownBlock ∧ some k_ ≠ (.slice Ao29 t783.length co29 : Value).ownBlock ∧ some k_ ≠ (.slice Ao30 t786.length co30 : Value).ownBlock ∧ some k_ ≠ (.slice Ao49 t796.length co49 : Value).ownBlock ∧ some k_ ≠ (.slice Ao51 t800.length co51 : Value).ownBlock) (Kd.R_keptB (HO_11.out) hkp (fun k_ hk_ hs_ => (hk_.1.1.2.1) hs_)) (fun k_ hk_ => ⟨hk_.1.1.1.1, hk_.1.1.1.2.1, hk_.1.1.1.2.2, hk_.1.1.2, hk_.1.2⟩)) (blk_kept (tG BK770.out) hkp (fun hs_ => (fun e_ => (Kd.R_ne HO_9.out BK770.out (by decide)) e_) hs_)) (Kd.R_mono (ok' := fun k_ => some k_ ≠ (v780 : Value).ownBlock ∧ some k_ ≠ (.slice Ao29 t783.length co29 : Value).ownBlock ∧ some k_ ≠ (.slice Ao30 t786.length co30 : Value).ownBlock ∧ some k_ ≠ (v792 : Value).ownBlock ∧ some k_ ≠ (.slice Ao51 t800.length co51 : Value).ownBlock) (Kd.R_keptB (HO798.out) hkp (fun k_ hk_ hs_ => (hk_.1.1.1.2) hs_)) (fun k_ hk_ => ⟨hk_.1.1.1.1.1.2, hk_.1.1.1.1.2, hk_.1.1.1.2, hk_.1.1.2, hk_.1.2⟩)) (Kd.R_mono (ok' := fun k_ => some k_ ≠ (v780 : Value).ownBlock ∧ some k_ ≠ (.slice Ao29 t783.length co29 : Value).ownBlock ∧ some k_ ≠ (.slice Ao30 t786.length co30 : Value).ownBlock ∧ some k_ ≠ (v792 : Value).ownBlock ∧ some k_ ≠ (.slice Ao49 t796.length co49 : Value).ownBlock) (Kd.R_keptB (HO802.out) hkp (fun k_ hk_ hs_ => (hk_.1.1.1.2) hs_)) (fun k_ hk_ => ⟨hk_.1.1.1.1.1.2, hk_.1.1.1.1.2, hk_.1.1.1.2, hk_.1.1.2, hk_.1.2⟩)) hb ?_; clear HO_7 HO_9 HO_10 HO_11 BK770 HO798 HO802 HB; intro HO_7 HO_9 HO_10 HO_11 BK770 HO798 HO802 HB; (try clear hb); (try clear hkp); (try clear hy0)) | ((with_reducible refine gQc (f := 13) rfl ?_); refine goesL_ (some 70) rfl rfl Try.func13 (by kernel_rfl) rfl #[.slice Ao30 t786.length co30, .int .i64 t804] rfl tL ?_; (with_reducible refine (laws_markInt64S.calls kj15 (fun k_ => some k_ = (.slice Ao30 t786.length co30 : Value).ownBlock) (.slice Ao30 t786.length co30) t786 t804 t806 t807 w _ ?s1 ?s2 A46.out).mono ?_); (case s1 => exact tB); (case s2 => exact Kd.R_tight rfl HO_10.out); rintro e w53 ⟨rfl, hy0, hb, hkp⟩; refine ⟨_, rfl, ?_⟩; refine qM8 (Kd.R_mono (ok' := fun k_ => some k_ ≠ (.slice Ao29 t783.length co29 : Value).ownBlock ∧ some k_ ≠ (.slice Ao30 t786.length co30 : Value).ownBlock ∧ some k_ ≠ (v792 : Value).ownBlock ∧ some k_ ≠ (.slice Ao49 t796.length co49 : Value).ownBlock ∧ some k_ ≠ (.slice Ao51 t800.length co51 : Value).ownBlock) (Kd.R_keptB (HO_7.out) hkp (fun k_ hk_ hs_ => (hk_.2.1) hs_)) (fun k_ hk_ => ⟨hk_.1.1, hk_.1.2.1, hk_.1.2.2.1, hk_.1.2.2.2.1, hk_.1.2.2.2.2⟩)) (Kd.R_mono (ok' := fun k_ => some k_ ≠ (v780 : Value).ownBlock ∧ some k_ ≠ (.slice Ao30 t786.length co30 : Value).ownBlock ∧ some k_ ≠ (v792 : Value).ownBlock ∧ some k_ ≠ (.slice Ao49 t796.length co49 : Value).ownBlock ∧ some k_ ≠ (.slice Ao51 t800.length co51 : Value).ownBlock) (Kd.R_keptB (HO_9.out) hkp (fun k_ hk_ hs_ => (hk_.1.1.2.1) hs_)) (fun k_ hk_ => ⟨hk_.1.1.1.1, hk_.1.1.1.2.1, hk_.1.1.1.2.2, hk_.1.1.2, hk_.1.2⟩)) (Kd.R_reok rfl hy0 (fun k_ e_ => HO_10.out.1 k_ e_)) (Kd.R_mono (ok' := fun k_ => some k_ ≠ (v780 : Value).ownBlock ∧ some k_ ≠ (.slice Ao29 t783.length co29 : Value).ownBlock ∧ some k_ ≠ (.slice Ao30 t786.length co30 : Value).ownBlock ∧ some k_ ≠ (.slice Ao49 t796.length co49 : Value).ownBlock ∧ some k_ ≠ (.slice Ao51 t800.length co51 : Value).ownBlock) (Kd.R_keptB (HO_11.out) hkp (fun k_ hk_ hs_ => (hk_.2.2.1) hs_)) (fun k_ hk_ => ⟨hk_.1.1, hk_.1.2.1, hk_.1.2.2.1, hk_.1.2.2.2.1, hk_.1.2.2.2.2⟩)) (blk_kept (tG BK770.out) hkp (fun hs_ => (fun e_ => (Kd.R_ne HO_10.out BK770.out (by decide)) e_) hs_)) (Kd.R_mono (ok' := fun k_ => some k_ ≠ (v780 : Value).ownBlock ∧ some k_ ≠ (.slice Ao29 t783.length co29 : Value).ownBlock ∧ some k_ ≠ (.slice Ao30 t786.length co30 : Value).ownBlock ∧ some k_ ≠ (v792 : Value).ownBlock ∧ some k_ ≠ (.slice Ao51 t800.length co51 : Value).ownBlock) (Kd.R_keptB (HO798.out) hkp (fun k_ hk_ hs_ => (hk_.2.2.1) hs_)) (fun k_ hk_ => ⟨hk_.1.1, hk_.1.2.1, hk_.1.2.2.1, hk_.1.2.2.2.1, hk_.1.2.2.2.2⟩)) (Kd.R_mono (ok' := fun k_ => some k_ ≠ (v780 : Value).ownBlock ∧ some k_ ≠ (.slice Ao29 t783.length co29 : Value).ownBlock ∧ some k_ ≠ (.slice Ao30 t786.length co30 : Value).ownBlock ∧ some k_ ≠ (v792 : Value).ownBlock ∧ some k_ ≠ (.slice Ao49 t796.length co49 : Value).ownBlock) (Kd.R_keptB (HO802.out) hkp (fun k_ hk_ hs_ => (hk_.2.2.1) hs_)) (fun k_ hk_ => ⟨hk_.1.1, hk_.1.2.1, hk_.1.2.2.1, hk_.1.2.2.2.1, hk_.1.2.2.2.2⟩)) hb ?_; clear HO_7 HO_9 HO_10 HO_11 BK770 HO798 HO802 HB; intro HO_7 HO_9 HO_10 HO_11 BK770 HO798 HO802 HB; (try clear hb); (try clear hkp); (try clear hy0)))
  (try simp only [Act.put, qSa, qSb, qSc])
  go_cut [83] (fun v83 wc => ∃ (kq : Nat) (x83_46 : Bool), v83 = .bool x83_46 ∧ Aq (laws_FnExactGreatestRight.j1 kq l1 l2 t779 t782 t791 x83_46 a0_0 a0_1 = some r) ∧ Aq (kq ≤ kj15) ∧ Aq (Kd.R (Kd.int .i64) 2 wc w.heap.size (fun k_ => some k_ ≠ (v792 : Value).ownBlock) v780 t779) ∧ Aq (Kd.R (Kd.int .i64) 2 wc w.heap.size (fun k_ => some k_ ≠ (v780 : Value).ownBlock) v792 t791) ∧ Aq (wc.heap[gb770]? = some (.cells #[.int .i64 a0_0, .int .i64 a0_1] 23 (0, 0))) ∧ Aq (Below w.heap.size w wc))
  case first =>
   have H := HC47.out
   clear HC47
   by_cases c54 : t806 < 0
   ·rw [if_pos c54] at H
    have c54b0 := decide_eq_true c54
    clear c54
    (first | rw [c54b0] | (simp only [i64_w, i32_w]; rw [c54b0]) | skip)
    replace H' := Aq.mk H
    clear H
    go_wp2
    go_meet
    case rel => exact ⟨_, (true), tS, H', ⟨by have := HJ15.out; first | omega | exact Nat.le_refl _⟩, ⟨by (with_reducible repeat (first | apply Kd.RqA | apply Kd.RqN | apply Kd.RqD)); exact Kd.R_mono HO_7.out (fun _ hk => hk.2.2.1)⟩, ⟨by (with_reducible repeat (first | apply Kd.RqA | apply Kd.RqN | apply Kd.RqD)); exact Kd.R_mono HO_11.out (fun _ hk => hk.1)⟩, ⟨tG BK770.out⟩, ⟨tB⟩⟩
   rw [if_neg c54] at H
   have c54b0 := decide_eq_false c54
   clear c54
   (first | rw [c54b0] | (simp only [i64_w, i32_w]; rw [c54b0]) | skip)
   obtain ⟨t808, A55, H⟩ := qBd H
   by_cases c56 : t808 = true
   ·subst c56
    rw [if_pos rfl] at H
    replace H' := Aq.mk H
    clear H
    obtain ⟨Ao57, co57, eo57⟩ := Kd.R_slice HO_11.out
    subst eo57
    obtain ⟨Ao58, co58, eo58⟩ := Kd.R_slice HO_7.out
    subst eo58
    go_wp2_with (first | (go_at_call 12; (with_reducible refine (laws_eqInt64S.calls kj15 _ _ t791 _ _ t779 true _ ?s1 ?s2 ?s3 ?s4 A55.out).mono ?_); (case s1 => exact tC ((Kd.R_reads' HO_11.out).2.2)); (case s2 => exact (Kd.R_reads' HO_11.out).2.1); (case s3 => exact tC ((Kd.R_reads' HO_7.out).2.2)); (case s4 => exact (Kd.R_reads' HO_7.out).2.1); rintro e w' ⟨rfl, ⟨nd, rfl⟩⟩))
    go_meet
    case rel => exact ⟨_, ((t794 != t782)), tS, H', ⟨by have := HJ15.out; first | omega | exact Nat.le_refl _⟩, ⟨by (with_reducible repeat (first | apply Kd.RqA | apply Kd.RqN | apply Kd.RqD)); exact Kd.R_mono HO_7.out (fun _ hk => hk.2.2.1)⟩, ⟨by (with_reducible repeat (first | apply Kd.RqA | apply Kd.RqN | apply Kd.RqD)); exact Kd.R_mono HO_11.out (fun _ hk => hk.1)⟩, ⟨tG BK770.out⟩, ⟨tB⟩⟩
   replace c56 := Bool.eq_false_iff.mpr c56
   subst c56
   rw [if_neg (show ¬ (false = true) by decide)] at H
   replace H' := Aq.mk H
   clear H
   obtain ⟨Ao59, co59, eo59⟩ := Kd.R_slice HO_11.out
   subst eo59
   obtain ⟨Ao60, co60, eo60⟩ := Kd.R_slice HO_7.out
   subst eo60
   go_wp2_with (first | (go_at_call 12; (with_reducible refine (laws_eqInt64S.calls kj15 _ _ t791 _ _ t779 false _ ?s1 ?s2 ?s3 ?s4 A55.out).mono ?_); (case s1 => exact tC ((Kd.R_reads' HO_11.out).2.2)); (case s2 => exact (Kd.R_reads' HO_11.out).2.1); (case s3 => exact tC ((Kd.R_reads' HO_7.out).2.2)); (case s4 => exact (Kd.R_reads' HO_7.out).2.1); rintro e w' ⟨rfl, ⟨nd, rfl⟩⟩))
   go_meet
   case rel => exact ⟨_, (true), tS, H', ⟨by have := HJ15.out; first | omega | exact Nat.le_refl _⟩, ⟨by (with_reducible repeat (first | apply Kd.RqA | apply Kd.RqN | apply Kd.RqD)); exact Kd.R_mono HO_7.out (fun _ hk => hk.2.2.1)⟩, ⟨by (with_reducible repeat (first | apply Kd.RqA | apply Kd.RqN | apply Kd.RqD)); exact Kd.R_mono HO_11.out (fun _ hk => hk.1)⟩, ⟨tG BK770.out⟩, ⟨tB⟩⟩
  clear HC47
  try clear c1
  try clear c2
  try clear c4
  try clear c4b0
  try clear c4b1
  try clear c6
  try clear c6b0
  try clear c6b1
  try clear c33
  try clear c38
  try clear c41
  try clear c44
  try clear c54
  try clear c54b0
  try clear c56
  try clear hcz18_0
  try clear hcz18_1
  try clear hcz27_0
  try clear hcz27_1
  try clear hfz18_0
  try clear hfz18_1
  try clear hfz27_0
  try clear hfz27_1
  obtain ⟨kq, x83_46, rfl, HA, HJ46, HO_7, HO_11, BK770, HB⟩ := hcut
  cases kq with
  | zero => exact absurd HA.out (by simp [laws_FnExactGreatestRight.j1])
  | succ kj46 =>
   have H := HA.out
   clear HA
   simp only [laws_FnExactGreatestRight.j1] at H
   by_cases c61 : x83_46 = true
   ·subst c61
    rw [if_pos rfl] at H
    obtain rfl := Option.some.inj H
    go_wp2
    go_ret
    exact ⟨tE, tB⟩
   replace c61 := Bool.eq_false_iff.mpr c61
   subst c61
   rw [if_neg (show ¬ (false = true) by decide)] at H
   obtain ⟨⟨t809, t810⟩, A62, H⟩ := qBd H
   (try dsimp only at H)
   obtain ⟨t811, A63, H⟩ := qBd H
   by_cases c64 : t811 < 0
   ·rw [if_pos c64] at H
    have c64b0 := decide_eq_true c64
    clear c64
    obtain rfl := Option.some.inj H
    obtain ⟨Ao65, co65, eo65⟩ := Kd.R_slice HO_11.out
    subst eo65
    go_wp2_with (first | ((with_reducible refine gQc (f := 13) rfl ?_); refine goesL_ (some 86) rfl rfl Try.func13 (by kernel_rfl) rfl #[.slice Ao65 t791.length co65, .int .i64 1] rfl tL ?_; (with_reducible refine (laws_markInt64S.calls kj46 (fun k_ => some k_ = (.slice Ao65 t791.length co65 : Value).ownBlock) (.slice Ao65 t791.length co65) t791 1 t809 t810 w _ ?s1 ?s2 A62.out).mono ?_); (case s1 => exact tB); (case s2 => exact Kd.R_tight rfl HO_11.out); rintro e w66 ⟨rfl, hy0, hb, hkp⟩; refine ⟨_, rfl, ?_⟩; refine qM4 (Kd.R_mono (ok' := fun k_ => some k_ ≠ (.slice Ao65 t791.length co65 : Value).ownBlock) (Kd.R_keptB (HO_7.out) hkp (fun k_ hk_ hs_ => (hk_) hs_)) (fun k_ hk_ => hk_.1)) (Kd.R_reok rfl hy0 (fun k_ e_ => HO_11.out.1 k_ e_)) (blk_kept (tG BK770.out) hkp (fun hs_ => (fun e_ => (Kd.R_ne HO_11.out BK770.out (by decide)) e_) hs_)) hb ?_; clear HO_7 HO_11 BK770 HB; intro HO_7 HO_11 BK770 HB; (try clear hb); (try clear hkp); (try clear hy0)) | ((with_reducible refine gQc (f := 14) rfl ?_); refine goesL_ (some 89) rfl rfl Try.func14 (by kernel_rfl) rfl #[.slice Ao65 t810.length co65, .int .i64 1] rfl (by (try simp only [List.map_toArray, List.map_cons, List.map_nil]); first | done | (rw [show t810.length = t791.length from (Kd.R_reads' HO_11.out).1.symm] <;> rfl) | rfl | (simp only [List.length_drop, List.length_take]; rfl)) ?_; (with_reducible refine (laws_heldInt64S.calls kj46 _ _ t810 1 t811 _ ?s1 ?s2 A63.out).mono ?_); (case s1 => exact tC ((Kd.R_reads' HO_11.out).2.2)); (case s2 => rw [show t810.length = t791.length from (Kd.R_reads' HO_11.out).1.symm]; exact (Kd.R_reads' HO_11.out).2.1); rintro e w' ⟨rfl, ⟨nd, rfl⟩⟩; refine ⟨_, rfl, ?_⟩))
    go_ret
    exact ⟨tE, tB⟩
   rw [if_neg c64] at H
   have c64b0 := decide_eq_false c64
   clear c64
   by_cases c67 : t811 = t809
   rotate_left
   ·rw [if_neg c67] at H
    have c67b0 := beq_eq_false_iff_ne.mpr c67
    have c67b1 := bne_iff_ne.mpr c67
    obtain rfl := Option.some.inj H
    obtain ⟨Ao92, co92, eo92⟩ := Kd.R_slice HO_11.out
    subst eo92
    go_wp2_with (first | ((with_reducible refine gQc (f := 13) rfl ?_); refine goesL_ (some 86) rfl rfl Try.func13 (by kernel_rfl) rfl #[.slice Ao92 t791.length co92, .int .i64 1] rfl tL ?_; (with_reducible refine (laws_markInt64S.calls kj46 (fun k_ => some k_ = (.slice Ao92 t791.length co92 : Value).ownBlock) (.slice Ao92 t791.length co92) t791 1 t809 t810 w _ ?s1 ?s2 A62.out).mono ?_); (case s1 => exact tB); (case s2 => exact Kd.R_tight rfl HO_11.out); rintro e w93 ⟨rfl, hy0, hb, hkp⟩; refine ⟨_, rfl, ?_⟩; refine qM4 (Kd.R_mono (ok' := fun k_ => some k_ ≠ (.slice Ao92 t791.length co92 : Value).ownBlock) (Kd.R_keptB (HO_7.out) hkp (fun k_ hk_ hs_ => (hk_) hs_)) (fun k_ hk_ => hk_.1)) (Kd.R_reok rfl hy0 (fun k_ e_ => HO_11.out.1 k_ e_)) (blk_kept (tG BK770.out) hkp (fun hs_ => (fun e_ => (Kd.R_ne HO_11.out BK770.out (by decide)) e_) hs_)) hb ?_; clear HO_7 HO_11 BK770 HB; intro HO_7 HO_11 BK770 HB; (try clear hb); (try clear hkp); (try clear hy0)) | ((with_reducible refine gQc (f := 14) rfl ?_); refine goesL_ (some 89) rfl rfl Try.func14 (by kernel_rfl) rfl #[.slice Ao92 t810.length co92, .int .i64 1] rfl (by (try simp only [List.map_toArray, List.map_cons, List.map_nil]); first | done | (rw [show t810.length = t791.length from (Kd.R_reads' HO_11.out).1.symm] <;> rfl) | rfl | (simp only [List.length_drop, List.length_take]; rfl)) ?_; (with_reducible refine (laws_heldInt64S.calls kj46 _ _ t810 1 t811 _ ?s1 ?s2 A63.out).mono ?_); (case s1 => exact tC ((Kd.R_reads' HO_11.out).2.2)); (case s2 => rw [show t810.length = t791.length from (Kd.R_reads' HO_11.out).1.symm]; exact (Kd.R_reads' HO_11.out).2.1); rintro e w' ⟨rfl, ⟨nd, rfl⟩⟩; refine ⟨_, rfl, ?_⟩))
    go_ret
    exact ⟨tE, tB⟩
   rw [if_pos c67] at H
   have c67b0 := beq_iff_eq.mpr c67
   have c67b1 := bne_eq_false_iff_eq.mpr c67
   clear c67
   obtain ⟨⟨t812, t813⟩, A68, H⟩ := qBd H
   (try dsimp only at H)
   obtain ⟨t814, A69, H⟩ := qBd H
   obtain ⟨t817, A70, H⟩ := qBd H
   obtain ⟨⟨t820, t823⟩, A71, H⟩ := qBd H
   (try dsimp only at H)
   have HC72 := Aq.mk H
   clear H
   obtain ⟨Ao73, co73, eo73⟩ := Kd.R_slice HO_11.out
   subst eo73
   go_upto_region 29 with (first | ((with_reducible refine gQc (f := 13) rfl ?_); refine goesL_ (some 86) rfl rfl Try.func13 (by kernel_rfl) rfl #[.slice Ao73 t791.length co73, .int .i64 1] rfl tL ?_; (with_reducible refine (laws_markInt64S.calls kj46 (fun k_ => some k_ = (.slice Ao73 t791.length co73 : Value).ownBlock) (.slice Ao73 t791.length co73) t791 1 t809 t810 w _ ?s1 ?s2 A62.out).mono ?_); (case s1 => exact tB); (case s2 => exact Kd.R_tight rfl HO_11.out); rintro e w74 ⟨rfl, hy0, hb, hkp⟩; refine ⟨_, rfl, ?_⟩; refine qM4 (Kd.R_mono (ok' := fun k_ => some k_ ≠ (.slice Ao73 t791.length co73 : Value).ownBlock) (Kd.R_keptB (HO_7.out) hkp (fun k_ hk_ hs_ => (hk_) hs_)) (fun k_ hk_ => hk_.1)) (Kd.R_reok rfl hy0 (fun k_ e_ => HO_11.out.1 k_ e_)) (blk_kept (tG BK770.out) hkp (fun hs_ => (fun e_ => (Kd.R_ne HO_11.out BK770.out (by decide)) e_) hs_)) hb ?_; clear HO_7 HO_11 BK770 HB; intro HO_7 HO_11 BK770 HB; (try clear hb); (try clear hkp); (try clear hy0)) | ((with_reducible refine gQc (f := 14) rfl ?_); refine goesL_ (some 89) rfl rfl Try.func14 (by kernel_rfl) rfl #[.slice Ao73 t810.length co73, .int .i64 1] rfl (by (try simp only [List.map_toArray, List.map_cons, List.map_nil]); first | done | (rw [show t810.length = t791.length from (Kd.R_reads' HO_11.out).1.symm] <;> rfl) | rfl | (simp only [List.length_drop, List.length_take]; rfl)) ?_; (with_reducible refine (laws_heldInt64S.calls kj46 _ _ t810 1 t811 _ ?s1 ?s2 A63.out).mono ?_); (case s1 => exact tC ((Kd.R_reads' HO_11.out).2.2)); (case s2 => rw [show t810.length = t791.length from (Kd.R_reads' HO_11.out).1.symm]; exact (Kd.R_reads' HO_11.out).2.1); rintro e w' ⟨rfl, ⟨nd, rfl⟩⟩; refine ⟨_, rfl, ?_⟩; have hcz75_0 : w74.cell? ⟨gb770, 0, none⟩ = some (.int .i64 a0_0) := (kQC BK770.out 0).trans rfl; have hcz75_1 : w74.cell? ⟨gb770, 1, none⟩ = some (.int .i64 a0_1) := (kQC BK770.out 1).trans rfl; have hfz75_0 := kQF BK770.out 0; have hfz75_1 := kQF BK770.out 1) | ((with_reducible refine gQc (f := 9) rfl ?_); refine goesL_ (some 97) rfl rfl Try.func9 (by kernel_rfl) rfl #[.agg #[.int .i64 a0_0, .int .i64 a0_1]] rfl tL ?_; (with_reducible refine (laws_toField.calls a0_0 a0_1 t812 t813 _ A68.out).mono ?_); rintro e w76 ⟨rfl, hb⟩; refine ⟨_, rfl, ?_⟩; refine qM4 (Kd.R_below (tR HO_7.out) hb) (Kd.R_below (tR HO_11.out) hb) (tQ BK770.out hb) (bQT tB hb) ?_; clear HO_7 HO_11 BK770 HB; intro HO_7 HO_11 BK770 HB; (try clear hb); (try clear hb2); (try clear hk); (try clear hi)) | ((with_reducible refine gQc (f := 10) rfl ?_); refine goesL_ (some 99) rfl rfl Try.func10 (by kernel_rfl) rfl #[.slice A1 l1.length c1] rfl tL ?_; (with_reducible refine (laws_toInt64S.calls kj46 _ _ l1 t814 _ ?s1 ?s2 A69.out).mono ?_); (case s1 => exact tC ((Kd.C_below HR1.out HB.out))); (case s2 => exact HC1.out); rintro e w77 ⟨v815, rfl, ho0, hb⟩; refine ⟨_, rfl, ?_⟩; refine qM5 (Kd.R_elder' (tR HO_7.out) (Kd.R_base ho0) hb) (Kd.R_elder' (tR HO_11.out) (Kd.R_base ho0) hb) (Kd.R_lower (Kd.R_new' (Kd.R_new' ho0 (Kd.R_lt (tR HO_7.out))) (Kd.R_lt (tR HO_11.out))) (bQZ tB)) (tQ BK770.out hb) (bQT tB hb) ?_; clear HO_7 HO_11 BK770 HB; intro HO_7 HO_11 HO816 BK770 HB; (try clear hb); (try clear hb2); (try clear hk); (try clear hi); (try clear ho0)) | ((with_reducible refine gQc (f := 10) rfl ?_); refine goesL_ (some 101) rfl rfl Try.func10 (by kernel_rfl) rfl #[.slice A2 l2.length c2] rfl tL ?_; (with_reducible refine (laws_toInt64S.calls kj46 _ _ l2 t817 _ ?s1 ?s2 A70.out).mono ?_); (case s1 => exact tC ((Kd.C_below HR2.out HB.out))); (case s2 => exact HC2.out); rintro e w78 ⟨v818, rfl, ho0, hb⟩; refine ⟨_, rfl, ?_⟩; refine qM6 (Kd.R_elder' (tR HO_7.out) (Kd.R_base ho0) hb) (Kd.R_elder' (tR HO_11.out) (Kd.R_base ho0) hb) (Kd.R_elder' (tR HO816.out) (Kd.R_base ho0) hb) (Kd.R_lower (Kd.R_new' (Kd.R_new' (Kd.R_new' ho0 (Kd.R_lt (tR HO_7.out))) (Kd.R_lt (tR HO_11.out))) (Kd.R_lt (tR HO816.out))) (bQZ tB)) (tQ BK770.out hb) (bQT tB hb) ?_; clear HO_7 HO_11 HO816 BK770 HB; intro HO_7 HO_11 HO816 HO819 BK770 HB; (try clear hb); (try clear hb2); (try clear hk); (try clear hi); (try clear ho0); obtain ⟨Ao79, co79, eo79⟩ := Kd.R_slice HO816.out; subst eo79; obtain ⟨Ao80, co80, eo80⟩ := Kd.R_slice HO819.out; subst eo80) | ((with_reducible refine gQc (f := 25) rfl ?_); refine goesL_ (some 102) rfl rfl Try.func25 (by kernel_rfl) rfl #[.agg #[.int .i64 t812, .int .i64 t813], .slice Ao79 t814.length co79, .slice Ao80 t817.length co80] rfl tL ?_; (with_reducible refine (impl_GreatestRight.calls kj46 t812 t813 (fun k_ => some k_ = (.slice Ao79 t814.length co79 : Value).ownBlock) _ _ t814 (fun k_ => some k_ = (.slice Ao80 t817.length co80 : Value).ownBlock) _ _ t817 t820 t823 _ ?s1 ?s2 A71.out).mono ?_); (case s1 => exact Kd.R_V (Kd.R_tight rfl (Kd.R_types (HO816.out) BK770.out (by decide)))); (case s2 => exact Kd.R_V (Kd.R_tight rfl (Kd.R_types (HO819.out) BK770.out (by decide)))); rintro e w81 ⟨v821, rfl, ho0, hb⟩; refine ⟨_, rfl, ?_⟩; refine qM7 (Kd.R_elder' (tR HO_7.out) (Kd.R_base ho0) hb) (Kd.R_elder' (tR HO_11.out) (Kd.R_base ho0) hb) (Kd.R_elder' (tR HO816.out) (Kd.R_base ho0) hb) (Kd.R_elder' (tR HO819.out) (Kd.R_base ho0) hb) (Kd.R_lower (Kd.R_new' (Kd.R_new' (Kd.R_new' (Kd.R_new' (Kd.R_mono (ok' := fun k_ => True) ho0 (fun _ hk_ => trivial)) (Kd.R_lt (tR HO_7.out))) (Kd.R_lt (tR HO_11.out))) (Kd.R_lt (tR HO816.out))) (Kd.R_lt (tR HO819.out))) (bQZ tB)) (tQ BK770.out hb) (bQT tB hb) ?_; clear HO_7 HO_11 HO816 HO819 BK770 HB; intro HO_7 HO_11 HO816 HO819 HO822 BK770 HB; (try clear hb); (try clear hb2); (try clear hk); (try clear hi); (try clear ho0)))
   (try simp only [Act.put, qSa, qSb, qSc])
   go_cut [113] (fun v113 wc => ∃ (kq : Nat) (x113_71 : Bool), v113 = .bool x113_71 ∧ Aq (laws_FnExactGreatestRight.j2 kq t810 t809 x113_71 = some r) ∧ Aq (kq ≤ kj46) ∧ Aq (Kd.R (Kd.int .i64) 2 wc w.heap.size (fun _ => True) (.slice Ao73 t791.length co73) t810) ∧ Aq (wc.heap[gb770]? = some (.cells #[.int .i64 a0_0, .int .i64 a0_1] 23 (0, 0))) ∧ Aq (Below w.heap.size w wc))
   case first =>
    have H := HC72.out
    clear HC72
    obtain ⟨t824, A82, H⟩ := qBd H
    by_cases c83 : t824 = true
    ·subst c83
     rw [if_pos rfl] at H
     replace H' := Aq.mk H
     clear H
     obtain ⟨Ao84, co84, eo84⟩ := Kd.R_slice HO822.out
     subst eo84
     obtain ⟨Ao85, co85, eo85⟩ := Kd.R_slice HO_7.out
     subst eo85
     go_wp2_with (first | ((with_reducible refine gQc (f := 12) rfl ?_); refine goesL_ (some 107) rfl rfl Try.func12 (by kernel_rfl) rfl #[.slice Ao84 t820.length co84, .slice Ao85 t779.length co85] rfl tL ?_; (with_reducible refine (laws_eqInt64S.calls kj46 _ _ t820 _ _ t779 true _ ?s1 ?s2 ?s3 ?s4 A82.out).mono ?_); (case s1 => exact tC ((Kd.R_reads' HO822.out).2.2)); (case s2 => exact (Kd.R_reads' HO822.out).2.1); (case s3 => exact tC ((Kd.R_reads' HO_7.out).2.2)); (case s4 => exact (Kd.R_reads' HO_7.out).2.1); rintro e w' ⟨rfl, ⟨nd, rfl⟩⟩; refine ⟨_, rfl, ?_⟩))
     go_meet
     case rel => exact ⟨_, ((t823 != t782)), tS, H', ⟨by have := HJ15.out; have := HJ46.out; first | omega | exact Nat.le_refl _⟩, ⟨by (with_reducible repeat (first | apply Kd.RqA | apply Kd.RqN | apply Kd.RqD)); exact Kd.R_mono HO_11.out (fun _ hk => trivial)⟩, ⟨tG BK770.out⟩, ⟨tB⟩⟩
    replace c83 := Bool.eq_false_iff.mpr c83
    subst c83
    rw [if_neg (show ¬ (false = true) by decide)] at H
    replace H' := Aq.mk H
    clear H
    obtain ⟨Ao86, co86, eo86⟩ := Kd.R_slice HO822.out
    subst eo86
    obtain ⟨Ao87, co87, eo87⟩ := Kd.R_slice HO_7.out
    subst eo87
    go_wp2_with (first | ((with_reducible refine gQc (f := 12) rfl ?_); refine goesL_ (some 107) rfl rfl Try.func12 (by kernel_rfl) rfl #[.slice Ao86 t820.length co86, .slice Ao87 t779.length co87] rfl tL ?_; (with_reducible refine (laws_eqInt64S.calls kj46 _ _ t820 _ _ t779 false _ ?s1 ?s2 ?s3 ?s4 A82.out).mono ?_); (case s1 => exact tC ((Kd.R_reads' HO822.out).2.2)); (case s2 => exact (Kd.R_reads' HO822.out).2.1); (case s3 => exact tC ((Kd.R_reads' HO_7.out).2.2)); (case s4 => exact (Kd.R_reads' HO_7.out).2.1); rintro e w' ⟨rfl, ⟨nd, rfl⟩⟩; refine ⟨_, rfl, ?_⟩))
    go_meet
    case rel => exact ⟨_, (true), tS, H', ⟨by have := HJ15.out; have := HJ46.out; first | omega | exact Nat.le_refl _⟩, ⟨by (with_reducible repeat (first | apply Kd.RqA | apply Kd.RqN | apply Kd.RqD)); exact Kd.R_mono HO_11.out (fun _ hk => trivial)⟩, ⟨tG BK770.out⟩, ⟨tB⟩⟩
   clear HC72
   try clear c1
   try clear c2
   try clear c4
   try clear c4b0
   try clear c4b1
   try clear c6
   try clear c6b0
   try clear c6b1
   try clear c33
   try clear c38
   try clear c41
   try clear c44
   try clear c54
   try clear c54b0
   try clear c56
   try clear c61
   try clear c64
   try clear c64b0
   try clear c67
   try clear c67b0
   try clear c67b1
   try clear c83
   try clear hcz18_0
   try clear hcz18_1
   try clear hcz27_0
   try clear hcz27_1
   try clear hcz75_0
   try clear hcz75_1
   try clear hfz18_0
   try clear hfz18_1
   try clear hfz27_0
   try clear hfz27_1
   try clear hfz75_0
   try clear hfz75_1
   obtain ⟨kq, x113_71, rfl, HA, HJ71, HO_11, BK770, HB⟩ := hcut
   have hl11_71 := (Kd.R_reads' HO_11.out).1
   rw [hl11_71] at HO_11
   (try simp only [hl11_71])
   (try simp only [hl11_71] at BK770)
   cases kq with
   | zero => exact absurd HA.out (by simp [laws_FnExactGreatestRight.j2])
   | succ kj71 =>
    have H := HA.out
    clear HA
    simp only [laws_FnExactGreatestRight.j2] at H
    by_cases c88 : x113_71 = true
    ·subst c88
     rw [if_pos rfl] at H
     obtain rfl := Option.some.inj H
     go_wp2
     go_ret
     exact ⟨tE, tB⟩
    replace c88 := Bool.eq_false_iff.mpr c88
    subst c88
    rw [if_neg (show ¬ (false = true) by decide)] at H
    obtain ⟨t825, A89, H⟩ := qBd H
    by_cases c90 : t825 < 0
    ·rw [if_pos c90] at H
     have c90b0 := decide_eq_true c90
     clear c90
     (try (have c90b0z := c90b0; simp only [hl11_71] at c90b0z))
     obtain rfl := Option.some.inj H
     go_wp2_with (first | ((with_reducible refine gQc (f := 14) rfl ?_); refine goesL_ (some 116) rfl rfl Try.func14 (by kernel_rfl) rfl #[.slice Ao73 t810.length co73, .int .i64 1] rfl tL ?_; (with_reducible refine (laws_heldInt64S.calls kj71 _ _ t810 1 t825 _ ?s1 ?s2 A89.out).mono ?_); (case s1 => exact tC ((Kd.R_reads' HO_11.out).2.2)); (case s2 => exact (Kd.R_reads' HO_11.out).2.1); rintro e w' ⟨rfl, ⟨nd, rfl⟩⟩; refine ⟨_, rfl, ?_⟩))
     go_ret
     exact ⟨tE, tB⟩
    rw [if_neg c90] at H
    have c90b0 := decide_eq_false c90
    clear c90
    (try (have c90b0z := c90b0; simp only [hl11_71] at c90b0z))
    by_cases c91 : t825 = t809
    ·rw [if_pos c91] at H
     have c91b0 := beq_iff_eq.mpr c91
     have c91b1 := bne_eq_false_iff_eq.mpr c91
     clear c91
     (try (have c91b0z := c91b0; simp only [hl11_71] at c91b0z))
     (try (have c91b1z := c91b1; simp only [hl11_71] at c91b1z))
     obtain rfl := Option.some.inj H
     go_wp2_with (first | ((with_reducible refine gQc (f := 14) rfl ?_); refine goesL_ (some 116) rfl rfl Try.func14 (by kernel_rfl) rfl #[.slice Ao73 t810.length co73, .int .i64 1] rfl tL ?_; (with_reducible refine (laws_heldInt64S.calls kj71 _ _ t810 1 t825 _ ?s1 ?s2 A89.out).mono ?_); (case s1 => exact tC ((Kd.R_reads' HO_11.out).2.2)); (case s2 => exact (Kd.R_reads' HO_11.out).2.1); rintro e w' ⟨rfl, ⟨nd, rfl⟩⟩; refine ⟨_, rfl, ?_⟩))
     go_ret
     exact ⟨tE, tB⟩
    rw [if_neg c91] at H
    have c91b0 := beq_eq_false_iff_ne.mpr c91
    have c91b1 := bne_iff_ne.mpr c91
    (try (have c91b0z := c91b0; simp only [hl11_71] at c91b0z))
    (try (have c91b1z := c91b1; simp only [hl11_71] at c91b1z))
    obtain rfl := Option.some.inj H
    go_wp2_with (first | ((with_reducible refine gQc (f := 14) rfl ?_); refine goesL_ (some 116) rfl rfl Try.func14 (by kernel_rfl) rfl #[.slice Ao73 t810.length co73, .int .i64 1] rfl tL ?_; (with_reducible refine (laws_heldInt64S.calls kj71 _ _ t810 1 t825 _ ?s1 ?s2 A89.out).mono ?_); (case s1 => exact tC ((Kd.R_reads' HO_11.out).2.2)); (case s2 => exact (Kd.R_reads' HO_11.out).2.1); rintro e w' ⟨rfl, ⟨nd, rfl⟩⟩; refine ⟨_, rfl, ?_⟩))
    go_ret
    exact ⟨tE, tB⟩
end Go.Proofs.Ytkhjoomjjdgkjaa.P
