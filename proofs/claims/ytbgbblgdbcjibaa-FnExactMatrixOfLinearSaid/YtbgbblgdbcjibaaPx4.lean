/- Functions of the program and what they tell, as the printing program wrote it. -/
import Derived.Test.YtbgbblgdbcjibaaPx0
import Derived.Test.YtbgbblgdbcjibaaPx2
namespace Go.Proofs.Ytbgbblgdbcjibaa.P
open Go.Shelf Go.RowKit Go.Proofs.YtbgbblgdbcjibaaW.PrintWords Go.Proofs.YtbgbblgdbcjibaaW.PrintLast Go.Proofs.YtbgbblgdbcjibaaW.PrintMore
attribute [local go_sem] max2_int min2_int max_two min_two max_three min_three max_four min_four
set_option linter.unusedVariables false
set_option linter.unusedSimpArgs false
set_option maxHeartbeats 8000000
set_option maxRecDepth 100000
def impl_Field_code.f (k : Nat) (a0_0 : Int) (a0_1 : Int) (a1 : Bool) (l2 : List Int) : Option (Int) := (impl_ValidField.f k a0_0 a0_1).bind fun t156 => (if t156 = true then ((impl_Field_has.f k a0_0 a0_1 l2).bind fun t157 => (if t157 = true then (if a1 = true then (some 0) else (some 2)) else (some 2))) else (some 1))
theorem impl_Field_code.mono : ∀ a0 a1 a2 a3 k, LeO (impl_Field_code.f k a0 a1 a2 a3) (impl_Field_code.f (k + 1) a0 a1 a2 a3) := by
 intro a0 a1 a2 a3 k
 unfold impl_Field_code.f
 repeat' first
  | (with_reducible first | apply impl_Field_has.mono | apply impl_ValidField.mono | exact LeO.refl _ | exact LeO.none _ | refine LeO.ite ?_ ?_ | refine LeO.bind ?_ (fun _ => ?_))
  | exact LeO.none _
  | refine LeO.ite ?_ ?_
  | refine LeO.bind ?_ (fun _ => ?_)
theorem impl_Field_code.calls (k : Nat) (a0_0 : Int) (a0_1 : Int) (a1 : Bool) (A2 : Option Addr) (c2 : Nat) (l2 : List Int) (r : Int) (w : World) (hr2 : Kd.C (Kd.int .i64) w A2 l2.length l2) (hc2 : l2.length ≤ c2) (h : impl_Field_code.f k a0_0 a0_1 a1 l2 = some r) :
 Calls Try.prog 32 #[.agg #[.int .i64 a0_0, .int .i64 a0_1], .bool a1, .slice A2 l2.length c2] w fun e w' => e = .returned (.int .i64 r) ∧ Below w.heap.size w w' := by
 have hu26 := Try.underlying26
 have HR2 := Aq.mk hr2
 have HC2 := Aq.mk hc2
 clear hr2 hc2
 have HB := Aq.mk (Below.refl w.heap.size w)
 have H : ((impl_ValidField.f k a0_0 a0_1).bind fun t156 => (if t156 = true then ((impl_Field_has.f k a0_0 a0_1 l2).bind fun t157 => (if t157 = true then (if a1 = true then (some 0) else (some 2)) else (some 2))) else (some 1))) = some r := h
 clear h
 obtain ⟨t156, A4, H⟩ := qBd H
 by_cases c5 : t156 = true
 rotate_left
 ·replace c5 := Bool.eq_false_iff.mpr c5
  subst c5
  rw [if_neg (show ¬ (false = true) by decide)] at H
  obtain rfl := Option.some.inj H
  go_enter Try.func32, Try.ntmps32
  go_wp2_with (first | ((with_reducible refine gQd (N := 3) rfl ?_); refine xQe ?hg (N := 3) ?hd (cs := #[.int .i64 a0_0, .int .i64 a0_1]) (t := 26) ?hr ?_; (case hd => rfl); (case hg => rfl); (case hr => exact tH); intro gb155 hg w24 hbox hb; refine qM4 (bQT tB hb) hbox (tZ w hg) (tZ w hg) ?_; clear HB; intro HB BK155 GW155 GE155; clear hb hbox hg; have hcz25_0 : w24.cell? ⟨gb155, 0, none⟩ = some (.int .i64 a0_0) := (kQC BK155.out 0).trans rfl; have hcz25_1 : w24.cell? ⟨gb155, 1, none⟩ = some (.int .i64 a0_1) := (kQC BK155.out 1).trans rfl; have hfz25_0 := kQF BK155.out 0; have hfz25_1 := kQF BK155.out 1) | ((with_reducible refine gQc (f := 63) rfl ?_); refine goesL_ (some 9) rfl rfl Try.func63 (by kernel_rfl) rfl #[.agg #[.int .i64 a0_0, .int .i64 a0_1]] rfl tL ?_; (with_reducible refine (impl_ValidField.calls k a0_0 a0_1 false _ A4.out).mono ?_); rintro e w26 ⟨rfl, hb⟩; refine ⟨_, rfl, ?_⟩; refine qM2 (tQ BK155.out hb) (bQT tB hb) ?_; clear BK155 HB; intro BK155 HB; (try clear hb); (try clear hb2); (try clear hk); (try clear hi)))
  go_ret
  exact ⟨tE, tB⟩
 subst c5
 rw [if_pos rfl] at H
 obtain ⟨t157, A6, H⟩ := qBd H
 by_cases c7 : t157 = true
 rotate_left
 ·replace c7 := Bool.eq_false_iff.mpr c7
  subst c7
  rw [if_neg (show ¬ (false = true) by decide)] at H
  obtain rfl := Option.some.inj H
  go_enter Try.func32, Try.ntmps32
  go_wp2_with (first | ((with_reducible refine gQd (N := 3) rfl ?_); refine xQe ?hg (N := 3) ?hd (cs := #[.int .i64 a0_0, .int .i64 a0_1]) (t := 26) ?hr ?_; (case hd => rfl); (case hg => rfl); (case hr => exact tH); intro gb155 hg w19 hbox hb; refine qM4 (bQT tB hb) hbox (tZ w hg) (tZ w hg) ?_; clear HB; intro HB BK155 GW155 GE155; clear hb hbox hg; have hcz20_0 : w19.cell? ⟨gb155, 0, none⟩ = some (.int .i64 a0_0) := (kQC BK155.out 0).trans rfl; have hcz20_1 : w19.cell? ⟨gb155, 1, none⟩ = some (.int .i64 a0_1) := (kQC BK155.out 1).trans rfl; have hfz20_0 := kQF BK155.out 0; have hfz20_1 := kQF BK155.out 1) | ((with_reducible refine gQc (f := 63) rfl ?_); refine goesL_ (some 9) rfl rfl Try.func63 (by kernel_rfl) rfl #[.agg #[.int .i64 a0_0, .int .i64 a0_1]] rfl tL ?_; (with_reducible refine (impl_ValidField.calls k a0_0 a0_1 true _ A4.out).mono ?_); rintro e w21 ⟨rfl, hb⟩; refine ⟨_, rfl, ?_⟩; refine qM2 (tQ BK155.out hb) (bQT tB hb) ?_; clear BK155 HB; intro BK155 HB; (try clear hb); (try clear hb2); (try clear hk); (try clear hi); have hcz22_0 : w21.cell? ⟨gb155, 0, none⟩ = some (.int .i64 a0_0) := (kQC BK155.out 0).trans rfl; have hcz22_1 : w21.cell? ⟨gb155, 1, none⟩ = some (.int .i64 a0_1) := (kQC BK155.out 1).trans rfl; have hfz22_0 := kQF BK155.out 0; have hfz22_1 := kQF BK155.out 1) | ((with_reducible refine gQc (f := 64) rfl ?_); refine goesL_ (some 14) rfl rfl Try.func64 (by kernel_rfl) rfl #[.agg #[.int .i64 a0_0, .int .i64 a0_1], .slice A2 l2.length c2] rfl tL ?_; (with_reducible refine (impl_Field_has.calls k a0_0 a0_1 _ _ l2 false _ ?s1 ?s2 A6.out).mono ?_); (case s1 => exact tC ((Kd.C_below HR2.out HB.out))); (case s2 => exact HC2.out); rintro e w23 ⟨rfl, hb⟩; refine ⟨_, rfl, ?_⟩; refine qM2 (tQ BK155.out hb) (bQT tB hb) ?_; clear BK155 HB; intro BK155 HB; (try clear hb); (try clear hb2); (try clear hk); (try clear hi)))
  go_ret
  exact ⟨tE, tB⟩
 subst c7
 rw [if_pos rfl] at H
 by_cases c8 : a1 = true
 ·subst c8
  rw [if_pos rfl] at H
  obtain rfl := Option.some.inj H
  go_enter Try.func32, Try.ntmps32
  go_wp2_with (first | ((with_reducible refine gQd (N := 3) rfl ?_); refine xQe ?hg (N := 3) ?hd (cs := #[.int .i64 a0_0, .int .i64 a0_1]) (t := 26) ?hr ?_; (case hd => rfl); (case hg => rfl); (case hr => exact tH); intro gb155 hg w9 hbox hb; refine qM4 (bQT tB hb) hbox (tZ w hg) (tZ w hg) ?_; clear HB; intro HB BK155 GW155 GE155; clear hb hbox hg; have hcz10_0 : w9.cell? ⟨gb155, 0, none⟩ = some (.int .i64 a0_0) := (kQC BK155.out 0).trans rfl; have hcz10_1 : w9.cell? ⟨gb155, 1, none⟩ = some (.int .i64 a0_1) := (kQC BK155.out 1).trans rfl; have hfz10_0 := kQF BK155.out 0; have hfz10_1 := kQF BK155.out 1) | ((with_reducible refine gQc (f := 63) rfl ?_); refine goesL_ (some 9) rfl rfl Try.func63 (by kernel_rfl) rfl #[.agg #[.int .i64 a0_0, .int .i64 a0_1]] rfl tL ?_; (with_reducible refine (impl_ValidField.calls k a0_0 a0_1 true _ A4.out).mono ?_); rintro e w11 ⟨rfl, hb⟩; refine ⟨_, rfl, ?_⟩; refine qM2 (tQ BK155.out hb) (bQT tB hb) ?_; clear BK155 HB; intro BK155 HB; (try clear hb); (try clear hb2); (try clear hk); (try clear hi); have hcz12_0 : w11.cell? ⟨gb155, 0, none⟩ = some (.int .i64 a0_0) := (kQC BK155.out 0).trans rfl; have hcz12_1 : w11.cell? ⟨gb155, 1, none⟩ = some (.int .i64 a0_1) := (kQC BK155.out 1).trans rfl; have hfz12_0 := kQF BK155.out 0; have hfz12_1 := kQF BK155.out 1) | ((with_reducible refine gQc (f := 64) rfl ?_); refine goesL_ (some 14) rfl rfl Try.func64 (by kernel_rfl) rfl #[.agg #[.int .i64 a0_0, .int .i64 a0_1], .slice A2 l2.length c2] rfl tL ?_; (with_reducible refine (impl_Field_has.calls k a0_0 a0_1 _ _ l2 true _ ?s1 ?s2 A6.out).mono ?_); (case s1 => exact tC ((Kd.C_below HR2.out HB.out))); (case s2 => exact HC2.out); rintro e w13 ⟨rfl, hb⟩; refine ⟨_, rfl, ?_⟩; refine qM2 (tQ BK155.out hb) (bQT tB hb) ?_; clear BK155 HB; intro BK155 HB; (try clear hb); (try clear hb2); (try clear hk); (try clear hi)))
  go_ret
  exact ⟨tE, tB⟩
 replace c8 := Bool.eq_false_iff.mpr c8
 subst c8
 rw [if_neg (show ¬ (false = true) by decide)] at H
 obtain rfl := Option.some.inj H
 go_enter Try.func32, Try.ntmps32
 go_wp2_with (first | ((with_reducible refine gQd (N := 3) rfl ?_); refine xQe ?hg (N := 3) ?hd (cs := #[.int .i64 a0_0, .int .i64 a0_1]) (t := 26) ?hr ?_; (case hd => rfl); (case hg => rfl); (case hr => exact tH); intro gb155 hg w14 hbox hb; refine qM4 (bQT tB hb) hbox (tZ w hg) (tZ w hg) ?_; clear HB; intro HB BK155 GW155 GE155; clear hb hbox hg; have hcz15_0 : w14.cell? ⟨gb155, 0, none⟩ = some (.int .i64 a0_0) := (kQC BK155.out 0).trans rfl; have hcz15_1 : w14.cell? ⟨gb155, 1, none⟩ = some (.int .i64 a0_1) := (kQC BK155.out 1).trans rfl; have hfz15_0 := kQF BK155.out 0; have hfz15_1 := kQF BK155.out 1) | ((with_reducible refine gQc (f := 63) rfl ?_); refine goesL_ (some 9) rfl rfl Try.func63 (by kernel_rfl) rfl #[.agg #[.int .i64 a0_0, .int .i64 a0_1]] rfl tL ?_; (with_reducible refine (impl_ValidField.calls k a0_0 a0_1 true _ A4.out).mono ?_); rintro e w16 ⟨rfl, hb⟩; refine ⟨_, rfl, ?_⟩; refine qM2 (tQ BK155.out hb) (bQT tB hb) ?_; clear BK155 HB; intro BK155 HB; (try clear hb); (try clear hb2); (try clear hk); (try clear hi); have hcz17_0 : w16.cell? ⟨gb155, 0, none⟩ = some (.int .i64 a0_0) := (kQC BK155.out 0).trans rfl; have hcz17_1 : w16.cell? ⟨gb155, 1, none⟩ = some (.int .i64 a0_1) := (kQC BK155.out 1).trans rfl; have hfz17_0 := kQF BK155.out 0; have hfz17_1 := kQF BK155.out 1) | ((with_reducible refine gQc (f := 64) rfl ?_); refine goesL_ (some 14) rfl rfl Try.func64 (by kernel_rfl) rfl #[.agg #[.int .i64 a0_0, .int .i64 a0_1], .slice A2 l2.length c2] rfl tL ?_; (with_reducible refine (impl_Field_has.calls k a0_0 a0_1 _ _ l2 true _ ?s1 ?s2 A6.out).mono ?_); (case s1 => exact tC ((Kd.C_below HR2.out HB.out))); (case s2 => exact HC2.out); rintro e w18 ⟨rfl, hb⟩; refine ⟨_, rfl, ?_⟩; refine qM2 (tQ BK155.out hb) (bQT tB hb) ?_; clear BK155 HB; intro BK155 HB; (try clear hb); (try clear hb2); (try clear hk); (try clear hi)))
 go_ret
 exact ⟨tE, tB⟩
end Go.Proofs.Ytbgbblgdbcjibaa.P
