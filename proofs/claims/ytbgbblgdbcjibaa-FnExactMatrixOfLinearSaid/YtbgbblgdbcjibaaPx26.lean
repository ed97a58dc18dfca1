/- Functions of the program and what they tell, as the printing program wrote it. -/
import Derived.Test.YtbgbblgdbcjibaaPx0
import Derived.Test.YtbgbblgdbcjibaaPx6
import Derived.Test.YtbgbblgdbcjibaaPx10
namespace Go.Proofs.Ytbgbblgdbcjibaa.P
open Go.Shelf Go.RowKit Go.Proofs.YtbgbblgdbcjibaaW.PrintWords Go.Proofs.YtbgbblgdbcjibaaW.PrintLast Go.Proofs.YtbgbblgdbcjibaaW.PrintMore
attribute [local go_sem] max2_int min2_int max_two min_two max_three min_three max_four min_four
set_option linter.unusedVariables false
set_option linter.unusedSimpArgs false
set_option maxHeartbeats 8000000
set_option maxRecDepth 100000
def spec_l03Based.f (k : Nat) (a0_0 : Int) (a0_1 : Int) (l1 : List Int) : Option (Int) := (spec_l01List.f k a0_0 a0_1 l1).bind fun t524 => (if t524 = 0 then ((spec_l01Basis.f k a0_0 a0_1 l1).bind fun t525 => (if t525 = true then (some t524) else (some 4))) else (some t524))
theorem spec_l03Based.mono : ∀ a0 a1 a2 k, LeO (spec_l03Based.f k a0 a1 a2) (spec_l03Based.f (k + 1) a0 a1 a2) := by
 intro a0 a1 a2 k
 unfold spec_l03Based.f
 repeat' first
  | (with_reducible first | apply spec_l01Basis.mono | apply spec_l01List.mono | exact LeO.refl _ | exact LeO.none _ | refine LeO.ite ?_ ?_ | refine LeO.bind ?_ (fun _ => ?_))
  | exact LeO.none _
  | refine LeO.ite ?_ ?_
  | refine LeO.bind ?_ (fun _ => ?_)
theorem spec_l03Based.calls (k : Nat) (a0_0 : Int) (a0_1 : Int) (A1 : Option Addr) (c1 : Nat) (l1 : List Int) (r : Int) (w : World) (hr1 : Kd.C (Kd.int .i64) w A1 l1.length l1) (hc1 : l1.length ≤ c1) (h : spec_l03Based.f k a0_0 a0_1 l1 = some r) :
 Calls Try.prog 58 #[.agg #[.int .i64 a0_0, .int .i64 a0_1], .slice A1 l1.length c1] w fun e w' => e = .returned (.int .i64 r) ∧ Below w.heap.size w w' := by
 have hu26 := Try.underlying26
 have HR1 := Aq.mk hr1
 have HC1 := Aq.mk hc1
 clear hr1 hc1
 have HB := Aq.mk (Below.refl w.heap.size w)
 have H : ((spec_l01List.f k a0_0 a0_1 l1).bind fun t524 => (if t524 = 0 then ((spec_l01Basis.f k a0_0 a0_1 l1).bind fun t525 => (if t525 = true then (some t524) else (some 4))) else (some t524))) = some r := h
 clear h
 obtain ⟨t524, A3, H⟩ := qBd H
 by_cases c4 : t524 = 0
 rotate_left
 ·rw [if_neg c4] at H
  have c4b0 := beq_eq_false_iff_ne.mpr c4
  have c4b1 := bne_iff_ne.mpr c4
  obtain rfl := Option.some.inj H
  go_enter Try.func58, Try.ntmps58
  go_wp2_with (first | ((with_reducible refine gQd (N := 2) rfl ?_); refine xQe ?hg (N := 2) ?hd (cs := #[.int .i64 a0_0, .int .i64 a0_1]) (t := 26) ?hr ?_; (case hd => rfl); (case hg => rfl); (case hr => exact tH); intro gb523 hg w17 hbox hb; refine qM4 (bQT tB hb) hbox (tZ w hg) (tZ w hg) ?_; clear HB; intro HB BK523 GW523 GE523; clear hb hbox hg; have hcz18_0 : w17.cell? ⟨gb523, 0, none⟩ = some (.int .i64 a0_0) := (kQC BK523.out 0).trans rfl; have hcz18_1 : w17.cell? ⟨gb523, 1, none⟩ = some (.int .i64 a0_1) := (kQC BK523.out 1).trans rfl; have hfz18_0 := kQF BK523.out 0; have hfz18_1 := kQF BK523.out 1) | ((with_reducible refine gQc (f := 43) rfl ?_); refine goesL_ (some 8) rfl rfl Try.func43 (by kernel_rfl) rfl #[.agg #[.int .i64 a0_0, .int .i64 a0_1], .slice A1 l1.length c1] rfl tL ?_; (with_reducible refine (spec_l01List.calls k a0_0 a0_1 _ _ l1 t524 _ ?s1 ?s2 A3.out).mono ?_); (case s1 => exact tC ((Kd.C_below HR1.out HB.out))); (case s2 => exact HC1.out); rintro e w19 ⟨rfl, hb⟩; refine ⟨_, rfl, ?_⟩; refine qM2 (tQ BK523.out hb) (bQT tB hb) ?_; clear BK523 HB; intro BK523 HB; (try clear hb); (try clear hb2); (try clear hk); (try clear hi)))
  go_ret
  exact ⟨tE, tB⟩
 rw [if_pos c4] at H
 have c4b0 := beq_iff_eq.mpr c4
 have c4b1 := bne_eq_false_iff_eq.mpr c4
 clear c4
 obtain ⟨t525, A5, H⟩ := qBd H
 by_cases c6 : t525 = true
 ·subst c6
  rw [if_pos rfl] at H
  obtain rfl := Option.some.inj H
  go_enter Try.func58, Try.ntmps58
  go_wp2_with (first | ((with_reducible refine gQd (N := 2) rfl ?_); refine xQe ?hg (N := 2) ?hd (cs := #[.int .i64 a0_0, .int .i64 a0_1]) (t := 26) ?hr ?_; (case hd => rfl); (case hg => rfl); (case hr => exact tH); intro gb523 hg w7 hbox hb; refine qM4 (bQT tB hb) hbox (tZ w hg) (tZ w hg) ?_; clear HB; intro HB BK523 GW523 GE523; clear hb hbox hg; have hcz8_0 : w7.cell? ⟨gb523, 0, none⟩ = some (.int .i64 a0_0) := (kQC BK523.out 0).trans rfl; have hcz8_1 : w7.cell? ⟨gb523, 1, none⟩ = some (.int .i64 a0_1) := (kQC BK523.out 1).trans rfl; have hfz8_0 := kQF BK523.out 0; have hfz8_1 := kQF BK523.out 1) | ((with_reducible refine gQc (f := 43) rfl ?_); refine goesL_ (some 8) rfl rfl Try.func43 (by kernel_rfl) rfl #[.agg #[.int .i64 a0_0, .int .i64 a0_1], .slice A1 l1.length c1] rfl tL ?_; (with_reducible refine (spec_l01List.calls k a0_0 a0_1 _ _ l1 t524 _ ?s1 ?s2 A3.out).mono ?_); (case s1 => exact tC ((Kd.C_below HR1.out HB.out))); (case s2 => exact HC1.out); rintro e w9 ⟨rfl, hb⟩; refine ⟨_, rfl, ?_⟩; refine qM2 (tQ BK523.out hb) (bQT tB hb) ?_; clear BK523 HB; intro BK523 HB; (try clear hb); (try clear hb2); (try clear hk); (try clear hi); have hcz10_0 : w9.cell? ⟨gb523, 0, none⟩ = some (.int .i64 a0_0) := (kQC BK523.out 0).trans rfl; have hcz10_1 : w9.cell? ⟨gb523, 1, none⟩ = some (.int .i64 a0_1) := (kQC BK523.out 1).trans rfl; have hfz10_0 := kQF BK523.out 0; have hfz10_1 := kQF BK523.out 1) | (go_at_call 30; (with_reducible refine (spec_l01Basis.calls k a0_0 a0_1 _ _ l1 true _ ?s1 ?s2 A5.out).mono ?_); (case s1 => exact tC ((Kd.C_below HR1.out HB.out))); (case s2 => exact HC1.out); rintro e w11 ⟨rfl, hb⟩; refine qM2 (tQ BK523.out hb) (bQT tB hb) ?_; clear BK523 HB; intro BK523 HB; (try clear hb); (try clear hb2); (try clear hk); (try clear hi)))
  go_ret
  exact ⟨tE, tB⟩
 replace c6 := Bool.eq_false_iff.mpr c6
 subst c6
 rw [if_neg (show ¬ (false = true) by decide)] at H
 obtain rfl := Option.some.inj H
 go_enter Try.func58, Try.ntmps58
 go_wp2_with (first | ((with_reducible refine gQd (N := 2) rfl ?_); refine xQe ?hg (N := 2) ?hd (cs := #[.int .i64 a0_0, .int .i64 a0_1]) (t := 26) ?hr ?_; (case hd => rfl); (case hg => rfl); (case hr => exact tH); intro gb523 hg w12 hbox hb; refine qM4 (bQT tB hb) hbox (tZ w hg) (tZ w hg) ?_; clear HB; intro HB BK523 GW523 GE523; clear hb hbox hg; have hcz13_0 : w12.cell? ⟨gb523, 0, none⟩ = some (.int .i64 a0_0) := (kQC BK523.out 0).trans rfl; have hcz13_1 : w12.cell? ⟨gb523, 1, none⟩ = some (.int .i64 a0_1) := (kQC BK523.out 1).trans rfl; have hfz13_0 := kQF BK523.out 0; have hfz13_1 := kQF BK523.out 1) | ((with_reducible refine gQc (f := 43) rfl ?_); refine goesL_ (some 8) rfl rfl Try.func43 (by kernel_rfl) rfl #[.agg #[.int .i64 a0_0, .int .i64 a0_1], .slice A1 l1.length c1] rfl tL ?_; (with_reducible refine (spec_l01List.calls k a0_0 a0_1 _ _ l1 t524 _ ?s1 ?s2 A3.out).mono ?_); (case s1 => exact tC ((Kd.C_below HR1.out HB.out))); (case s2 => exact HC1.out); rintro e w14 ⟨rfl, hb⟩; refine ⟨_, rfl, ?_⟩; refine qM2 (tQ BK523.out hb) (bQT tB hb) ?_; clear BK523 HB; intro BK523 HB; (try clear hb); (try clear hb2); (try clear hk); (try clear hi); have hcz15_0 : w14.cell? ⟨gb523, 0, none⟩ = some (.int .i64 a0_0) := (kQC BK523.out 0).trans rfl; have hcz15_1 : w14.cell? ⟨gb523, 1, none⟩ = some (.int .i64 a0_1) := (kQC BK523.out 1).trans rfl; have hfz15_0 := kQF BK523.out 0; have hfz15_1 := kQF BK523.out 1) | (go_at_call 30; (with_reducible refine (spec_l01Basis.calls k a0_0 a0_1 _ _ l1 false _ ?s1 ?s2 A5.out).mono ?_); (case s1 => exact tC ((Kd.C_below HR1.out HB.out))); (case s2 => exact HC1.out); rintro e w16 ⟨rfl, hb⟩; refine qM2 (tQ BK523.out hb) (bQT tB hb) ?_; clear BK523 HB; intro BK523 HB; (try clear hb); (try clear hb2); (try clear hk); (try clear hi)))
 go_ret
 exact ⟨tE, tB⟩
def spec_l03Coordinates.l0 : Nat → List Int → Int → Int → Option (Int)
  | 0, _, _, _ => none
  | k + 1, x0, x1, x5 => (spec_l01Sum.f k x0 x5).bind fun t526 => (if t526 = x1 then (some x5) else (spec_l03Coordinates.l0 k x0 x1 (wrap64 (x5 + 1))))
def spec_l03Coordinates.f (k : Nat) (l0 : List Int) (a1 : Int) : Option (Int) := spec_l03Coordinates.l0 k l0 a1 0
theorem spec_l03Coordinates.mono_l : ∀ k, (∀ y0 y1 y2, LeO (spec_l03Coordinates.l0 k y0 y1 y2) (spec_l03Coordinates.l0 (k + 1) y0 y1 y2))
 | 0 => fun _ _ _ r h => by simp [spec_l03Coordinates.l0] at h
 | k + 1 => by
  have ih0 := spec_l03Coordinates.mono_l k
  ·intro y0 y1 y2
   unfold spec_l03Coordinates.l0
   repeat' first
   | (with_reducible first | apply ih0 | apply spec_l01Sum.mono | exact LeO.refl _ | exact LeO.none _ | refine LeO.ite ?_ ?_ | refine LeO.bind ?_ (fun _ => ?_))
   | exact LeO.none _
   | refine LeO.ite ?_ ?_
   | refine LeO.bind ?_ (fun _ => ?_)
theorem spec_l03Coordinates.mono : ∀ a0 a1 k, LeO (spec_l03Coordinates.f k a0 a1) (spec_l03Coordinates.f (k + 1) a0 a1) := by
 intro a0 a1 k
 have ih0 := spec_l03Coordinates.mono_l k
 unfold spec_l03Coordinates.f
 repeat' first
  | (with_reducible first | apply ih0 | apply spec_l01Sum.mono | exact LeO.refl _ | exact LeO.none _ | refine LeO.ite ?_ ?_ | refine LeO.bind ?_ (fun _ => ?_))
  | exact LeO.none _
  | refine LeO.ite ?_ ?_
  | refine LeO.bind ?_ (fun _ => ?_)
theorem spec_l03Coordinates.calls (k : Nat) (A0 : Option Addr) (c0 : Nat) (l0 : List Int) (a1 : Int) (r : Int) (w : World) (hr0 : Kd.C (Kd.int .i64) w A0 l0.length l0) (hc0 : l0.length ≤ c0) (h : spec_l03Coordinates.f k l0 a1 = some r) :
 Calls Try.prog 59 #[.slice A0 l0.length c0, .int .i64 a1] w fun e w' => e = .returned (.int .i64 r) ∧ Dq w w' := by
 have HR0 := Aq.mk hr0
 have HC0 := Aq.mk hc0
 clear hr0 hc0
 have H : (spec_l03Coordinates.l0 k l0 a1 0) = some r := h
 clear h
 replace H' := Aq.mk H
 clear H
 go_enter Try.func59, Try.ntmps59
 go_wp2
 go_loopg [5] k (fun kq v5 w' => ∃ (x5_1 : Int), v5 = .int .i64 x5_1 ∧ Aq (spec_l03Coordinates.l0 kq l0 a1 x5_1 = some r) ∧ Aq (kq ≤ k) ∧ Dq w w')
 case atStart => exact ⟨(0), tS, H', ⟨Nat.le_refl _⟩, tD⟩
 clear H'
 obtain ⟨x5_1, rfl, HA, HK1, ⟨m1, rfl⟩⟩ := hrel
 cases gk with
 | zero => exact absurd HA.out (by simp [spec_l03Coordinates.l0])
 | succ k1 =>
  have H := HA.out
  clear HA
  simp only [spec_l03Coordinates.l0] at H
  obtain ⟨t526, A3, H⟩ := qBd H
  by_cases c4 : t526 = a1
  ·rw [if_pos c4] at H
   have c4b0 := beq_iff_eq.mpr c4
   have c4b1 := bne_eq_false_iff_eq.mpr c4
   clear c4
   obtain rfl := Option.some.inj H
   go_wp2_with (first | ((with_reducible refine gQc (f := 45) rfl ?_); refine goesL_ (some 8) rfl rfl Try.func45 (by kernel_rfl) rfl #[.slice A0 l0.length c0, .int .i64 x5_1] rfl tL ?_; (with_reducible refine (spec_l01Sum.calls k1 _ _ l0 x5_1 t526 _ ?s1 ?s2 A3.out).mono ?_); (case s1 => exact tC HR0.out); (case s2 => exact HC0.out); rintro e w' ⟨rfl, ⟨nd, rfl⟩⟩; refine ⟨_, rfl, ?_⟩))
   go_ret
   exact ⟨tS, tD⟩
  rw [if_neg c4] at H
  have c4b0 := beq_eq_false_iff_ne.mpr c4
  have c4b1 := bne_iff_ne.mpr c4
  replace H' := Aq.mk H
  clear H
  go_wp2_with (first | ((with_reducible refine gQc (f := 45) rfl ?_); refine goesL_ (some 8) rfl rfl Try.func45 (by kernel_rfl) rfl #[.slice A0 l0.length c0, .int .i64 x5_1] rfl tL ?_; (with_reducible refine (spec_l01Sum.calls k1 _ _ l0 x5_1 t526 _ ?s1 ?s2 A3.out).mono ?_); (case s1 => exact tC HR0.out); (case s2 => exact HC0.out); rintro e w' ⟨rfl, ⟨nd, rfl⟩⟩; refine ⟨_, rfl, ?_⟩))
  go_roundg k1
  case measure => have := HK1.out; omega
  case rel => exact ⟨(wrap64 (x5_1 + 1)), tS, H', ⟨by have := HK1.out; omega⟩, tD⟩
end Go.Proofs.Ytbgbblgdbcjibaa.P
