/- Functions of the program and what they tell, as the printing program wrote it. -/
import Derived.Test.YtbalkaphibnpcaaPx0
import Derived.Test.YtbalkaphibnpcaaPx1
import Derived.Test.YtbalkaphibnpcaaPx5
namespace Go.Proofs.Ytbalkaphibnpcaa.P
open Go.Shelf Go.RowKit Go.Proofs.YtbalkaphibnpcaaW.PrintWords Go.Proofs.YtbalkaphibnpcaaW.PrintLast Go.Proofs.YtbalkaphibnpcaaW.PrintMore
attribute [local go_sem] max2_int min2_int max_two min_two max_three min_three max_four min_four
set_option linter.unusedVariables false
set_option linter.unusedSimpArgs false
set_option maxHeartbeats 8000000
set_option maxRecDepth 100000
def laws_szNet.f (k : Nat) (a0_0 : Int) (a0_1 : Int) (a0_2 : Int) (a0_3 : Int) (l0_4 : List (List Int)) (l0_5 : List (List Int)) (a1 : Int) : Option (Int) := (laws_szInt64SS.f k l0_4 a1).bind fun t361 => (if t361 < 0 then (some (-1)) else ((laws_szInt64SS.f k l0_5 t361).bind fun t362 => (if t362 < 0 then (some (-1)) else (some t362))))
theorem laws_szNet.mono : ∀ a0 a1 a2 a3 a4 a5 a6 k, LeO (laws_szNet.f k a0 a1 a2 a3 a4 a5 a6) (laws_szNet.f (k + 1) a0 a1 a2 a3 a4 a5 a6) := by
 intro a0 a1 a2 a3 a4 a5 a6 k
 unfold laws_szNet.f
 repeat' first
  | (with_reducible first | apply laws_szInt64SS.mono | exact LeO.refl _ | exact LeO.none _ | refine LeO.ite ?_ ?_ | refine LeO.bind ?_ (fun _ => ?_))
  | exact LeO.none _
  | refine LeO.ite ?_ ?_
  | refine LeO.bind ?_ (fun _ => ?_)
theorem laws_szNet.calls (k : Nat) (a0_0 : Int) (a0_1 : Int) (a0_2 : Int) (a0_3 : Int) (A0_4 : Option Addr) (c0_4 : Nat) (l0_4 : List (List Int)) (A0_5 : Option Addr) (c0_5 : Nat) (l0_5 : List (List Int)) (a1 : Int) (r : Int) (w : World) (hr0_4 : Kd.C (Kd.slice 2 (Kd.int .i64)) w A0_4 l0_4.length l0_4) (hc0_4 : l0_4.length ≤ c0_4) (hr0_5 : Kd.C (Kd.slice 2 (Kd.int .i64)) w A0_5 l0_5.length l0_5) (hc0_5 : l0_5.length ≤ c0_5) (h : laws_szNet.f k a0_0 a0_1 a0_2 a0_3 l0_4 l0_5 a1 = some r) :
 Calls Try.prog 18 #[.agg #[.int .i64 a0_0, .int .i64 a0_1, .int .i64 a0_2, .int .i64 a0_3, .slice A0_4 l0_4.length c0_4, .slice A0_5 l0_5.length c0_5], .int .i64 a1] w fun e w' => e = .returned (.int .i64 r) ∧ Below w.heap.size w w' := by
 have hu36 := Try.underlying36
 have HR0_4 := Aq.mk hr0_4
 have HC0_4 := Aq.mk hc0_4
 clear hr0_4 hc0_4
 have HR0_5 := Aq.mk hr0_5
 have HC0_5 := Aq.mk hc0_5
 clear hr0_5 hc0_5
 have HB := Aq.mk (Below.refl w.heap.size w)
 have H : ((laws_szInt64SS.f k l0_4 a1).bind fun t361 => (if t361 < 0 then (some (-1)) else ((laws_szInt64SS.f k l0_5 t361).bind fun t362 => (if t362 < 0 then (some (-1)) else (some t362))))) = some r := h
 clear h
 obtain ⟨t361, A3, H⟩ := qBd H
 by_cases c4 : t361 < 0
 ·rw [if_pos c4] at H
  have c4b0 := decide_eq_true c4
  clear c4
  obtain rfl := Option.some.inj H
  go_enter Try.func18, Try.ntmps18
  go_wp2_with (first | ((with_reducible refine gQd (N := 2) rfl ?_); refine xQe ?hg (N := 2) ?hd (cs := #[.int .i64 a0_0, .int .i64 a0_1, .int .i64 a0_2, .int .i64 a0_3, .slice A0_4 l0_4.length c0_4, .slice A0_5 l0_5.length c0_5]) (t := 36) ?hr ?_; (case hd => rfl); (case hg => rfl); (case hr => exact tH); intro gb360 hg w5 hbox hb; refine qM4 (bQT tB hb) hbox (tZ w hg) (tZ w hg) ?_; clear HB; intro HB BK360 GW360 GE360; clear hb hbox hg; have hcz6_0 : w5.cell? ⟨gb360, 0, none⟩ = some (.int .i64 a0_0) := (kQC BK360.out 0).trans rfl; have hcz6_1 : w5.cell? ⟨gb360, 1, none⟩ = some (.int .i64 a0_1) := (kQC BK360.out 1).trans rfl; have hcz6_2 : w5.cell? ⟨gb360, 2, none⟩ = some (.int .i64 a0_2) := (kQC BK360.out 2).trans rfl; have hcz6_3 : w5.cell? ⟨gb360, 3, none⟩ = some (.int .i64 a0_3) := (kQC BK360.out 3).trans rfl; have hcz6_4 : w5.cell? ⟨gb360, 4, none⟩ = some (.slice A0_4 l0_4.length c0_4) := (kQC BK360.out 4).trans rfl; have hcz6_5 : w5.cell? ⟨gb360, 5, none⟩ = some (.slice A0_5 l0_5.length c0_5) := (kQC BK360.out 5).trans rfl; have hfz6_0 := kQF BK360.out 0; have hfz6_1 := kQF BK360.out 1; have hfz6_2 := kQF BK360.out 2; have hfz6_3 := kQF BK360.out 3; have hfz6_4 := kQF BK360.out 4; have hfz6_5 := kQF BK360.out 5) | ((with_reducible refine gQc (f := 8) rfl ?_); refine goesL_ (some 8) rfl rfl Try.func8 (by kernel_rfl) rfl #[.slice A0_4 l0_4.length c0_4, .int .i64 a1] rfl tL ?_; (with_reducible refine (laws_szInt64SS.calls k _ _ l0_4 a1 t361 _ ?s1 ?s2 A3.out).mono ?_); (case s1 => exact tC ((Kd.C_below HR0_4.out HB.out))); (case s2 => exact HC0_4.out); rintro e w' ⟨rfl, ⟨nd, rfl⟩⟩; refine ⟨_, rfl, ?_⟩))
  go_ret
  exact ⟨tE, tB⟩
 rw [if_neg c4] at H
 have c4b0 := decide_eq_false c4
 clear c4
 obtain ⟨t362, A7, H⟩ := qBd H
 by_cases c8 : t362 < 0
 ·rw [if_pos c8] at H
  have c8b0 := decide_eq_true c8
  clear c8
  obtain rfl := Option.some.inj H
  go_enter Try.func18, Try.ntmps18
  go_wp2_with (first | ((with_reducible refine gQd (N := 2) rfl ?_); refine xQe ?hg (N := 2) ?hd (cs := #[.int .i64 a0_0, .int .i64 a0_1, .int .i64 a0_2, .int .i64 a0_3, .slice A0_4 l0_4.length c0_4, .slice A0_5 l0_5.length c0_5]) (t := 36) ?hr ?_; (case hd => rfl); (case hg => rfl); (case hr => exact tH); intro gb360 hg w9 hbox hb; refine qM4 (bQT tB hb) hbox (tZ w hg) (tZ w hg) ?_; clear HB; intro HB BK360 GW360 GE360; clear hb hbox hg; have hcz10_0 : w9.cell? ⟨gb360, 0, none⟩ = some (.int .i64 a0_0) := (kQC BK360.out 0).trans rfl; have hcz10_1 : w9.cell? ⟨gb360, 1, none⟩ = some (.int .i64 a0_1) := (kQC BK360.out 1).trans rfl; have hcz10_2 : w9.cell? ⟨gb360, 2, none⟩ = some (.int .i64 a0_2) := (kQC BK360.out 2).trans rfl; have hcz10_3 : w9.cell? ⟨gb360, 3, none⟩ = some (.int .i64 a0_3) := (kQC BK360.out 3).trans rfl; have hcz10_4 : w9.cell? ⟨gb360, 4, none⟩ = some (.slice A0_4 l0_4.length c0_4) := (kQC BK360.out 4).trans rfl; have hcz10_5 : w9.cell? ⟨gb360, 5, none⟩ = some (.slice A0_5 l0_5.length c0_5) := (kQC BK360.out 5).trans rfl; have hfz10_0 := kQF BK360.out 0; have hfz10_1 := kQF BK360.out 1; have hfz10_2 := kQF BK360.out 2; have hfz10_3 := kQF BK360.out 3; have hfz10_4 := kQF BK360.out 4; have hfz10_5 := kQF BK360.out 5) | ((with_reducible refine gQc (f := 8) rfl ?_); refine goesL_ (some 8) rfl rfl Try.func8 (by kernel_rfl) rfl #[.slice A0_4 l0_4.length c0_4, .int .i64 a1] rfl tL ?_; (with_reducible refine (laws_szInt64SS.calls k _ _ l0_4 a1 t361 _ ?s1 ?s2 A3.out).mono ?_); (case s1 => exact tC ((Kd.C_below HR0_4.out HB.out))); (case s2 => exact HC0_4.out); rintro e w' ⟨rfl, ⟨nd, rfl⟩⟩; refine ⟨_, rfl, ?_⟩) | ((with_reducible refine gQc (f := 8) rfl ?_); refine goesL_ (some 14) rfl rfl Try.func8 (by kernel_rfl) rfl #[.slice A0_5 l0_5.length c0_5, .int .i64 t361] rfl tL ?_; (with_reducible refine (laws_szInt64SS.calls k _ _ l0_5 t361 t362 _ ?s1 ?s2 A7.out).mono ?_); (case s1 => exact tC ((Kd.C_below HR0_5.out tB))); (case s2 => exact HC0_5.out); rintro e w' ⟨rfl, ⟨nd, rfl⟩⟩; refine ⟨_, rfl, ?_⟩))
  go_ret
  exact ⟨tE, tB⟩
 rw [if_neg c8] at H
 have c8b0 := decide_eq_false c8
 clear c8
 obtain rfl := Option.some.inj H
 go_enter Try.func18, Try.ntmps18
 go_wp2_with (first | ((with_reducible refine gQd (N := 2) rfl ?_); refine xQe ?hg (N := 2) ?hd (cs := #[.int .i64 a0_0, .int .i64 a0_1, .int .i64 a0_2, .int .i64 a0_3, .slice A0_4 l0_4.length c0_4, .slice A0_5 l0_5.length c0_5]) (t := 36) ?hr ?_; (case hd => rfl); (case hg => rfl); (case hr => exact tH); intro gb360 hg w11 hbox hb; refine qM4 (bQT tB hb) hbox (tZ w hg) (tZ w hg) ?_; clear HB; intro HB BK360 GW360 GE360; clear hb hbox hg; have hcz12_0 : w11.cell? ⟨gb360, 0, none⟩ = some (.int .i64 a0_0) := (kQC BK360.out 0).trans rfl; have hcz12_1 : w11.cell? ⟨gb360, 1, none⟩ = some (.int .i64 a0_1) := (kQC BK360.out 1).trans rfl; have hcz12_2 : w11.cell? ⟨gb360, 2, none⟩ = some (.int .i64 a0_2) := (kQC BK360.out 2).trans rfl; have hcz12_3 : w11.cell? ⟨gb360, 3, none⟩ = some (.int .i64 a0_3) := (kQC BK360.out 3).trans rfl; have hcz12_4 : w11.cell? ⟨gb360, 4, none⟩ = some (.slice A0_4 l0_4.length c0_4) := (kQC BK360.out 4).trans rfl; have hcz12_5 : w11.cell? ⟨gb360, 5, none⟩ = some (.slice A0_5 l0_5.length c0_5) := (kQC BK360.out 5).trans rfl; have hfz12_0 := kQF BK360.out 0; have hfz12_1 := kQF BK360.out 1; have hfz12_2 := kQF BK360.out 2; have hfz12_3 := kQF BK360.out 3; have hfz12_4 := kQF BK360.out 4; have hfz12_5 := kQF BK360.out 5) | ((with_reducible refine gQc (f := 8) rfl ?_); refine goesL_ (some 8) rfl rfl Try.func8 (by kernel_rfl) rfl #[.slice A0_4 l0_4.length c0_4, .int .i64 a1] rfl tL ?_; (with_reducible refine (laws_szInt64SS.calls k _ _ l0_4 a1 t361 _ ?s1 ?s2 A3.out).mono ?_); (case s1 => exact tC ((Kd.C_below HR0_4.out HB.out))); (case s2 => exact HC0_4.out); rintro e w' ⟨rfl, ⟨nd, rfl⟩⟩; refine ⟨_, rfl, ?_⟩) | ((with_reducible refine gQc (f := 8) rfl ?_); refine goesL_ (some 14) rfl rfl Try.func8 (by kernel_rfl) rfl #[.slice A0_5 l0_5.length c0_5, .int .i64 t361] rfl tL ?_; (with_reducible refine (laws_szInt64SS.calls k _ _ l0_5 t361 t362 _ ?s1 ?s2 A7.out).mono ?_); (case s1 => exact tC ((Kd.C_below HR0_5.out tB))); (case s2 => exact HC0_5.out); rintro e w' ⟨rfl, ⟨nd, rfl⟩⟩; refine ⟨_, rfl, ?_⟩))
 go_ret
 exact ⟨tE, tB⟩
def spec_l00Rises.l0 : Nat → List Int → Int → Int → Int → Option (Bool)
  | 0, _, _, _, _ => none
  | k + 1, x0, x1, x2, x7 => if x7 < (x0.length : Int) then (if 0 ≤ x7 then ((spec_l00In.f (rd x0 x7) x1 x2).bind fun t364 => (if t364 = true then (if x7 > 0 then (if 0 ≤ (wrap64 (x7 - 1)) then (if (wrap64 (x7 - 1)) < (x0.length : Int) then (if (rd x0 (wrap64 (x7 - 1))) ≥ (rd x0 x7) then (some false) else (spec_l00Rises.l0 k x0 x1 x2 (wrap64 (x7 + 1)))) else (none)) else (none)) else (spec_l00Rises.l0 k x0 x1 x2 (wrap64 (x7 + 1)))) else (some false))) else (none)) else (some true)
def spec_l00Rises.f (k : Nat) (l0 : List Int) (a1 : Int) (a2 : Int) : Option (Bool) := spec_l00Rises.l0 k l0 a1 a2 0
theorem spec_l00Rises.mono_l : ∀ k, (∀ y0 y1 y2 y3, LeO (spec_l00Rises.l0 k y0 y1 y2 y3) (spec_l00Rises.l0 (k + 1) y0 y1 y2 y3))
 | 0 => fun _ _ _ _ r h => by simp [spec_l00Rises.l0] at h
 | k + 1 => by
  have ih0 := spec_l00Rises.mono_l k
  ·intro y0 y1 y2 y3
   unfold spec_l00Rises.l0
   repeat' first
   | (with_reducible first | apply ih0 | exact LeO.refl _ | exact LeO.none _ | refine LeO.ite ?_ ?_ | refine LeO.bind ?_ (fun _ => ?_))
   | exact LeO.none _
   | refine LeO.ite ?_ ?_
   | refine LeO.bind ?_ (fun _ => ?_)
theorem spec_l00Rises.mono : ∀ a0 a1 a2 k, LeO (spec_l00Rises.f k a0 a1 a2) (spec_l00Rises.f (k + 1) a0 a1 a2) := by
 intro a0 a1 a2 k
 have ih0 := spec_l00Rises.mono_l k
 unfold spec_l00Rises.f
 repeat' first
  | (with_reducible first | apply ih0 | exact LeO.refl _ | exact LeO.none _ | refine LeO.ite ?_ ?_ | refine LeO.bind ?_ (fun _ => ?_))
  | exact LeO.none _
  | refine LeO.ite ?_ ?_
  | refine LeO.bind ?_ (fun _ => ?_)
theorem spec_l00Rises.calls (k : Nat) (A0 : Option Addr) (c0 : Nat) (l0 : List Int) (a1 : Int) (a2 : Int) (r : Bool) (w : World) (hr0 : Kd.C (Kd.int .i64) w A0 l0.length l0) (hc0 : l0.length ≤ c0) (h : spec_l00Rises.f k l0 a1 a2 = some r) :
 Calls Try.prog 107 #[.slice A0 l0.length c0, .int .i64 a1, .int .i64 a2] w fun e w' => e = .returned (.bool r) ∧ Dq w w' := by
 have HR0 := Aq.mk hr0
 have HC0 := Aq.mk hc0
 clear hr0 hc0
 have H : (spec_l00Rises.l0 k l0 a1 a2 0) = some r := h
 clear h
 replace H' := Aq.mk H
 clear H
 go_enter Try.func107, Try.ntmps107
 go_wp2
 repeat (go_quiet (fail); try go_wp2)
 go_loopg [7] k (fun kq v7 w' => ∃ (x7_1 : Int), v7 = .int .i64 x7_1 ∧ Aq (spec_l00Rises.l0 kq l0 a1 a2 x7_1 = some r) ∧ Aq (kq ≤ k) ∧ Dq w w')
 case atStart => exact ⟨(0), tS, H', ⟨Nat.le_refl _⟩, tD⟩
 clear H'
 obtain ⟨x7_1, rfl, HA, HK1, ⟨m1, rfl⟩⟩ := hrel
 cases gk with
 | zero => exact absurd HA.out (by simp [spec_l00Rises.l0])
 | succ k1 =>
  have H := HA.out
  clear HA
  simp only [spec_l00Rises.l0] at H
  by_cases c4 : x7_1 < (l0.length : Int)
  rotate_left
  ·rw [if_neg c4] at H
   have c4b0 := decide_eq_false c4
   clear c4
   obtain rfl := Option.some.inj H
   go_wp2
   repeat (go_quiet (fail); try go_wp2)
   go_ret
   exact ⟨tS, tD⟩
  rw [if_pos c4] at H
  have c4b0 := decide_eq_true c4
  clear c4
  by_cases c5 : 0 ≤ x7_1
  rotate_left
  ·rw [if_neg c5] at H
   exact absurd H (by simp)
  rw [if_pos c5] at H
  have c5b0 := decide_eq_true c5
  clear c5
  obtain ⟨t364, A6, H⟩ := qBd H
  by_cases c7 : t364 = true
  rotate_left
  ·replace c7 := Bool.eq_false_iff.mpr c7
   subst c7
   rw [if_neg (show ¬ (false = true) by decide)] at H
   obtain rfl := Option.some.inj H
   have p363 : 0 ≤ (x7_1 : Int) := of_decide_eq_true tA
   have q363 : x7_1 < (l0.length : Int) := of_decide_eq_true tA
   obtain ⟨ad363, e363, hx363_0⟩ := Kd.at_int HR0.out x7_1 p363 q363
   cases e363
   replace p363 := eq_true p363
   replace q363 := eq_true q363
   go_wp2_with (first | (go_at_call 62; (with_reducible refine (spec_l00In.calls (rd l0 x7_1) a1 a2 false _ A6.out).mono ?_); rintro e w' ⟨rfl, ⟨nd, rfl⟩⟩; (try exact tW)))
   repeat (go_quiet (first | (go_at_call 62; (with_reducible refine (spec_l00In.calls (rd l0 x7_1) a1 a2 false _ A6.out).mono ?_); rintro e w' ⟨rfl, ⟨nd, rfl⟩⟩; (try exact tW))); try go_wp2_with (first | (go_at_call 62; (with_reducible refine (spec_l00In.calls (rd l0 x7_1) a1 a2 false _ A6.out).mono ?_); rintro e w' ⟨rfl, ⟨nd, rfl⟩⟩; (try exact tW))))
   go_ret
   exact ⟨tS, tD⟩
  subst c7
  rw [if_pos rfl] at H
  by_cases c8 : x7_1 > 0
  rotate_left
  ·rw [if_neg c8] at H
   have c8b0 := decide_eq_false c8
   clear c8
   replace H' := Aq.mk H
   clear H
   have p363 : 0 ≤ (x7_1 : Int) := of_decide_eq_true tA
   have q363 : x7_1 < (l0.length : Int) := of_decide_eq_true tA
   obtain ⟨ad363, e363, hx363_0⟩ := Kd.at_int HR0.out x7_1 p363 q363
   cases e363
   replace p363 := eq_true p363
   replace q363 := eq_true q363
   go_wp2_with (first | (go_at_call 62; (with_reducible refine (spec_l00In.calls (rd l0 x7_1) a1 a2 true _ A6.out).mono ?_); rintro e w' ⟨rfl, ⟨nd, rfl⟩⟩; (try exact tW)))
   repeat (go_quiet (first | (go_at_call 62; (with_reducible refine (spec_l00In.calls (rd l0 x7_1) a1 a2 true _ A6.out).mono ?_); rintro e w' ⟨rfl, ⟨nd, rfl⟩⟩; (try exact tW))); try go_wp2_with (first | (go_at_call 62; (with_reducible refine (spec_l00In.calls (rd l0 x7_1) a1 a2 true _ A6.out).mono ?_); rintro e w' ⟨rfl, ⟨nd, rfl⟩⟩; (try exact tW))))
   go_roundg k1
   case measure => have := HK1.out; omega
   case rel => exact ⟨(wrap64 (x7_1 + 1)), tS, H', ⟨by have := HK1.out; omega⟩, tD⟩
  rw [if_pos c8] at H
  have c8b0 := decide_eq_true c8
  clear c8
  obtain ⟨ji9, hji9⟩ : ∃ j_ : Int, (wrap64 (x7_1 - 1)) = j_ := ⟨_, rfl⟩
  first | rw [hji9] at H | simp only [hji9] at H | skip
  (try rw [hji9] at A6)
  have hji9w : (IntKind.i64.wrap (x7_1 - 1)) = ji9 := (i64_w _).trans hji9
  by_cases c10 : 0 ≤ (ji9)
  rotate_left
  ·rw [if_neg c10] at H
   exact absurd H (by simp)
  rw [if_pos c10] at H
  have c10b0 := decide_eq_true c10
  clear c10
  by_cases c11 : (ji9) < (l0.length : Int)
  rotate_left
  ·rw [if_neg c11] at H
   exact absurd H (by simp)
  rw [if_pos c11] at H
  have c11b0 := decide_eq_true c11
  clear c11
  by_cases c12 : (rd l0 (ji9)) ≥ (rd l0 x7_1)
  ·rw [if_pos c12] at H
   have c12b0 := decide_eq_true c12
   clear c12
   obtain rfl := Option.some.inj H
   have p363 : 0 ≤ (x7_1 : Int) := of_decide_eq_true tA
   have q363 : x7_1 < (l0.length : Int) := of_decide_eq_true tA
   obtain ⟨ad363, e363, hx363_0⟩ := Kd.at_int HR0.out x7_1 p363 q363
   cases e363
   replace p363 := eq_true p363
   replace q363 := eq_true q363
   go_wp2_with (first | (go_at_call 62; (with_reducible refine (spec_l00In.calls (rd l0 x7_1) a1 a2 true _ A6.out).mono ?_); rintro e w' ⟨rfl, ⟨nd, rfl⟩⟩; (try exact tW); have p365 : 0 ≤ ((ji9) : Int) := of_decide_eq_true tA; have q365 : (ji9) < (l0.length : Int) := of_decide_eq_true tA; obtain ⟨ad365, e365, hx365_0⟩ := Kd.at_int HR0.out (ji9) p365 q365; obtain rfl : ad363 = ad365 := (by injection e365); replace p365 := eq_true p365; replace q365 := eq_true q365; have p366 : 0 ≤ (x7_1 : Int) := of_decide_eq_true tA; have q366 : x7_1 < (l0.length : Int) := of_decide_eq_true tA; obtain ⟨ad366, e366, hx366_0⟩ := Kd.at_int HR0.out x7_1 p366 q366; obtain rfl : ad363 = ad366 := (by injection e366); replace p366 := eq_true p366; replace q366 := eq_true q366))
   repeat (go_quiet (first | (go_at_call 62; (with_reducible refine (spec_l00In.calls (rd l0 x7_1) a1 a2 true _ A6.out).mono ?_); rintro e w' ⟨rfl, ⟨nd, rfl⟩⟩; (try exact tW); have p365 : 0 ≤ ((ji9) : Int) := of_decide_eq_true tA; have q365 : (ji9) < (l0.length : Int) := of_decide_eq_true tA; obtain ⟨ad365, e365, hx365_0⟩ := Kd.at_int HR0.out (ji9) p365 q365; obtain rfl : ad363 = ad365 := (by injection e365); replace p365 := eq_true p365; replace q365 := eq_true q365; have p366 : 0 ≤ (x7_1 : Int) := of_decide_eq_true tA; have q366 : x7_1 < (l0.length : Int) := of_decide_eq_true tA; obtain ⟨ad366, e366, hx366_0⟩ := Kd.at_int HR0.out x7_1 p366 q366; obtain rfl : ad363 = ad366 := (by injection e366); replace p366 := eq_true p366; replace q366 := eq_true q366)); try go_wp2_with (first | (go_at_call 62; (with_reducible refine (spec_l00In.calls (rd l0 x7_1) a1 a2 true _ A6.out).mono ?_); rintro e w' ⟨rfl, ⟨nd, rfl⟩⟩; (try exact tW); have p365 : 0 ≤ ((ji9) : Int) := of_decide_eq_true tA; have q365 : (ji9) < (l0.length : Int) := of_decide_eq_true tA; obtain ⟨ad365, e365, hx365_0⟩ := Kd.at_int HR0.out (ji9) p365 q365; obtain rfl : ad363 = ad365 := (by injection e365); replace p365 := eq_true p365; replace q365 := eq_true q365; have p366 : 0 ≤ (x7_1 : Int) := of_decide_eq_true tA; have q366 : x7_1 < (l0.length : Int) := of_decide_eq_true tA; obtain ⟨ad366, e366, hx366_0⟩ := Kd.at_int HR0.out x7_1 p366 q366; obtain rfl : ad363 = ad366 := (by injection e366); replace p366 := eq_true p366; replace q366 := eq_true q366)))
   go_ret
   exact ⟨by first | rfl | (simp; done) | (simp only [← hji9] <;> (first | rfl | simp)) | (simp [*]; done), tD⟩
  rw [if_neg c12] at H
  have c12b0 := decide_eq_false c12
  clear c12
  replace H' := Aq.mk H
  clear H
  have p363 : 0 ≤ (x7_1 : Int) := of_decide_eq_true tA
  have q363 : x7_1 < (l0.length : Int) := of_decide_eq_true tA
  obtain ⟨ad363, e363, hx363_0⟩ := Kd.at_int HR0.out x7_1 p363 q363
  cases e363
  replace p363 := eq_true p363
  replace q363 := eq_true q363
  go_wp2_with (first | (go_at_call 62; (with_reducible refine (spec_l00In.calls (rd l0 x7_1) a1 a2 true _ A6.out).mono ?_); rintro e w' ⟨rfl, ⟨nd, rfl⟩⟩; (try exact tW); have p365 : 0 ≤ ((ji9) : Int) := of_decide_eq_true tA; have q365 : (ji9) < (l0.length : Int) := of_decide_eq_true tA; obtain ⟨ad365, e365, hx365_0⟩ := Kd.at_int HR0.out (ji9) p365 q365; obtain rfl : ad363 = ad365 := (by injection e365); replace p365 := eq_true p365; replace q365 := eq_true q365; have p366 : 0 ≤ (x7_1 : Int) := of_decide_eq_true tA; have q366 : x7_1 < (l0.length : Int) := of_decide_eq_true tA; obtain ⟨ad366, e366, hx366_0⟩ := Kd.at_int HR0.out x7_1 p366 q366; obtain rfl : ad363 = ad366 := (by injection e366); replace p366 := eq_true p366; replace q366 := eq_true q366))
  repeat (go_quiet (first | (go_at_call 62; (with_reducible refine (spec_l00In.calls (rd l0 x7_1) a1 a2 true _ A6.out).mono ?_); rintro e w' ⟨rfl, ⟨nd, rfl⟩⟩; (try exact tW); have p365 : 0 ≤ ((ji9) : Int) := of_decide_eq_true tA; have q365 : (ji9) < (l0.length : Int) := of_decide_eq_true tA; obtain ⟨ad365, e365, hx365_0⟩ := Kd.at_int HR0.out (ji9) p365 q365; obtain rfl : ad363 = ad365 := (by injection e365); replace p365 := eq_true p365; replace q365 := eq_true q365; have p366 : 0 ≤ (x7_1 : Int) := of_decide_eq_true tA; have q366 : x7_1 < (l0.length : Int) := of_decide_eq_true tA; obtain ⟨ad366, e366, hx366_0⟩ := Kd.at_int HR0.out x7_1 p366 q366; obtain rfl : ad363 = ad366 := (by injection e366); replace p366 := eq_true p366; replace q366 := eq_true q366)); try go_wp2_with (first | (go_at_call 62; (with_reducible refine (spec_l00In.calls (rd l0 x7_1) a1 a2 true _ A6.out).mono ?_); rintro e w' ⟨rfl, ⟨nd, rfl⟩⟩; (try exact tW); have p365 : 0 ≤ ((ji9) : Int) := of_decide_eq_true tA; have q365 : (ji9) < (l0.length : Int) := of_decide_eq_true tA; obtain ⟨ad365, e365, hx365_0⟩ := Kd.at_int HR0.out (ji9) p365 q365; obtain rfl : ad363 = ad365 := (by injection e365); replace p365 := eq_true p365; replace q365 := eq_true q365; have p366 : 0 ≤ (x7_1 : Int) := of_decide_eq_true tA; have q366 : x7_1 < (l0.length : Int) := of_decide_eq_true tA; obtain ⟨ad366, e366, hx366_0⟩ := Kd.at_int HR0.out x7_1 p366 q366; obtain rfl : ad363 = ad366 := (by injection e366); replace p366 := eq_true p366; replace q366 := eq_true q366)))
  go_roundg k1
  case measure => have := HK1.out; omega
  case rel => exact ⟨(wrap64 (x7_1 + 1)), tS, H', ⟨by have := HK1.out; omega⟩, tD⟩
def spec_l07Into.l0 : Nat → Int → List Int → Int → Int → Int → Int → Int → List (List Int) → List (List Int) → Option (List Int)
  | 0, _, _, _, _, _, _, _, _, _ => none
  | k + 1, x1, x5, x6, x41000, x41001, x41002, x41003, x41004, x41005 => if x6 < (x41004.length : Int) then (if 0 ≤ x6 then (if 1 < ((rd_L1 x41004 x6).length : Int) then (if (rd (rd_L1 x41004 x6) 1) = x1 then (if x5.length < 17592186044416 then (spec_l07Into.l0 k x1 (x5 ++ [x6]) (wrap64 (x6 + 1)) x41000 x41001 x41002 x41003 x41004 x41005) else (none)) else (spec_l07Into.l0 k x1 x5 (wrap64 (x6 + 1)) x41000 x41001 x41002 x41003 x41004 x41005)) else (none)) else (none)) else (some x5)
def spec_l07Into.f (k : Nat) (a0_0 : Int) (a0_1 : Int) (a0_2 : Int) (a0_3 : Int) (l0_4 : List (List Int)) (l0_5 : List (List Int)) (a1 : Int) : Option (List Int) := spec_l07Into.l0 k a1 (([] : List Int)) 0 a0_0 a0_1 a0_2 a0_3 l0_4 l0_5
theorem spec_l07Into.mono_l : ∀ k, (∀ y0 y1 y2 y3 y4 y5 y6 y7 y8, LeO (spec_l07Into.l0 k y0 y1 y2 y3 y4 y5 y6 y7 y8) (spec_l07Into.l0 (k + 1) y0 y1 y2 y3 y4 y5 y6 y7 y8))
 | 0 => fun _ _ _ _ _ _ _ _ _ r h => by simp [spec_l07Into.l0] at h
 | k + 1 => by
  have ih0 := spec_l07Into.mono_l k
  ·intro y0 y1 y2 y3 y4 y5 y6 y7 y8
   unfold spec_l07Into.l0
   repeat' first
   | (with_reducible first | apply ih0 | exact LeO.refl _ | exact LeO.none _ | refine LeO.ite ?_ ?_ | refine LeO.bind ?_ (fun _ => ?_))
   | exact LeO.none _
   | refine LeO.ite ?_ ?_
   | refine LeO.bind ?_ (fun _ => ?_)
theorem spec_l07Into.mono : ∀ a0 a1 a2 a3 a4 a5 a6 k, LeO (spec_l07Into.f k a0 a1 a2 a3 a4 a5 a6) (spec_l07Into.f (k + 1) a0 a1 a2 a3 a4 a5 a6) := by
 intro a0 a1 a2 a3 a4 a5 a6 k
 have ih0 := spec_l07Into.mono_l k
 unfold spec_l07Into.f
 repeat' first
  | (with_reducible first | apply ih0 | exact LeO.refl _ | exact LeO.none _ | refine LeO.ite ?_ ?_ | refine LeO.bind ?_ (fun _ => ?_))
  | exact LeO.none _
  | refine LeO.ite ?_ ?_
  | refine LeO.bind ?_ (fun _ => ?_)
theorem spec_l07Into.calls (k : Nat) (g0_0 : Addr) (a0_0 : Int) (a0_1 : Int) (a0_2 : Int) (a0_3 : Int) (A0_4 : Option Addr) (c0_4 : Nat) (l0_4 : List (List Int)) (A0_5 : Option Addr) (c0_5 : Nat) (l0_5 : List (List Int)) (a1 : Int) (r : List Int) (w : World) (hr0_4 : Kd.C (Kd.slice 2 (Kd.int .i64)) w A0_4 l0_4.length l0_4) (hc0_4 : l0_4.length ≤ c0_4) (hr0_5 : Kd.C (Kd.slice 2 (Kd.int .i64)) w A0_5 l0_5.length l0_5) (hc0_5 : l0_5.length ≤ c0_5) (hb0_0 : AtC w g0_0 [.int .i64 a0_0, .int .i64 a0_1, .int .i64 a0_2, .int .i64 a0_3, .slice A0_4 l0_4.length c0_4, .slice A0_5 l0_5.length c0_5]) (h : spec_l07Into.f k a0_0 a0_1 a0_2 a0_3 l0_4 l0_5 a1 = some r) :
 Calls Try.prog 48 #[.pointer (some g0_0), .int .i64 a1] w fun e w' => ∃ v0_ : Value, e = .returned (v0_) ∧ Kd.R (Kd.int .i64) 2 w' w.heap.size (fun _ => True) v0_ r ∧ Below w.heap.size w w' := by
 have HR0_4 := Aq.mk hr0_4
 have HC0_4 := Aq.mk hc0_4
 clear hr0_4 hc0_4
 have HR0_5 := Aq.mk hr0_5
 have HC0_5 := Aq.mk hc0_5
 clear hr0_5 hc0_5
 have BK40 := Aq.mk hb0_0
 clear hb0_0
 have HB := Aq.mk (Below.refl w.heap.size w)
 have H : (spec_l07Into.l0 k a1 (([] : List Int)) 0 a0_0 a0_1 a0_2 a0_3 l0_4 l0_5) = some r := h
 clear h
 obtain ⟨y367, hy367⟩ : ∃ y_ : List Int, y_ = (([] : List Int)) := ⟨_, rfl⟩
 replace H : (spec_l07Into.l0 k a1 y367 0 a0_0 a0_1 a0_2 a0_3 l0_4 l0_5) = some r := by first | (rw [hy367]; with_reducible exact H) | (have H2_ := (Option.bind_some _ _).symm.trans H; rw [hy367]; with_reducible exact H2_) | (have H2_ := (Option.bind_some _ _).symm.trans H; with_reducible exact H2_) | with_reducible exact H | (rw [hy367]; exact H) | exact H
 have Ny367 := Aq.mk hy367
 clear hy367
 replace H' := Aq.mk H
 clear H
 go_enter Try.func48, Try.ntmps48
 go_wp2_with (first | ((with_reducible refine gQd (N := 7) rfl ?_); refine Kd.R_lit (Kd.int .i64) _ 2 ?hg (N := 7) ?hd (xs := ([] : List Int)) (inner := []) (ok := fun _ => True) (okp := fun _ => True) ?hr ?hp (fun _ hk => hk) trivial (Below.refl _ _) (Nat.le_refl _) (by simp) ?_; (case hd => rfl); (case hg => rfl); (case hr => exact tH); (case hp => exact (Reps.none _ _)); intro v368 w3 ho4 hb hg_ hnew_; clear hg_ hnew_; (first | rw [← Ny367.out] at ho4 | (simp only [Int.reduceToNat] at ho4; rw [← Ny367.out] at ho4)); refine qM2 (Kd.R_lower ho4 (bQZ tB)) (bQT tB hb) ?_; clear HB; intro HO369 HB; clear hb ho4))
 go_loopg [5, 6] k (fun kq v5 v6 w' => ∃ (x5_1 : List Int) (x6_1 : Int), v6 = .int .i64 x6_1 ∧ Aq (spec_l07Into.l0 kq a1 x5_1 x6_1 a0_0 a0_1 a0_2 a0_3 l0_4 l0_5 = some r) ∧ Aq (kq ≤ k) ∧ Aq (Kd.R (Kd.int .i64) 2 w' w.heap.size (fun _ => True) v5 x5_1) ∧ Aq (Below w.heap.size w w'))
 case atStart => exact ⟨(y367), (0), tS, H', ⟨Nat.le_refl _⟩, ⟨tR HO369.out⟩, ⟨tB⟩⟩
 clear H'
 obtain ⟨x5_1, x6_1, rfl, HA, HK1, HO_5, HB⟩ := hrel
 cases gk with
 | zero => exact absurd HA.out (by simp [spec_l07Into.l0])
 | succ k1 =>
  have H := HA.out
  clear HA
  simp only [spec_l07Into.l0] at H
  by_cases c5 : x6_1 < (l0_4.length : Int)
  rotate_left
  ·rw [if_neg c5] at H
   have c5b0 := decide_eq_false c5
   clear c5
   obtain rfl := Option.some.inj H
   have hcz13_0 : wr.cell? g0_0 = some (.int .i64 a0_0) := AtC.cell0 (AtC.below BK40.out HB.out) _ rfl
   have hcz13_1 : wr.cell? ⟨g0_0.block, g0_0.off + 1, none⟩ = some (.int .i64 a0_1) := AtC.cell (AtC.below BK40.out HB.out) 1 _ (by decide) rfl
   have hcz13_2 : wr.cell? ⟨g0_0.block, g0_0.off + 2, none⟩ = some (.int .i64 a0_2) := AtC.cell (AtC.below BK40.out HB.out) 2 _ (by decide) rfl
   have hcz13_3 : wr.cell? ⟨g0_0.block, g0_0.off + 3, none⟩ = some (.int .i64 a0_3) := AtC.cell (AtC.below BK40.out HB.out) 3 _ (by decide) rfl
   have hcz13_4 : wr.cell? ⟨g0_0.block, g0_0.off + 4, none⟩ = some (.slice A0_4 l0_4.length c0_4) := AtC.cell (AtC.below BK40.out HB.out) 4 _ (by decide) rfl
   have hcz13_5 : wr.cell? ⟨g0_0.block, g0_0.off + 5, none⟩ = some (.slice A0_5 l0_5.length c0_5) := AtC.cell (AtC.below BK40.out HB.out) 5 _ (by decide) rfl
   go_wp2
   go_ret
   exact ⟨_, tE, tR HO_5.out, tB⟩
  rw [if_pos c5] at H
  have c5b0 := decide_eq_true c5
  clear c5
  by_cases c6 : 0 ≤ x6_1
  rotate_left
  ·rw [if_neg c6] at H
   exact absurd H (by simp)
  rw [if_pos c6] at H
  have c6b0 := decide_eq_true c6
  clear c6
  by_cases c7 : 1 < ((rd_L1 l0_4 x6_1).length : Int)
  rotate_left
  ·rw [if_neg c7] at H
   exact absurd H (by simp)
  rw [if_pos c7] at H
  have c7b0 := decide_eq_true c7
  have c7b1 : decide (1 < (rd_L1 l0_4 x6_1).length) = true := decide_eq_true (by omega)
  clear c7
  by_cases c8 : (rd (rd_L1 l0_4 x6_1) 1) = a1
  rotate_left
  ·rw [if_neg c8] at H
   have c8b0 := beq_eq_false_iff_ne.mpr c8
   have c8b1 := bne_iff_ne.mpr c8
   replace H' := Aq.mk H
   clear H
   have hcz12_0 : wr.cell? g0_0 = some (.int .i64 a0_0) := AtC.cell0 (AtC.below BK40.out HB.out) _ rfl
   have hcz12_1 : wr.cell? ⟨g0_0.block, g0_0.off + 1, none⟩ = some (.int .i64 a0_1) := AtC.cell (AtC.below BK40.out HB.out) 1 _ (by decide) rfl
   have hcz12_2 : wr.cell? ⟨g0_0.block, g0_0.off + 2, none⟩ = some (.int .i64 a0_2) := AtC.cell (AtC.below BK40.out HB.out) 2 _ (by decide) rfl
   have hcz12_3 : wr.cell? ⟨g0_0.block, g0_0.off + 3, none⟩ = some (.int .i64 a0_3) := AtC.cell (AtC.below BK40.out HB.out) 3 _ (by decide) rfl
   have hcz12_4 : wr.cell? ⟨g0_0.block, g0_0.off + 4, none⟩ = some (.slice A0_4 l0_4.length c0_4) := AtC.cell (AtC.below BK40.out HB.out) 4 _ (by decide) rfl
   have hcz12_5 : wr.cell? ⟨g0_0.block, g0_0.off + 5, none⟩ = some (.slice A0_5 l0_5.length c0_5) := AtC.cell (AtC.below BK40.out HB.out) 5 _ (by decide) rfl
   have p370 : 0 ≤ (x6_1 : Int) := of_decide_eq_true tA
   have q370 : x6_1 < (l0_4.length : Int) := of_decide_eq_true tA
   obtain ⟨ad370, A370_0, c370_0, e370, hx370_0, hl370_0, hi370_0⟩ := at_L1 HR0_4.out x6_1 p370 q370
   cases e370
   replace hx370_0 := (HB.out.cell (World.block_lt_of_cell? w _ hx370_0)).trans hx370_0
   have HR370_0 := Aq.mk hi370_0
   have HC370_0 := Aq.mk hl370_0
   clear hi370_0 hl370_0
   replace p370 := eq_true p370
   replace q370 := eq_true q370
   have p371 : 0 ≤ (1 : Int) := (by omega)
   have q371 : 1 < ((rd_L1 l0_4 x6_1).length : Int) := of_decide_eq_true tA
   obtain ⟨ad371, e371, hx371_0⟩ := Kd.at_int HR370_0.out 1 p371 q371
   cases e371
   (try simp only [show (1 : Int).toNat = 1 from rfl, Nat.reduceMul, Nat.reduceEqDiff, Go.Addr.add, ↓reduceIte] at hx371_0)
   have qi371 : (1 < (rd_L1 l0_4 x6_1).length) = True := eq_true (by omega)
   (try rw [show ((1 : Int)).toNat = 1 from rfl] at hx371_0)
   replace hx371_0 := (HB.out.cell (World.block_lt_of_cell? w _ hx371_0)).trans hx371_0
   replace p371 := eq_true p371
   replace q371 := eq_true q371
   go_wp2
   go_roundg k1
   case measure => have := HK1.out; omega
   case rel => exact ⟨(x5_1), (wrap64 (x6_1 + 1)), tS, H', ⟨by have := HK1.out; omega⟩, ⟨tR HO_5.out⟩, ⟨tB⟩⟩
  rw [if_pos c8] at H
  have c8b0 := beq_iff_eq.mpr c8
  have c8b1 := bne_eq_false_iff_eq.mpr c8
  clear c8
  by_cases c9 : x5_1.length < 17592186044416
  rotate_left
  ·rw [if_neg c9] at H
   exact absurd H (by simp)
  rw [if_pos c9] at H
  have LMc9 := Aq.mk c9
  clear c9
  obtain ⟨y372, hy372⟩ : ∃ y_ : List Int, y_ = (x5_1 ++ [x6_1]) := ⟨_, rfl⟩
  replace H : (spec_l07Into.l0 k1 a1 y372 (wrap64 (x6_1 + 1)) a0_0 a0_1 a0_2 a0_3 l0_4 l0_5) = some r := by first | (rw [hy372]; with_reducible exact H) | (have H2_ := (Option.bind_some _ _).symm.trans H; rw [hy372]; with_reducible exact H2_) | (have H2_ := (Option.bind_some _ _).symm.trans H; with_reducible exact H2_) | with_reducible exact H | (rw [hy372]; exact H) | exact H
  have Ny372 := Aq.mk hy372
  clear hy372
  replace H' := Aq.mk H
  clear H
  have hcz10_0 : wr.cell? g0_0 = some (.int .i64 a0_0) := AtC.cell0 (AtC.below BK40.out HB.out) _ rfl
  have hcz10_1 : wr.cell? ⟨g0_0.block, g0_0.off + 1, none⟩ = some (.int .i64 a0_1) := AtC.cell (AtC.below BK40.out HB.out) 1 _ (by decide) rfl
  have hcz10_2 : wr.cell? ⟨g0_0.block, g0_0.off + 2, none⟩ = some (.int .i64 a0_2) := AtC.cell (AtC.below BK40.out HB.out) 2 _ (by decide) rfl
  have hcz10_3 : wr.cell? ⟨g0_0.block, g0_0.off + 3, none⟩ = some (.int .i64 a0_3) := AtC.cell (AtC.below BK40.out HB.out) 3 _ (by decide) rfl
  have hcz10_4 : wr.cell? ⟨g0_0.block, g0_0.off + 4, none⟩ = some (.slice A0_4 l0_4.length c0_4) := AtC.cell (AtC.below BK40.out HB.out) 4 _ (by decide) rfl
  have hcz10_5 : wr.cell? ⟨g0_0.block, g0_0.off + 5, none⟩ = some (.slice A0_5 l0_5.length c0_5) := AtC.cell (AtC.below BK40.out HB.out) 5 _ (by decide) rfl
  have p370 : 0 ≤ (x6_1 : Int) := of_decide_eq_true tA
  have q370 : x6_1 < (l0_4.length : Int) := of_decide_eq_true tA
  obtain ⟨ad370, A370_0, c370_0, e370, hx370_0, hl370_0, hi370_0⟩ := at_L1 HR0_4.out x6_1 p370 q370
  cases e370
  replace hx370_0 := (HB.out.cell (World.block_lt_of_cell? w _ hx370_0)).trans hx370_0
  have HR370_0 := Aq.mk hi370_0
  have HC370_0 := Aq.mk hl370_0
  clear hi370_0 hl370_0
  replace p370 := eq_true p370
  replace q370 := eq_true q370
  have p371 : 0 ≤ (1 : Int) := (by omega)
  have q371 : 1 < ((rd_L1 l0_4 x6_1).length : Int) := of_decide_eq_true tA
  obtain ⟨ad371, e371, hx371_0⟩ := Kd.at_int HR370_0.out 1 p371 q371
  cases e371
  (try simp only [show (1 : Int).toNat = 1 from rfl, Nat.reduceMul, Nat.reduceEqDiff, Go.Addr.add, ↓reduceIte] at hx371_0)
  have qi371 : (1 < (rd_L1 l0_4 x6_1).length) = True := eq_true (by omega)
  (try rw [show ((1 : Int)).toNat = 1 from rfl] at hx371_0)
  replace hx371_0 := (HB.out.cell (World.block_lt_of_cell? w _ hx371_0)).trans hx371_0
  replace p371 := eq_true p371
  replace q371 := eq_true q371
  go_wp2_with (first | ((with_reducible refine gate_builtin (b := .append) (xs := #[.tmp 28, .tmp 30]) rfl ?_); at_builtin; refine Kd.R_append (Kd.int .i64) (w0 := w) w.heap.size rfl (.tmp 28) (.tmp 30) 38 2 (.int .i64 0) 8 rfl Try.underlying38 info2 rfl (by decide) (by omega) u5 x5_1 x6_1 [.int .i64 x6_1] (fun _ => True) (fun _ => False) rfl rfl ?aP (fun _ hk => hk.elim) ?aF ?aO ?aB ?aS ?aL ?_; (case aP => exact rfl); (case aB => exact tB); (case aF => exact (fun _ _ => trivial)); (case aO => exact (tR HO_5.out)); (case aS => exact (bQZ tB)); (case aL => have := LMc9.out; omega); intro v373 w11 ho hb hg hat; rw [← Ny372.out] at ho; refine qM2 hb ho ?_; clear HB HO_5; intro HB HO374; clear ho hb hg hat))
  go_roundg k1
  case measure => have := HK1.out; omega
  case rel => exact ⟨(y372), (wrap64 (x6_1 + 1)), tS, H', ⟨by have := HK1.out; omega⟩, ⟨tR HO374.out⟩, ⟨tB⟩⟩
def spec_l07Has.f (k : Nat) (a0_0 : Int) (a0_1 : Int) (a0_2 : Int) (a0_3 : Int) (l0_4 : List (List Int)) (l0_5 : List (List Int)) (a1 : Int) : Option (Int) := if a1 = 0 then (some a0_3) else ((spec_l07Into.f k a0_0 a0_1 a0_2 a0_3 l0_4 l0_5 a1).bind fun t375 => (some (t375.length : Int)))
theorem spec_l07Has.mono : ∀ a0 a1 a2 a3 a4 a5 a6 k, LeO (spec_l07Has.f k a0 a1 a2 a3 a4 a5 a6) (spec_l07Has.f (k + 1) a0 a1 a2 a3 a4 a5 a6) := by
 intro a0 a1 a2 a3 a4 a5 a6 k
 unfold spec_l07Has.f
 repeat' first
  | (with_reducible first | apply spec_l07Into.mono | exact LeO.refl _ | exact LeO.none _ | refine LeO.ite ?_ ?_ | refine LeO.bind ?_ (fun _ => ?_))
  | exact LeO.none _
  | refine LeO.ite ?_ ?_
  | refine LeO.bind ?_ (fun _ => ?_)
theorem spec_l07Has.calls (k : Nat) (g0_0 : Addr) (a0_0 : Int) (a0_1 : Int) (a0_2 : Int) (a0_3 : Int) (A0_4 : Option Addr) (c0_4 : Nat) (l0_4 : List (List Int)) (A0_5 : Option Addr) (c0_5 : Nat) (l0_5 : List (List Int)) (a1 : Int) (r : Int) (w : World) (hr0_4 : Kd.C (Kd.slice 2 (Kd.int .i64)) w A0_4 l0_4.length l0_4) (hc0_4 : l0_4.length ≤ c0_4) (hr0_5 : Kd.C (Kd.slice 2 (Kd.int .i64)) w A0_5 l0_5.length l0_5) (hc0_5 : l0_5.length ≤ c0_5) (hb0_0 : AtC w g0_0 [.int .i64 a0_0, .int .i64 a0_1, .int .i64 a0_2, .int .i64 a0_3, .slice A0_4 l0_4.length c0_4, .slice A0_5 l0_5.length c0_5]) (h : spec_l07Has.f k a0_0 a0_1 a0_2 a0_3 l0_4 l0_5 a1 = some r) :
 Calls Try.prog 108 #[.pointer (some g0_0), .int .i64 a1] w fun e w' => e = .returned (.int .i64 r) ∧ Below w.heap.size w w' := by
 have HR0_4 := Aq.mk hr0_4
 have HC0_4 := Aq.mk hc0_4
 clear hr0_4 hc0_4
 have HR0_5 := Aq.mk hr0_5
 have HC0_5 := Aq.mk hc0_5
 clear hr0_5 hc0_5
 have BK40 := Aq.mk hb0_0
 clear hb0_0
 have HB := Aq.mk (Below.refl w.heap.size w)
 have H : (if a1 = 0 then (some a0_3) else ((spec_l07Into.f k a0_0 a0_1 a0_2 a0_3 l0_4 l0_5 a1).bind fun t375 => (some (t375.length : Int)))) = some r := h
 clear h
 by_cases c3 : a1 = 0
 rotate_left
 ·rw [if_neg c3] at H
  have c3b0 := beq_eq_false_iff_ne.mpr c3
  have c3b1 := bne_iff_ne.mpr c3
  obtain ⟨t375, A5, H⟩ := qBd H
  obtain rfl := Option.some.inj H
  go_enter Try.func108, Try.ntmps108
  go_wp2_with (first | ((with_reducible refine gQc (f := 48) rfl ?_); refine goesL_ (some 13) rfl rfl Try.func48 (by kernel_rfl) rfl #[.pointer (some g0_0), .int .i64 a1] rfl tL ?_; (with_reducible refine (spec_l07Into.calls k (g0_0 : Addr) a0_0 a0_1 a0_2 a0_3 A0_4 c0_4 l0_4 A0_5 c0_5 l0_5 a1 t375 _ ?s1 ?s2 ?s3 ?s4 ?s5 A5.out).mono ?_); (case s1 => exact tC HR0_4.out); (case s2 => exact HC0_4.out); (case s3 => exact tC HR0_5.out); (case s4 => exact HC0_5.out); (case s5 => repeat (first | exact BK40.out | (with_reducible refine AtC.alloc ?_ _) | (with_reducible refine AtC.drewN ?_ _) | (with_reducible refine AtC.drew ?_))); rintro e w6 ⟨v376, rfl, ho0, hb⟩; refine ⟨_, rfl, ?_⟩; refine qM2 (Kd.R_lower ho0 (bQZ tB)) (bQT tB hb) ?_; clear HB; intro HO377 HB; (try clear hb); (try clear hb2); (try clear hk); (try clear hi); (try clear ho0); obtain ⟨Ao7, co7, eo7⟩ := Kd.R_slice HO377.out; subst eo7))
  go_ret
  exact ⟨tE, tB⟩
 rw [if_pos c3] at H
 have c3b0 := beq_iff_eq.mpr c3
 have c3b1 := bne_eq_false_iff_eq.mpr c3
 clear c3
 obtain rfl := Option.some.inj H
 have hcz4_0 : w.cell? g0_0 = some (.int .i64 a0_0) := AtC.cell0 BK40.out _ rfl
 have hcz4_1 : w.cell? ⟨g0_0.block, g0_0.off + 1, none⟩ = some (.int .i64 a0_1) := AtC.cell BK40.out 1 _ (by decide) rfl
 have hcz4_2 : w.cell? ⟨g0_0.block, g0_0.off + 2, none⟩ = some (.int .i64 a0_2) := AtC.cell BK40.out 2 _ (by decide) rfl
 have hcz4_3 : w.cell? ⟨g0_0.block, g0_0.off + 3, none⟩ = some (.int .i64 a0_3) := AtC.cell BK40.out 3 _ (by decide) rfl
 have hcz4_4 : w.cell? ⟨g0_0.block, g0_0.off + 4, none⟩ = some (.slice A0_4 l0_4.length c0_4) := AtC.cell BK40.out 4 _ (by decide) rfl
 have hcz4_5 : w.cell? ⟨g0_0.block, g0_0.off + 5, none⟩ = some (.slice A0_5 l0_5.length c0_5) := AtC.cell BK40.out 5 _ (by decide) rfl
 go_enter Try.func108, Try.ntmps108
 go_wp2
 go_ret
 exact ⟨tE, tB⟩
end Go.Proofs.Ytbalkaphibnpcaa.P
