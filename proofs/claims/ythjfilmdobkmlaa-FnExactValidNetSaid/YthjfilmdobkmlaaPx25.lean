/- Functions of the program and what they tell, as the printing program wrote it. -/
import Derived.Test.YthjfilmdobkmlaaPx0
import Derived.Test.YthjfilmdobkmlaaPx12
namespace Go.Proofs.Ythjfilmdobkmlaa.P
open Go.Shelf Go.RowKit Go.Proofs.YthjfilmdobkmlaaW.PrintWords Go.Proofs.YthjfilmdobkmlaaW.PrintLast Go.Proofs.YthjfilmdobkmlaaW.PrintMore
attribute [local go_sem] max2_int min2_int max_two min_two max_three min_three max_four min_four
set_option linter.unusedVariables false
set_option linter.unusedSimpArgs false
set_option maxHeartbeats 8000000
set_option maxRecDepth 100000
def laws_szInt64SS.l0 : Nat → List (List Int) → Int → Int → Option (Int)
  | 0, _, _, _ => none
  | k + 1, x0, x1, x5 => if x5 < (x0.length : Int) then (if 0 ≤ x5 then ((laws_szInt64S.f (rd_L2 x0 x5) x1).bind fun t600 => (if t600 < 0 then (some (-1)) else (laws_szInt64SS.l0 k x0 t600 (wrap64 (x5 + 1))))) else (none)) else (some x1)
def laws_szInt64SS.f (k : Nat) (l0 : List (List Int)) (a1 : Int) : Option (Int) := if (wrap64 (a1 - (l0.length : Int))) < 0 then (some (-1)) else (laws_szInt64SS.l0 k l0 (wrap64 (a1 - (l0.length : Int))) 0)
theorem laws_szInt64SS.mono_l : ∀ k, (∀ y0 y1 y2, LeO (laws_szInt64SS.l0 k y0 y1 y2) (laws_szInt64SS.l0 (k + 1) y0 y1 y2))
 | 0 => fun _ _ _ r h => by simp [laws_szInt64SS.l0] at h
 | k + 1 => by
  have ih0 := laws_szInt64SS.mono_l k
  ·intro y0 y1 y2
   unfold laws_szInt64SS.l0
   repeat' first
   | (with_reducible first | apply ih0 | exact LeO.refl _ | exact LeO.none _ | refine LeO.ite ?_ ?_ | refine LeO.bind ?_ (fun _ => ?_))
   | exact LeO.none _
   | refine LeO.ite ?_ ?_
   | refine LeO.bind ?_ (fun _ => ?_)
theorem laws_szInt64SS.mono : ∀ a0 a1 k, LeO (laws_szInt64SS.f k a0 a1) (laws_szInt64SS.f (k + 1) a0 a1) := by
 intro a0 a1 k
 have ih0 := laws_szInt64SS.mono_l k
 unfold laws_szInt64SS.f
 repeat' first
  | (with_reducible first | apply ih0 | exact LeO.refl _ | exact LeO.none _ | refine LeO.ite ?_ ?_ | refine LeO.bind ?_ (fun _ => ?_))
  | exact LeO.none _
  | refine LeO.ite ?_ ?_
  | refine LeO.bind ?_ (fun _ => ?_)
theorem laws_szInt64SS.calls (k : Nat) (A0 : Option Addr) (c0 : Nat) (l0 : List (List Int)) (a1 : Int) (r : Int) (w : World) (hr0 : Kd.C (Kd.slice 2 (Kd.int .i64)) w A0 l0.length l0) (hc0 : l0.length ≤ c0) (h : laws_szInt64SS.f k l0 a1 = some r) :
 Calls Try.prog 63 #[.slice A0 l0.length c0, .int .i64 a1] w fun e w' => e = .returned (.int .i64 r) ∧ Dq w w' := by
 have HR0 := Aq.mk hr0
 have HC0 := Aq.mk hc0
 clear hr0 hc0
 have H : (if (wrap64 (a1 - (l0.length : Int))) < 0 then (some (-1)) else (laws_szInt64SS.l0 k l0 (wrap64 (a1 - (l0.length : Int))) 0)) = some r := h
 clear h
 by_cases c3 : (wrap64 (a1 - (l0.length : Int))) < 0
 ·rw [if_pos c3] at H
  have c3b0 := decide_eq_true c3
  clear c3
  obtain rfl := Option.some.inj H
  go_enter Try.func63, Try.ntmps63
  go_wp2
  go_ret
  exact ⟨tS, tD⟩
 rw [if_neg c3] at H
 have c3b0 := decide_eq_false c3
 clear c3
 replace H' := Aq.mk H
 clear H
 go_enter Try.func63, Try.ntmps63
 go_wp2
 go_loopg [1, 5] k (fun kq v1 v5 w' => ∃ (x1_1 : Int) (x5_1 : Int), v1 = .int .i64 x1_1 ∧ v5 = .int .i64 x5_1 ∧ Aq (laws_szInt64SS.l0 kq l0 x1_1 x5_1 = some r) ∧ Aq (kq ≤ k) ∧ Dq w w')
 case atStart => exact ⟨(wrap64 (a1 - (l0.length : Int))), (0), tS, tS, H', ⟨Nat.le_refl _⟩, tD⟩
 clear H'
 try clear c3
 try clear c3b0
 obtain ⟨x1_1, x5_1, rfl, rfl, HA, HK1, ⟨m1, rfl⟩⟩ := hrel
 cases gk with
 | zero => exact absurd HA.out (by simp [laws_szInt64SS.l0])
 | succ k1 =>
  have H := HA.out
  clear HA
  simp only [laws_szInt64SS.l0] at H
  by_cases c4 : x5_1 < (l0.length : Int)
  rotate_left
  ·rw [if_neg c4] at H
   have c4b0 := decide_eq_false c4
   clear c4
   obtain rfl := Option.some.inj H
   go_wp2
   go_ret
   exact ⟨tS, tD⟩
  rw [if_pos c4] at H
  have c4b0 := decide_eq_true c4
  clear c4
  by_cases c5 : 0 ≤ x5_1
  rotate_left
  ·rw [if_neg c5] at H
   exact absurd H (by simp)
  rw [if_pos c5] at H
  have c5b0 := decide_eq_true c5
  clear c5
  obtain ⟨t600, A6, H⟩ := qBd H
  by_cases c7 : t600 < 0
  ·rw [if_pos c7] at H
   have c7b0 := decide_eq_true c7
   clear c7
   obtain rfl := Option.some.inj H
   have p599 : 0 ≤ (x5_1 : Int) := of_decide_eq_true tA
   have q599 : x5_1 < (l0.length : Int) := of_decide_eq_true tA
   obtain ⟨ad599, A599_0, c599_0, e599, hx599_0, hl599_0, hi599_0⟩ := at_L2 HR0.out x5_1 p599 q599
   cases e599
   have HR599_0 := Aq.mk hi599_0
   have HC599_0 := Aq.mk hl599_0
   clear hi599_0 hl599_0
   replace p599 := eq_true p599
   replace q599 := eq_true q599
   go_wp2_with (first | ((with_reducible refine gQc (f := 74) rfl ?_); refine goesL_ (some 23) rfl rfl Try.func74 (by kernel_rfl) rfl #[.slice A599_0 (rd_L2 l0 x5_1).length c599_0, .int .i64 x1_1] rfl tL ?_; (with_reducible refine (laws_szInt64S.calls _ _ (rd_L2 l0 x5_1) x1_1 t600 _ ?s1 ?s2 A6.out).mono ?_); (case s1 => exact tC HR599_0.out); (case s2 => exact HC599_0.out); rintro e w' ⟨rfl, ⟨nd, rfl⟩⟩; refine ⟨_, rfl, ?_⟩))
   go_ret
   exact ⟨tS, tD⟩
  rw [if_neg c7] at H
  have c7b0 := decide_eq_false c7
  clear c7
  replace H' := Aq.mk H
  clear H
  have p599 : 0 ≤ (x5_1 : Int) := of_decide_eq_true tA
  have q599 : x5_1 < (l0.length : Int) := of_decide_eq_true tA
  obtain ⟨ad599, A599_0, c599_0, e599, hx599_0, hl599_0, hi599_0⟩ := at_L2 HR0.out x5_1 p599 q599
  cases e599
  have HR599_0 := Aq.mk hi599_0
  have HC599_0 := Aq.mk hl599_0
  clear hi599_0 hl599_0
  replace p599 := eq_true p599
  replace q599 := eq_true q599
  go_wp2_with (first | ((with_reducible refine gQc (f := 74) rfl ?_); refine goesL_ (some 23) rfl rfl Try.func74 (by kernel_rfl) rfl #[.slice A599_0 (rd_L2 l0 x5_1).length c599_0, .int .i64 x1_1] rfl tL ?_; (with_reducible refine (laws_szInt64S.calls _ _ (rd_L2 l0 x5_1) x1_1 t600 _ ?s1 ?s2 A6.out).mono ?_); (case s1 => exact tC HR599_0.out); (case s2 => exact HC599_0.out); rintro e w' ⟨rfl, ⟨nd, rfl⟩⟩; refine ⟨_, rfl, ?_⟩))
  go_roundg k1
  case measure => have := HK1.out; omega
  case rel => exact ⟨(t600), (wrap64 (x5_1 + 1)), tS, tS, H', ⟨by have := HK1.out; omega⟩, tD⟩
def laws_szNet.f (k : Nat) (a0_0 : Int) (a0_1 : Int) (a0_2 : Int) (a0_3 : Int) (l0_4 : List (List Int)) (l0_5 : List (List Int)) (a1 : Int) : Option (Int) := (laws_szInt64SS.f k l0_4 a1).bind fun t602 => (if t602 < 0 then (some (-1)) else ((laws_szInt64SS.f k l0_5 t602).bind fun t603 => (if t603 < 0 then (some (-1)) else (some t603))))
theorem laws_szNet.mono : ∀ a0 a1 a2 a3 a4 a5 a6 k, LeO (laws_szNet.f k a0 a1 a2 a3 a4 a5 a6) (laws_szNet.f (k + 1) a0 a1 a2 a3 a4 a5 a6) := by
 intro a0 a1 a2 a3 a4 a5 a6 k
 unfold laws_szNet.f
 repeat' first
  | (with_reducible first | apply laws_szInt64SS.mono | exact LeO.refl _ | exact LeO.none _ | refine LeO.ite ?_ ?_ | refine LeO.bind ?_ (fun _ => ?_))
  | exact LeO.none _
  | refine LeO.ite ?_ ?_
  | refine LeO.bind ?_ (fun _ => ?_)
theorem laws_szNet.calls (k : Nat) (a0_0 : Int) (a0_1 : Int) (a0_2 : Int) (a0_3 : Int) (A0_4 : Option Addr) (c0_4 : Nat) (l0_4 : List (List Int)) (A0_5 : Option Addr) (c0_5 : Nat) (l0_5 : List (List Int)) (a1 : Int) (r : Int) (w : World) (hr0_4 : Kd.C (Kd.slice 2 (Kd.int .i64)) w A0_4 l0_4.length l0_4) (hc0_4 : l0_4.length ≤ c0_4) (hr0_5 : Kd.C (Kd.slice 2 (Kd.int .i64)) w A0_5 l0_5.length l0_5) (hc0_5 : l0_5.length ≤ c0_5) (h : laws_szNet.f k a0_0 a0_1 a0_2 a0_3 l0_4 l0_5 a1 = some r) :
 Calls Try.prog 26 #[.agg #[.int .i64 a0_0, .int .i64 a0_1, .int .i64 a0_2, .int .i64 a0_3, .slice A0_4 l0_4.length c0_4, .slice A0_5 l0_5.length c0_5], .int .i64 a1] w fun e w' => e = .returned (.int .i64 r) ∧ Below w.heap.size w w' := by
 have hu46 := Try.underlying46
 have HR0_4 := Aq.mk hr0_4
 have HC0_4 := Aq.mk hc0_4
 clear hr0_4 hc0_4
 have HR0_5 := Aq.mk hr0_5
 have HC0_5 := Aq.mk hc0_5
 clear hr0_5 hc0_5
 have HB := Aq.mk (Below.refl w.heap.size w)
 have H : ((laws_szInt64SS.f k l0_4 a1).bind fun t602 => (if t602 < 0 then (some (-1)) else ((laws_szInt64SS.f k l0_5 t602).bind fun t603 => (if t603 < 0 then (some (-1)) else (some t603))))) = some r := h
 clear h
 obtain ⟨t602, A3, H⟩ := qBd H
 by_cases c4 : t602 < 0
 ·rw [if_pos c4] at H
  have c4b0 := decide_eq_true c4
  clear c4
  obtain rfl := Option.some.inj H
  go_enter Try.func26, Try.ntmps26
  go_wp2_with (first | ((with_reducible refine gQd (N := 2) rfl ?_); refine xQe ?hg (N := 2) ?hd (cs := #[.int .i64 a0_0, .int .i64 a0_1, .int .i64 a0_2, .int .i64 a0_3, .slice A0_4 l0_4.length c0_4, .slice A0_5 l0_5.length c0_5]) (t := 46) ?hr ?_; (case hd => rfl); (case hg => rfl); (case hr => exact tH); intro gb601 hg w5 hbox hb; refine qM4 (bQT tB hb) hbox (tZ w hg) (tZ w hg) ?_; clear HB; intro HB BK601 GW601 GE601; clear hb hbox hg; have hcz6_0 : w5.cell? ⟨gb601, 0, none⟩ = some (.int .i64 a0_0) := (kQC BK601.out 0).trans rfl; have hcz6_1 : w5.cell? ⟨gb601, 1, none⟩ = some (.int .i64 a0_1) := (kQC BK601.out 1).trans rfl; have hcz6_2 : w5.cell? ⟨gb601, 2, none⟩ = some (.int .i64 a0_2) := (kQC BK601.out 2).trans rfl; have hcz6_3 : w5.cell? ⟨gb601, 3, none⟩ = some (.int .i64 a0_3) := (kQC BK601.out 3).trans rfl; have hcz6_4 : w5.cell? ⟨gb601, 4, none⟩ = some (.slice A0_4 l0_4.length c0_4) := (kQC BK601.out 4).trans rfl; have hcz6_5 : w5.cell? ⟨gb601, 5, none⟩ = some (.slice A0_5 l0_5.length c0_5) := (kQC BK601.out 5).trans rfl; have hfz6_0 := kQF BK601.out 0; have hfz6_1 := kQF BK601.out 1; have hfz6_2 := kQF BK601.out 2; have hfz6_3 := kQF BK601.out 3; have hfz6_4 := kQF BK601.out 4; have hfz6_5 := kQF BK601.out 5) | ((with_reducible refine gQc (f := 63) rfl ?_); refine goesL_ (some 8) rfl rfl Try.func63 (by kernel_rfl) rfl #[.slice A0_4 l0_4.length c0_4, .int .i64 a1] rfl tL ?_; (with_reducible refine (laws_szInt64SS.calls k _ _ l0_4 a1 t602 _ ?s1 ?s2 A3.out).mono ?_); (case s1 => exact tC ((Kd.C_below HR0_4.out HB.out))); (case s2 => exact HC0_4.out); rintro e w' ⟨rfl, ⟨nd, rfl⟩⟩; refine ⟨_, rfl, ?_⟩))
  go_ret
  exact ⟨tE, tB⟩
 rw [if_neg c4] at H
 have c4b0 := decide_eq_false c4
 clear c4
 obtain ⟨t603, A7, H⟩ := qBd H
 by_cases c8 : t603 < 0
 ·rw [if_pos c8] at H
  have c8b0 := decide_eq_true c8
  clear c8
  obtain rfl := Option.some.inj H
  go_enter Try.func26, Try.ntmps26
  go_wp2_with (first | ((with_reducible refine gQd (N := 2) rfl ?_); refine xQe ?hg (N := 2) ?hd (cs := #[.int .i64 a0_0, .int .i64 a0_1, .int .i64 a0_2, .int .i64 a0_3, .slice A0_4 l0_4.length c0_4, .slice A0_5 l0_5.length c0_5]) (t := 46) ?hr ?_; (case hd => rfl); (case hg => rfl); (case hr => exact tH); intro gb601 hg w9 hbox hb; refine qM4 (bQT tB hb) hbox (tZ w hg) (tZ w hg) ?_; clear HB; intro HB BK601 GW601 GE601; clear hb hbox hg; have hcz10_0 : w9.cell? ⟨gb601, 0, none⟩ = some (.int .i64 a0_0) := (kQC BK601.out 0).trans rfl; have hcz10_1 : w9.cell? ⟨gb601, 1, none⟩ = some (.int .i64 a0_1) := (kQC BK601.out 1).trans rfl; have hcz10_2 : w9.cell? ⟨gb601, 2, none⟩ = some (.int .i64 a0_2) := (kQC BK601.out 2).trans rfl; have hcz10_3 : w9.cell? ⟨gb601, 3, none⟩ = some (.int .i64 a0_3) := (kQC BK601.out 3).trans rfl; have hcz10_4 : w9.cell? ⟨gb601, 4, none⟩ = some (.slice A0_4 l0_4.length c0_4) := (kQC BK601.out 4).trans rfl; have hcz10_5 : w9.cell? ⟨gb601, 5, none⟩ = some (.slice A0_5 l0_5.length c0_5) := (kQC BK601.out 5).trans rfl; have hfz10_0 := kQF BK601.out 0; have hfz10_1 := kQF BK601.out 1; have hfz10_2 := kQF BK601.out 2; have hfz10_3 := kQF BK601.out 3; have hfz10_4 := kQF BK601.out 4; have hfz10_5 := kQF BK601.out 5) | ((with_reducible refine gQc (f := 63) rfl ?_); refine goesL_ (some 8) rfl rfl Try.func63 (by kernel_rfl) rfl #[.slice A0_4 l0_4.length c0_4, .int .i64 a1] rfl tL ?_; (with_reducible refine (laws_szInt64SS.calls k _ _ l0_4 a1 t602 _ ?s1 ?s2 A3.out).mono ?_); (case s1 => exact tC ((Kd.C_below HR0_4.out HB.out))); (case s2 => exact HC0_4.out); rintro e w' ⟨rfl, ⟨nd, rfl⟩⟩; refine ⟨_, rfl, ?_⟩) | ((with_reducible refine gQc (f := 63) rfl ?_); refine goesL_ (some 14) rfl rfl Try.func63 (by kernel_rfl) rfl #[.slice A0_5 l0_5.length c0_5, .int .i64 t602] rfl tL ?_; (with_reducible refine (laws_szInt64SS.calls k _ _ l0_5 t602 t603 _ ?s1 ?s2 A7.out).mono ?_); (case s1 => exact tC ((Kd.C_below HR0_5.out tB))); (case s2 => exact HC0_5.out); rintro e w' ⟨rfl, ⟨nd, rfl⟩⟩; refine ⟨_, rfl, ?_⟩))
  go_ret
  exact ⟨tE, tB⟩
 rw [if_neg c8] at H
 have c8b0 := decide_eq_false c8
 clear c8
 obtain rfl := Option.some.inj H
 go_enter Try.func26, Try.ntmps26
 go_wp2_with (first | ((with_reducible refine gQd (N := 2) rfl ?_); refine xQe ?hg (N := 2) ?hd (cs := #[.int .i64 a0_0, .int .i64 a0_1, .int .i64 a0_2, .int .i64 a0_3, .slice A0_4 l0_4.length c0_4, .slice A0_5 l0_5.length c0_5]) (t := 46) ?hr ?_; (case hd => rfl); (case hg => rfl); (case hr => exact tH); intro gb601 hg w11 hbox hb; refine qM4 (bQT tB hb) hbox (tZ w hg) (tZ w hg) ?_; clear HB; intro HB BK601 GW601 GE601; clear hb hbox hg; have hcz12_0 : w11.cell? ⟨gb601, 0, none⟩ = some (.int .i64 a0_0) := (kQC BK601.out 0).trans rfl; have hcz12_1 : w11.cell? ⟨gb601, 1, none⟩ = some (.int .i64 a0_1) := (kQC BK601.out 1).trans rfl; have hcz12_2 : w11.cell? ⟨gb601, 2, none⟩ = some (.int .i64 a0_2) := (kQC BK601.out 2).trans rfl; have hcz12_3 : w11.cell? ⟨gb601, 3, none⟩ = some (.int .i64 a0_3) := (kQC BK601.out 3).trans rfl; have hcz12_4 : w11.cell? ⟨gb601, 4, none⟩ = some (.slice A0_4 l0_4.length c0_4) := (kQC BK601.out 4).trans rfl; have hcz12_5 : w11.cell? ⟨gb601, 5, none⟩ = some (.slice A0_5 l0_5.length c0_5) := (kQC BK601.out 5).trans rfl; have hfz12_0 := kQF BK601.out 0; have hfz12_1 := kQF BK601.out 1; have hfz12_2 := kQF BK601.out 2; have hfz12_3 := kQF BK601.out 3; have hfz12_4 := kQF BK601.out 4; have hfz12_5 := kQF BK601.out 5) | ((with_reducible refine gQc (f := 63) rfl ?_); refine goesL_ (some 8) rfl rfl Try.func63 (by kernel_rfl) rfl #[.slice A0_4 l0_4.length c0_4, .int .i64 a1] rfl tL ?_; (with_reducible refine (laws_szInt64SS.calls k _ _ l0_4 a1 t602 _ ?s1 ?s2 A3.out).mono ?_); (case s1 => exact tC ((Kd.C_below HR0_4.out HB.out))); (case s2 => exact HC0_4.out); rintro e w' ⟨rfl, ⟨nd, rfl⟩⟩; refine ⟨_, rfl, ?_⟩) | ((with_reducible refine gQc (f := 63) rfl ?_); refine goesL_ (some 14) rfl rfl Try.func63 (by kernel_rfl) rfl #[.slice A0_5 l0_5.length c0_5, .int .i64 t602] rfl tL ?_; (with_reducible refine (laws_szInt64SS.calls k _ _ l0_5 t602 t603 _ ?s1 ?s2 A7.out).mono ?_); (case s1 => exact tC ((Kd.C_below HR0_5.out tB))); (case s2 => exact HC0_5.out); rintro e w' ⟨rfl, ⟨nd, rfl⟩⟩; refine ⟨_, rfl, ?_⟩))
 go_ret
 exact ⟨tE, tB⟩
def spec_l01Degree.l0 : Nat → Int → Int → Option (Int)
  | 0, _, _ => none
  | k + 1, x0, x3 => if x0 > 0 then (spec_l01Degree.l0 k (wrap64 (Int.tdiv x0 2)) (wrap64 (x3 + 1))) else (some x3)
def spec_l01Degree.f (k : Nat) (a0 : Int) : Option (Int) := spec_l01Degree.l0 k a0 (-1)
theorem spec_l01Degree.mono_l : ∀ k, (∀ y0 y1, LeO (spec_l01Degree.l0 k y0 y1) (spec_l01Degree.l0 (k + 1) y0 y1))
 | 0 => fun _ _ r h => by simp [spec_l01Degree.l0] at h
 | k + 1 => by
  have ih0 := spec_l01Degree.mono_l k
  ·intro y0 y1
   unfold spec_l01Degree.l0
   repeat' first
   | (with_reducible first | apply ih0 | exact LeO.refl _ | exact LeO.none _ | refine LeO.ite ?_ ?_ | refine LeO.bind ?_ (fun _ => ?_))
   | exact LeO.none _
   | refine LeO.ite ?_ ?_
   | refine LeO.bind ?_ (fun _ => ?_)
theorem spec_l01Degree.mono : ∀ a0 k, LeO (spec_l01Degree.f k a0) (spec_l01Degree.f (k + 1) a0) := by
 intro a0 k
 have ih0 := spec_l01Degree.mono_l k
 unfold spec_l01Degree.f
 repeat' first
  | (with_reducible first | apply ih0 | exact LeO.refl _ | exact LeO.none _ | refine LeO.ite ?_ ?_ | refine LeO.bind ?_ (fun _ => ?_))
  | exact LeO.none _
  | refine LeO.ite ?_ ?_
  | refine LeO.bind ?_ (fun _ => ?_)
theorem spec_l01Degree.calls (k : Nat) (a0 : Int) (r : Int) (w : World) (h : spec_l01Degree.f k a0 = some r) :
 Calls Try.prog 108 #[.int .i64 a0] w fun e w' => e = .returned (.int .i64 r) ∧ Dq w w' := by
 have H : (spec_l01Degree.l0 k a0 (-1)) = some r := h
 clear h
 replace H' := Aq.mk H
 clear H
 go_enter Try.func108, Try.ntmps108
 go_wp2
 go_loopg [0, 3] k (fun kq v0 v3 w' => ∃ (x0_1 : Int) (x3_1 : Int), v0 = .int .i64 x0_1 ∧ v3 = .int .i64 x3_1 ∧ Aq (spec_l01Degree.l0 kq x0_1 x3_1 = some r) ∧ Aq (kq ≤ k) ∧ Dq w w')
 case atStart => exact ⟨(a0), ((-1)), tS, tS, H', ⟨Nat.le_refl _⟩, tD⟩
 clear H'
 obtain ⟨x0_1, x3_1, rfl, rfl, HA, HK1, ⟨m1, rfl⟩⟩ := hrel
 cases gk with
 | zero => exact absurd HA.out (by simp [spec_l01Degree.l0])
 | succ k1 =>
  have H := HA.out
  clear HA
  simp only [spec_l01Degree.l0] at H
  by_cases c2 : x0_1 > 0
  rotate_left
  ·rw [if_neg c2] at H
   have c2b0 := decide_eq_false c2
   clear c2
   obtain rfl := Option.some.inj H
   go_wp2
   go_ret
   exact ⟨tS, tD⟩
  rw [if_pos c2] at H
  have c2b0 := decide_eq_true c2
  clear c2
  replace H' := Aq.mk H
  clear H
  go_wp2
  go_roundg k1
  case measure => have := HK1.out; omega
  case rel => exact ⟨(wrap64 (Int.tdiv x0_1 2)), (wrap64 (x3_1 + 1)), tS, tS, H', ⟨by have := HK1.out; omega⟩, tD⟩
def spec_l01Rest.l0 : Nat → Int → Int → Int → Option (Int)
  | 0, _, _, _ => none
  | k + 1, x0, x1, x5 => (spec_l01Degree.f k x0).bind fun t605 => (if t605 ≥ x5 then ((spec_l01Degree.f k x0).bind fun t606 => (if 0 ≤ (IntKind.u64.wrap (wrap64 (t606 - x5))) then (spec_l01Rest.l0 k (Go.bits .xor .i64 x0 (shl .i64 x1 (IntKind.u64.wrap (wrap64 (t606 - x5))))) x1 x5) else (none))) else (some x0))
def spec_l01Rest.f (k : Nat) (a0 : Int) (a1 : Int) : Option (Int) := (spec_l01Degree.f k a1).bind fun t604 => (spec_l01Rest.l0 k a0 a1 t604)
theorem spec_l01Rest.mono_l : ∀ k, (∀ y0 y1 y2, LeO (spec_l01Rest.l0 k y0 y1 y2) (spec_l01Rest.l0 (k + 1) y0 y1 y2))
 | 0 => fun _ _ _ r h => by simp [spec_l01Rest.l0] at h
 | k + 1 => by
  have ih0 := spec_l01Rest.mono_l k
  ·intro y0 y1 y2
   unfold spec_l01Rest.l0
   repeat' first
   | (with_reducible first | apply ih0 | apply spec_l01Degree.mono | exact LeO.refl _ | exact LeO.none _ | refine LeO.ite ?_ ?_ | refine LeO.bind ?_ (fun _ => ?_))
   | exact LeO.none _
   | refine LeO.ite ?_ ?_
   | refine LeO.bind ?_ (fun _ => ?_)
theorem spec_l01Rest.mono : ∀ a0 a1 k, LeO (spec_l01Rest.f k a0 a1) (spec_l01Rest.f (k + 1) a0 a1) := by
 intro a0 a1 k
 have ih0 := spec_l01Rest.mono_l k
 unfold spec_l01Rest.f
 repeat' first
  | (with_reducible first | apply ih0 | apply spec_l01Degree.mono | exact LeO.refl _ | exact LeO.none _ | refine LeO.ite ?_ ?_ | refine LeO.bind ?_ (fun _ => ?_))
  | exact LeO.none _
  | refine LeO.ite ?_ ?_
  | refine LeO.bind ?_ (fun _ => ?_)
theorem spec_l01Rest.calls (k : Nat) (a0 : Int) (a1 : Int) (r : Int) (w : World) (h : spec_l01Rest.f k a0 a1 = some r) :
 Calls Try.prog 113 #[.int .i64 a0, .int .i64 a1] w fun e w' => e = .returned (.int .i64 r) ∧ Dq w w' := by
 have H : ((spec_l01Degree.f k a1).bind fun t604 => (spec_l01Rest.l0 k a0 a1 t604)) = some r := h
 clear h
 obtain ⟨t604, A3, H⟩ := qBd H
 replace H' := Aq.mk H
 clear H
 go_enter Try.func113, Try.ntmps113
 go_wp2_with (first | ((with_reducible refine gQc (f := 108) rfl ?_); refine goesL_ (some 7) rfl rfl Try.func108 (by kernel_rfl) rfl #[.int .i64 a1] rfl tL ?_; (with_reducible refine (spec_l01Degree.calls k a1 t604 _ A3.out).mono ?_); rintro e w' ⟨rfl, ⟨nd, rfl⟩⟩; refine ⟨_, rfl, ?_⟩))
 go_loopg [0] k (fun kq v0 w' => ∃ (x0_1 : Int), v0 = .int .i64 x0_1 ∧ Aq (spec_l01Rest.l0 kq x0_1 a1 t604 = some r) ∧ Aq (kq ≤ k) ∧ Dq w w')
 case atStart => exact ⟨(a0), tS, H', ⟨Nat.le_refl _⟩, tD⟩
 clear H'
 obtain ⟨x0_1, rfl, HA, HK1, ⟨m1, rfl⟩⟩ := hrel
 cases gk with
 | zero => exact absurd HA.out (by simp [spec_l01Rest.l0])
 | succ k1 =>
  have H := HA.out
  clear HA
  simp only [spec_l01Rest.l0] at H
  obtain ⟨t605, A4, H⟩ := qBd H
  by_cases c5 : t605 ≥ t604
  rotate_left
  ·rw [if_neg c5] at H
   have c5b0 := decide_eq_false c5
   clear c5
   obtain rfl := Option.some.inj H
   go_wp2_with (first | ((with_reducible refine gQc (f := 108) rfl ?_); refine goesL_ (some 9) rfl rfl Try.func108 (by kernel_rfl) rfl #[.int .i64 x0_1] rfl tL ?_; (with_reducible refine (spec_l01Degree.calls k1 x0_1 t605 _ A4.out).mono ?_); rintro e w' ⟨rfl, ⟨nd, rfl⟩⟩; refine ⟨_, rfl, ?_⟩))
   go_ret
   exact ⟨tS, tD⟩
  rw [if_pos c5] at H
  have c5b0 := decide_eq_true c5
  clear c5
  obtain ⟨t606, A6, H⟩ := qBd H
  obtain ⟨ji7, hji7⟩ : ∃ j_ : Int, (IntKind.u64.wrap (wrap64 (t606 - t604))) = j_ := ⟨_, rfl⟩
  first | rw [hji7] at H | simp only [hji7] at H | skip
  (try rw [hji7] at A4)
  (try rw [hji7] at A6)
  by_cases c8 : 0 ≤ (ji7)
  rotate_left
  ·rw [if_neg c8] at H
   exact absurd H (by simp)
  rw [if_pos c8] at H
  have c8b0 := eq_true c8
  have c8b1 := decide_eq_true c8
  clear c8
  obtain ⟨ji9, hji9⟩ : ∃ j_ : Int, (shl .i64 a1 (ji7)) = j_ := ⟨_, rfl⟩
  first | rw [hji9] at H | simp only [hji9] at H | skip
  (try rw [hji9] at A4)
  (try rw [hji9] at A6)
  have hji9_ : (IntKind.i64.wrap (a1 * 2 ^ min (ji7).toNat 64)) = ji9 := hji9
  have hji9z : (ji7) ≤ 64 → (IntKind.i64.wrap (a1 * 2 ^ (ji7).toNat)) = ji9 := shl_small hji9
  have hji9y : (wrap64 (a1 * 2 ^ min (ji7).toNat 64)) = ji9 := (i64_w _).symm.trans hji9_
  have hji9x : (ji7) ≤ 64 → (wrap64 (a1 * 2 ^ (ji7).toNat)) = ji9 := fun h_ => (i64_w _).symm.trans (hji9z h_)
  replace H' := Aq.mk H
  clear H
  go_wp2_with (first | ((with_reducible refine gQc (f := 108) rfl ?_); refine goesL_ (some 9) rfl rfl Try.func108 (by kernel_rfl) rfl #[.int .i64 x0_1] rfl tL ?_; (with_reducible refine (spec_l01Degree.calls k1 x0_1 t605 _ A4.out).mono ?_); rintro e w' ⟨rfl, ⟨nd, rfl⟩⟩; refine ⟨_, rfl, ?_⟩) | ((with_reducible refine gQc (f := 108) rfl ?_); refine goesL_ (some 15) rfl rfl Try.func108 (by kernel_rfl) rfl #[.int .i64 x0_1] rfl tL ?_; (with_reducible refine (spec_l01Degree.calls k1 x0_1 t606 _ A6.out).mono ?_); rintro e w' ⟨rfl, ⟨nd, rfl⟩⟩; refine ⟨_, rfl, ?_⟩))
  go_roundg k1
  case measure => have := HK1.out; omega
  case rel => exact ⟨(Go.bits .xor .i64 x0_1 (ji9)), (by first | rfl | (simp; done) | (simp only [← hji9] <;> (first | rfl | simp)) | (simp [*]; done)), H', ⟨by have := HK1.out; omega⟩, tD⟩
mutual
def spec_l01Irreducible.j0 : Nat → Int → Int → Bool → Option (Bool)
  | 0, _, _, _ => none
  | k + 1, x0, x3, x12 => if x12 = true then (some false) else (spec_l01Irreducible.l0 k x0 x3 2)
def spec_l01Irreducible.l0 : Nat → Int → Int → Int → Option (Bool)
  | 0, _, _, _ => none
  | k + 1, x0, x3, x4 => (spec_l01Degree.f k x4).bind fun t608 => (if t608 < x3 then ((spec_l01Rest.f k x0 x4).bind fun t609 => (if t609 = 0 then (some false) else (spec_l01Irreducible.l0 k x0 x3 (wrap64 (x4 + 1))))) else (some true))
end
def spec_l01Irreducible.f (k : Nat) (a0 : Int) : Option (Bool) := (spec_l01Degree.f k a0).bind fun t607 => (if t607 < 1 then (spec_l01Irreducible.j0 k a0 t607 true) else (spec_l01Irreducible.j0 k a0 t607 (decide (t607 > 5))))
theorem spec_l01Irreducible.mono_l : ∀ k, (∀ y0 y1 y2, LeO (spec_l01Irreducible.j0 k y0 y1 y2) (spec_l01Irreducible.j0 (k + 1) y0 y1 y2)) ∧ (∀ y0 y1 y2, LeO (spec_l01Irreducible.l0 k y0 y1 y2) (spec_l01Irreducible.l0 (k + 1) y0 y1 y2))
 | 0 => ⟨fun _ _ _ r h => by simp [spec_l01Irreducible.j0] at h, fun _ _ _ r h => by simp [spec_l01Irreducible.l0] at h⟩
 | k + 1 => by
  obtain ⟨ih0, ih1⟩ := spec_l01Irreducible.mono_l k
  refine ⟨?_, ?_⟩ <;> intros <;> first | unfold spec_l01Irreducible.j0 | unfold spec_l01Irreducible.l0
  all_goals repeat' first
   | (with_reducible first | apply ih0 | apply ih1 | apply spec_l01Degree.mono | apply spec_l01Rest.mono | exact LeO.refl _ | exact LeO.none _ | refine LeO.ite ?_ ?_ | refine LeO.bind ?_ (fun _ => ?_))
   | exact LeO.none _
   | refine LeO.ite ?_ ?_
   | refine LeO.bind ?_ (fun _ => ?_)
theorem spec_l01Irreducible.mono : ∀ a0 k, LeO (spec_l01Irreducible.f k a0) (spec_l01Irreducible.f (k + 1) a0) := by
 intro a0 k
 obtain ⟨ih0, ih1⟩ := spec_l01Irreducible.mono_l k
 unfold spec_l01Irreducible.f
 repeat' first
  | (with_reducible first | apply ih0 | apply ih1 | apply spec_l01Degree.mono | apply spec_l01Rest.mono | exact LeO.refl _ | exact LeO.none _ | refine LeO.ite ?_ ?_ | refine LeO.bind ?_ (fun _ => ?_))
  | exact LeO.none _
  | refine LeO.ite ?_ ?_
  | refine LeO.bind ?_ (fun _ => ?_)
theorem spec_l01Irreducible.calls (k : Nat) (a0 : Int) (r : Bool) (w : World) (h : spec_l01Irreducible.f k a0 = some r) :
 Calls Try.prog 112 #[.int .i64 a0] w fun e w' => e = .returned (.bool r) ∧ Dq w w' := by
 have H : ((spec_l01Degree.f k a0).bind fun t607 => (if t607 < 1 then (spec_l01Irreducible.j0 k a0 t607 true) else (spec_l01Irreducible.j0 k a0 t607 (decide (t607 > 5))))) = some r := h
 clear h
 obtain ⟨t607, A2, H⟩ := qBd H
 have HC3 := Aq.mk H
 clear H
 go_enter Try.func112, Try.ntmps112
 go_upto_region 2 with (first | ((with_reducible refine gQc (f := 108) rfl ?_); refine goesL_ (some 6) rfl rfl Try.func108 (by kernel_rfl) rfl #[.int .i64 a0] rfl tL ?_; (with_reducible refine (spec_l01Degree.calls k a0 t607 _ A2.out).mono ?_); rintro e w' ⟨rfl, ⟨nd, rfl⟩⟩; refine ⟨_, rfl, ?_⟩))
 (try simp only [Act.put, qSa, qSb, qSc])
 go_cut [12] (fun v12 wc => ∃ (kq : Nat) (x12_2 : Bool), v12 = .bool x12_2 ∧ Aq (spec_l01Irreducible.j0 kq a0 t607 x12_2 = some r) ∧ Aq (kq ≤ k) ∧ Dq w wc)
 case first =>
  have H := HC3.out
  clear HC3
  by_cases c4 : t607 < 1
  ·rw [if_pos c4] at H
   have c4b0 := decide_eq_true c4
   clear c4
   (first | rw [c4b0] | (simp only [i64_w, i32_w]; rw [c4b0]) | skip)
   replace H' := Aq.mk H
   clear H
   go_wp2
   go_meet
   case rel => exact ⟨_, (true), tS, H', ⟨tO⟩, tD⟩
  rw [if_neg c4] at H
  have c4b0 := decide_eq_false c4
  clear c4
  (first | rw [c4b0] | (simp only [i64_w, i32_w]; rw [c4b0]) | skip)
  replace H' := Aq.mk H
  clear H
  go_wp2
  go_meet
  case rel => exact ⟨_, (decide (t607 > 5)), tS, H', ⟨tO⟩, tD⟩
 clear HC3
 try clear c4
 try clear c4b0
 obtain ⟨kq, x12_2, rfl, HA, HJ2, ⟨mc2, rfl⟩⟩ := hcut
 cases kq with
 | zero => exact absurd HA.out (by simp [spec_l01Irreducible.j0])
 | succ kj2 =>
  have H := HA.out
  clear HA
  simp only [spec_l01Irreducible.j0] at H
  by_cases c5 : x12_2 = true
  ·subst c5
   rw [if_pos rfl] at H
   obtain rfl := Option.some.inj H
   go_wp2
   go_ret
   exact ⟨tS, tD⟩
  replace c5 := Bool.eq_false_iff.mpr c5
  subst c5
  rw [if_neg (show ¬ (false = true) by decide)] at H
  replace H' := Aq.mk H
  clear H
  go_wp2
  go_loopg [4] kj2 (fun kq v4 w' => ∃ (x4_2 : Int), v4 = .int .i64 x4_2 ∧ Aq (spec_l01Irreducible.l0 kq a0 t607 x4_2 = some r) ∧ Aq (kq ≤ kj2) ∧ Dq w w')
  case atStart => exact ⟨(2), tS, H', ⟨Nat.le_refl _⟩, tD⟩
  clear H'
  try clear c4
  try clear c4b0
  try clear c5
  obtain ⟨x4_2, rfl, HA, HK2, ⟨m2, rfl⟩⟩ := hrel
  cases gk with
  | zero => exact absurd HA.out (by simp [spec_l01Irreducible.l0])
  | succ k2 =>
   have H := HA.out
   clear HA
   simp only [spec_l01Irreducible.l0] at H
   obtain ⟨t608, A6, H⟩ := qBd H
   by_cases c7 : t608 < t607
   rotate_left
   ·rw [if_neg c7] at H
    have c7b0 := decide_eq_false c7
    clear c7
    obtain rfl := Option.some.inj H
    go_wp2_with (first | ((with_reducible refine gQc (f := 108) rfl ?_); refine goesL_ (some 14) rfl rfl Try.func108 (by kernel_rfl) rfl #[.int .i64 x4_2] rfl tL ?_; (with_reducible refine (spec_l01Degree.calls k2 x4_2 t608 _ A6.out).mono ?_); rintro e w' ⟨rfl, ⟨nd, rfl⟩⟩; refine ⟨_, rfl, ?_⟩))
    go_ret
    exact ⟨tS, tD⟩
   rw [if_pos c7] at H
   have c7b0 := decide_eq_true c7
   clear c7
   obtain ⟨t609, A8, H⟩ := qBd H
   by_cases c9 : t609 = 0
   ·rw [if_pos c9] at H
    have c9b0 := beq_iff_eq.mpr c9
    have c9b1 := bne_eq_false_iff_eq.mpr c9
    clear c9
    obtain rfl := Option.some.inj H
    go_wp2_with (first | ((with_reducible refine gQc (f := 108) rfl ?_); refine goesL_ (some 14) rfl rfl Try.func108 (by kernel_rfl) rfl #[.int .i64 x4_2] rfl tL ?_; (with_reducible refine (spec_l01Degree.calls k2 x4_2 t608 _ A6.out).mono ?_); rintro e w' ⟨rfl, ⟨nd, rfl⟩⟩; refine ⟨_, rfl, ?_⟩) | ((with_reducible refine gQc (f := 113) rfl ?_); refine goesL_ (some 21) rfl rfl Try.func113 (by kernel_rfl) rfl #[.int .i64 a0, .int .i64 x4_2] rfl tL ?_; (with_reducible refine (spec_l01Rest.calls k2 a0 x4_2 t609 _ A8.out).mono ?_); rintro e w' ⟨rfl, ⟨nd, rfl⟩⟩; refine ⟨_, rfl, ?_⟩))
    go_ret
    exact ⟨tS, tD⟩
   rw [if_neg c9] at H
   have c9b0 := beq_eq_false_iff_ne.mpr c9
   have c9b1 := bne_iff_ne.mpr c9
   replace H' := Aq.mk H
   clear H
   go_wp2_with (first | ((with_reducible refine gQc (f := 108) rfl ?_); refine goesL_ (some 14) rfl rfl Try.func108 (by kernel_rfl) rfl #[.int .i64 x4_2] rfl tL ?_; (with_reducible refine (spec_l01Degree.calls k2 x4_2 t608 _ A6.out).mono ?_); rintro e w' ⟨rfl, ⟨nd, rfl⟩⟩; refine ⟨_, rfl, ?_⟩) | ((with_reducible refine gQc (f := 113) rfl ?_); refine goesL_ (some 21) rfl rfl Try.func113 (by kernel_rfl) rfl #[.int .i64 a0, .int .i64 x4_2] rfl tL ?_; (with_reducible refine (spec_l01Rest.calls k2 a0 x4_2 t609 _ A8.out).mono ?_); rintro e w' ⟨rfl, ⟨nd, rfl⟩⟩; refine ⟨_, rfl, ?_⟩))
   go_roundg k2
   case measure => have := HJ2.out; have := HK2.out; omega
   case rel => exact ⟨(wrap64 (x4_2 + 1)), tS, H', ⟨by have := HJ2.out; have := HK2.out; omega⟩, tD⟩
def spec_IsIrreducible.f (k : Nat) (a0 : Int) : Option (Bool) := if a0 > 0 then (if a0 < 64 then ((spec_l01Irreducible.f k a0).bind fun t610 => (some t610)) else (some false)) else (some false)
theorem spec_IsIrreducible.mono : ∀ a0 k, LeO (spec_IsIrreducible.f k a0) (spec_IsIrreducible.f (k + 1) a0) := by
 intro a0 k
 unfold spec_IsIrreducible.f
 repeat' first
  | (with_reducible first | apply spec_l01Irreducible.mono | exact LeO.refl _ | exact LeO.none _ | refine LeO.ite ?_ ?_ | refine LeO.bind ?_ (fun _ => ?_))
  | exact LeO.none _
  | refine LeO.ite ?_ ?_
  | refine LeO.bind ?_ (fun _ => ?_)
theorem spec_IsIrreducible.calls (k : Nat) (a0 : Int) (r : Bool) (w : World) (h : spec_IsIrreducible.f k a0 = some r) :
 Calls Try.prog 107 #[.int .i64 a0] w fun e w' => e = .returned (.bool r) ∧ Dq w w' := by
 have H : (if a0 > 0 then (if a0 < 64 then ((spec_l01Irreducible.f k a0).bind fun t610 => (some t610)) else (some false)) else (some false)) = some r := h
 clear h
 by_cases c2 : a0 > 0
 rotate_left
 ·rw [if_neg c2] at H
  have c2b0 := decide_eq_false c2
  clear c2
  obtain rfl := Option.some.inj H
  go_enter Try.func107, Try.ntmps107
  go_wp2
  go_ret
  exact ⟨tS, tD⟩
 rw [if_pos c2] at H
 have c2b0 := decide_eq_true c2
 clear c2
 by_cases c3 : a0 < 64
 ·rw [if_pos c3] at H
  have c3b0 := decide_eq_true c3
  clear c3
  obtain ⟨t610, A4, H⟩ := qBd H
  obtain rfl := Option.some.inj H
  go_enter Try.func107, Try.ntmps107
  go_wp2_with (first | (go_at_call 112; (with_reducible refine (spec_l01Irreducible.calls k a0 t610 _ A4.out).mono ?_); rintro e w' ⟨rfl, ⟨nd, rfl⟩⟩))
  go_ret
  exact ⟨tS, tD⟩
 rw [if_neg c3] at H
 have c3b0 := decide_eq_false c3
 clear c3
 obtain rfl := Option.some.inj H
 go_enter Try.func107, Try.ntmps107
 go_wp2
 go_ret
 exact ⟨tS, tD⟩
end Go.Proofs.Ythjfilmdobkmlaa.P
