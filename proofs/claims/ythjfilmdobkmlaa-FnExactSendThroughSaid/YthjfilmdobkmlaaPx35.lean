/- Functions of the program and what they tell, as the printing program wrote it. -/
import Derived.Test.YthjfilmdobkmlaaPx0
import Derived.Test.YthjfilmdobkmlaaPx4
import Derived.Test.YthjfilmdobkmlaaPx12
namespace Go.Proofs.Ythjfilmdobkmlaa.P
open Go.Shelf Go.RowKit Go.Proofs.YthjfilmdobkmlaaW.PrintWords Go.Proofs.YthjfilmdobkmlaaW.PrintLast Go.Proofs.YthjfilmdobkmlaaW.PrintMore
attribute [local go_sem] max2_int min2_int max_two min_two max_three min_three max_four min_four
set_option linter.unusedVariables false
set_option linter.unusedSimpArgs false
set_option maxHeartbeats 8000000
set_option maxRecDepth 100000
def laws_szMatrix.f (a0_0 : Int) (l0_1 : List Int) (a1 : Int) : Option (Int) := (laws_szInt64S.f l0_1 a1).bind fun t783 => (if t783 < 0 then (some (-1)) else (some t783))
theorem laws_szMatrix.calls (a0_0 : Int) (A0_1 : Option Addr) (c0_1 : Nat) (l0_1 : List Int) (a1 : Int) (r : Int) (w : World) (hr0_1 : Kd.C (Kd.int .i64) w A0_1 l0_1.length l0_1) (hc0_1 : l0_1.length ≤ c0_1) (h : laws_szMatrix.f a0_0 l0_1 a1 = some r) :
 Calls Try.prog 31 #[.agg #[.int .i64 a0_0, .slice A0_1 l0_1.length c0_1], .int .i64 a1] w fun e w' => e = .returned (.int .i64 r) ∧ Below w.heap.size w w' := by
 have hu55 := Try.underlying55
 have HR0_1 := Aq.mk hr0_1
 have HC0_1 := Aq.mk hc0_1
 clear hr0_1 hc0_1
 have HB := Aq.mk (Below.refl w.heap.size w)
 have H : ((laws_szInt64S.f l0_1 a1).bind fun t783 => (if t783 < 0 then (some (-1)) else (some t783))) = some r := h
 clear h
 obtain ⟨t783, A3, H⟩ := qBd H
 by_cases c4 : t783 < 0
 ·rw [if_pos c4] at H
  have c4b0 := decide_eq_true c4
  clear c4
  obtain rfl := Option.some.inj H
  go_enter Try.func31, Try.ntmps31
  go_wp2_with (first | ((with_reducible refine gQd (N := 2) rfl ?_); refine xQe ?hg (N := 2) ?hd (cs := #[.int .i64 a0_0, .slice A0_1 l0_1.length c0_1]) (t := 55) ?hr ?_; (case hd => rfl); (case hg => rfl); (case hr => exact tH); intro gb782 hg w5 hbox hb; refine qM4 (bQT tB hb) hbox (tZ w hg) (tZ w hg) ?_; clear HB; intro HB BK782 GW782 GE782; clear hb hbox hg; have hcz6_0 : w5.cell? ⟨gb782, 0, none⟩ = some (.int .i64 a0_0) := (kQC BK782.out 0).trans rfl; have hcz6_1 : w5.cell? ⟨gb782, 1, none⟩ = some (.slice A0_1 l0_1.length c0_1) := (kQC BK782.out 1).trans rfl; have hfz6_0 := kQF BK782.out 0; have hfz6_1 := kQF BK782.out 1) | ((with_reducible refine gQc (f := 74) rfl ?_); refine goesL_ (some 8) rfl rfl Try.func74 (by kernel_rfl) rfl #[.slice A0_1 l0_1.length c0_1, .int .i64 a1] rfl tL ?_; (with_reducible refine (laws_szInt64S.calls _ _ l0_1 a1 t783 _ ?s1 ?s2 A3.out).mono ?_); (case s1 => exact tC ((Kd.C_below HR0_1.out HB.out))); (case s2 => exact HC0_1.out); rintro e w' ⟨rfl, ⟨nd, rfl⟩⟩; refine ⟨_, rfl, ?_⟩))
  go_ret
  exact ⟨tE, tB⟩
 rw [if_neg c4] at H
 have c4b0 := decide_eq_false c4
 clear c4
 obtain rfl := Option.some.inj H
 go_enter Try.func31, Try.ntmps31
 go_wp2_with (first | ((with_reducible refine gQd (N := 2) rfl ?_); refine xQe ?hg (N := 2) ?hd (cs := #[.int .i64 a0_0, .slice A0_1 l0_1.length c0_1]) (t := 55) ?hr ?_; (case hd => rfl); (case hg => rfl); (case hr => exact tH); intro gb782 hg w7 hbox hb; refine qM4 (bQT tB hb) hbox (tZ w hg) (tZ w hg) ?_; clear HB; intro HB BK782 GW782 GE782; clear hb hbox hg; have hcz8_0 : w7.cell? ⟨gb782, 0, none⟩ = some (.int .i64 a0_0) := (kQC BK782.out 0).trans rfl; have hcz8_1 : w7.cell? ⟨gb782, 1, none⟩ = some (.slice A0_1 l0_1.length c0_1) := (kQC BK782.out 1).trans rfl; have hfz8_0 := kQF BK782.out 0; have hfz8_1 := kQF BK782.out 1) | ((with_reducible refine gQc (f := 74) rfl ?_); refine goesL_ (some 8) rfl rfl Try.func74 (by kernel_rfl) rfl #[.slice A0_1 l0_1.length c0_1, .int .i64 a1] rfl tL ?_; (with_reducible refine (laws_szInt64S.calls _ _ l0_1 a1 t783 _ ?s1 ?s2 A3.out).mono ?_); (case s1 => exact tC ((Kd.C_below HR0_1.out HB.out))); (case s2 => exact HC0_1.out); rintro e w' ⟨rfl, ⟨nd, rfl⟩⟩; refine ⟨_, rfl, ?_⟩))
 go_ret
 exact ⟨tE, tB⟩
def spec_l02Times.l0 : Nat → Int → List Int → Int → Int → Option (Int)
  | 0, _, _, _, _ => none
  | k + 1, x0, x1, x5, x6 => if x6 < (x1.length : Int) then ((spec_l02Bit.f x0 x6).bind fun t784 => (if t784 = 1 then (if 0 ≤ x6 then (spec_l02Times.l0 k x0 x1 (Go.bits .xor .i64 x5 (rd x1 x6)) (wrap64 (x6 + 1))) else (none)) else (spec_l02Times.l0 k x0 x1 x5 (wrap64 (x6 + 1))))) else (some x5)
def spec_l02Times.f (k : Nat) (a0 : Int) (l1 : List Int) : Option (Int) := spec_l02Times.l0 k a0 l1 0 0
theorem spec_l02Times.mono_l : ∀ k, (∀ y0 y1 y2 y3, LeO (spec_l02Times.l0 k y0 y1 y2 y3) (spec_l02Times.l0 (k + 1) y0 y1 y2 y3))
 | 0 => fun _ _ _ _ r h => by simp [spec_l02Times.l0] at h
 | k + 1 => by
  have ih0 := spec_l02Times.mono_l k
  ·intro y0 y1 y2 y3
   unfold spec_l02Times.l0
   repeat' first
   | (with_reducible first | apply ih0 | exact LeO.refl _ | exact LeO.none _ | refine LeO.ite ?_ ?_ | refine LeO.bind ?_ (fun _ => ?_))
   | exact LeO.none _
   | refine LeO.ite ?_ ?_
   | refine LeO.bind ?_ (fun _ => ?_)
theorem spec_l02Times.mono : ∀ a0 a1 k, LeO (spec_l02Times.f k a0 a1) (spec_l02Times.f (k + 1) a0 a1) := by
 intro a0 a1 k
 have ih0 := spec_l02Times.mono_l k
 unfold spec_l02Times.f
 repeat' first
  | (with_reducible first | apply ih0 | exact LeO.refl _ | exact LeO.none _ | refine LeO.ite ?_ ?_ | refine LeO.bind ?_ (fun _ => ?_))
  | exact LeO.none _
  | refine LeO.ite ?_ ?_
  | refine LeO.bind ?_ (fun _ => ?_)
theorem spec_l02Times.calls (k : Nat) (a0 : Int) (A1 : Option Addr) (c1 : Nat) (l1 : List Int) (r : Int) (w : World) (hr1 : Kd.C (Kd.int .i64) w A1 l1.length l1) (hc1 : l1.length ≤ c1) (h : spec_l02Times.f k a0 l1 = some r) :
 Calls Try.prog 77 #[.int .i64 a0, .slice A1 l1.length c1] w fun e w' => e = .returned (.int .i64 r) ∧ Dq w w' := by
 have HR1 := Aq.mk hr1
 have HC1 := Aq.mk hc1
 clear hr1 hc1
 have H : (spec_l02Times.l0 k a0 l1 0 0) = some r := h
 clear h
 replace H' := Aq.mk H
 clear H
 go_enter Try.func77, Try.ntmps77
 go_wp2
 go_loopg [5, 6] k (fun kq v5 v6 w' => ∃ (x5_1 : Int) (x6_1 : Int), v5 = .int .i64 x5_1 ∧ v6 = .int .i64 x6_1 ∧ Aq (spec_l02Times.l0 kq a0 l1 x5_1 x6_1 = some r) ∧ Aq (kq ≤ k) ∧ Dq w w')
 case atStart => exact ⟨(0), (0), tS, tS, H', ⟨Nat.le_refl _⟩, tD⟩
 clear H'
 try clear c1
 obtain ⟨x5_1, x6_1, rfl, rfl, HA, HK1, ⟨m1, rfl⟩⟩ := hrel
 cases gk with
 | zero => exact absurd HA.out (by simp [spec_l02Times.l0])
 | succ k1 =>
  have H := HA.out
  clear HA
  simp only [spec_l02Times.l0] at H
  by_cases c3 : x6_1 < (l1.length : Int)
  rotate_left
  ·rw [if_neg c3] at H
   have c3b0 := decide_eq_false c3
   clear c3
   obtain rfl := Option.some.inj H
   go_wp2
   go_ret
   exact ⟨tS, tD⟩
  rw [if_pos c3] at H
  have c3b0 := decide_eq_true c3
  clear c3
  obtain ⟨t784, A4, H⟩ := qBd H
  by_cases c5 : t784 = 1
  rotate_left
  ·rw [if_neg c5] at H
   have c5b0 := beq_eq_false_iff_ne.mpr c5
   have c5b1 := bne_iff_ne.mpr c5
   replace H' := Aq.mk H
   clear H
   go_wp2_with (first | ((with_reducible refine gQc (f := 91) rfl ?_); refine goesL_ (some 15) rfl rfl Try.func91 (by kernel_rfl) rfl #[.int .i64 a0, .int .i64 x6_1] rfl tL ?_; (with_reducible refine (spec_l02Bit.calls a0 x6_1 t784 _ A4.out).mono ?_); rintro e w' ⟨rfl, ⟨nd, rfl⟩⟩; refine ⟨_, rfl, ?_⟩))
   go_roundg k1
   case measure => have := HK1.out; omega
   case rel => exact ⟨(x5_1), (wrap64 (x6_1 + 1)), tS, tS, H', ⟨by have := HK1.out; omega⟩, tD⟩
  rw [if_pos c5] at H
  have c5b0 := beq_iff_eq.mpr c5
  have c5b1 := bne_eq_false_iff_eq.mpr c5
  clear c5
  by_cases c6 : 0 ≤ x6_1
  rotate_left
  ·rw [if_neg c6] at H
   exact absurd H (by simp)
  rw [if_pos c6] at H
  have c6b0 := decide_eq_true c6
  clear c6
  replace H' := Aq.mk H
  clear H
  go_wp2_with (first | ((with_reducible refine gQc (f := 91) rfl ?_); refine goesL_ (some 15) rfl rfl Try.func91 (by kernel_rfl) rfl #[.int .i64 a0, .int .i64 x6_1] rfl tL ?_; (with_reducible refine (spec_l02Bit.calls a0 x6_1 t784 _ A4.out).mono ?_); rintro e w' ⟨rfl, ⟨nd, rfl⟩⟩; refine ⟨_, rfl, ?_⟩; have p785 : 0 ≤ (x6_1 : Int) := of_decide_eq_true tA; have q785 : x6_1 < (l1.length : Int) := of_decide_eq_true tA; obtain ⟨ad785, e785, hx785_0⟩ := Kd.at_int HR1.out x6_1 p785 q785; cases e785; replace p785 := eq_true p785; replace q785 := eq_true q785))
  go_roundg k1
  case measure => have := HK1.out; omega
  case rel => exact ⟨(Go.bits .xor .i64 x5_1 (rd l1 x6_1)), (wrap64 (x6_1 + 1)), tS, tS, H', ⟨by have := HK1.out; omega⟩, tD⟩
end Go.Proofs.Ythjfilmdobkmlaa.P
