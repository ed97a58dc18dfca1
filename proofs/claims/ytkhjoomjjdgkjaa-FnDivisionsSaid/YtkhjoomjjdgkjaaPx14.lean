/- Functions of the program and what they tell, as the printing program wrote it. -/
import Derived.Test.YtkhjoomjjdgkjaaPx0
import Derived.Test.YtkhjoomjjdgkjaaPx2
namespace Go.Proofs.Ytkhjoomjjdgkjaa.P
open Go.Shelf Go.RowKit Go.Proofs.YtkhjoomjjdgkjaaW.PrintWords Go.Proofs.YtkhjoomjjdgkjaaW.PrintLast Go.Proofs.YtkhjoomjjdgkjaaW.PrintMore
attribute [local go_sem] max2_int min2_int max_two min_two max_three min_three max_four min_four
set_option linter.unusedVariables false
set_option linter.unusedSimpArgs false
set_option maxHeartbeats 8000000
set_option maxRecDepth 100000
def spec_l03Both.j0 : Nat → List Int → Bool → Option (Int)
  | 0, _, _ => none
  | k + 1, x2, x16 => if x16 = true then (some 1) else (if (x2.length : Int) = 0 then (some 4) else (some 0))
def spec_l03Both.f (k : Nat) (a0_0 : Int) (a0_1 : Int) (l1 : List Int) (l2 : List Int) : Option (Int) := (spec_ValidLinear.f k a0_0 a0_1 l1).bind fun t124 => (if t124 = true then ((spec_ValidLinear.f k a0_0 a0_1 l2).bind fun t125 => (spec_l03Both.j0 k l2 (!t125))) else (spec_l03Both.j0 k l2 true))
theorem spec_l03Both.mono_l : ∀ k, (∀ y0 y1, LeO (spec_l03Both.j0 k y0 y1) (spec_l03Both.j0 (k + 1) y0 y1))
 | 0 => fun _ _ r h => by simp [spec_l03Both.j0] at h
 | k + 1 => by
  have ih0 := spec_l03Both.mono_l k
  ·intro y0 y1
   unfold spec_l03Both.j0
   repeat' first
   | (with_reducible first | apply ih0 | apply spec_ValidLinear.mono | exact LeO.refl _ | exact LeO.none _ | refine LeO.ite ?_ ?_ | refine LeO.bind ?_ (fun _ => ?_))
   | exact LeO.none _
   | refine LeO.ite ?_ ?_
   | refine LeO.bind ?_ (fun _ => ?_)
theorem spec_l03Both.mono : ∀ a0 a1 a2 a3 k, LeO (spec_l03Both.f k a0 a1 a2 a3) (spec_l03Both.f (k + 1) a0 a1 a2 a3) := by
 intro a0 a1 a2 a3 k
 have ih0 := spec_l03Both.mono_l k
 unfold spec_l03Both.f
 repeat' first
  | (with_reducible first | apply ih0 | apply spec_ValidLinear.mono | exact LeO.refl _ | exact LeO.none _ | refine LeO.ite ?_ ?_ | refine LeO.bind ?_ (fun _ => ?_))
  | exact LeO.none _
  | refine LeO.ite ?_ ?_
  | refine LeO.bind ?_ (fun _ => ?_)
theorem spec_l03Both.calls (k : Nat) (a0_0 : Int) (a0_1 : Int) (A1 : Option Addr) (c1 : Nat) (l1 : List Int) (A2 : Option Addr) (c2 : Nat) (l2 : List Int) (r : Int) (w : World) (hr1 : Kd.C (Kd.int .i64) w A1 l1.length l1) (hc1 : l1.length ≤ c1) (hr2 : Kd.C (Kd.int .i64) w A2 l2.length l2) (hc2 : l2.length ≤ c2) (h : spec_l03Both.f k a0_0 a0_1 l1 l2 = some r) :
 Calls Try.prog 32 #[.agg #[.int .i64 a0_0, .int .i64 a0_1], .slice A1 l1.length c1, .slice A2 l2.length c2] w fun e w' => e = .returned (.int .i64 r) ∧ Below w.heap.size w w' := by
 have hu27 := Try.underlying27
 have HR1 := Aq.mk hr1
 have HC1 := Aq.mk hc1
 clear hr1 hc1
 have HR2 := Aq.mk hr2
 have HC2 := Aq.mk hc2
 clear hr2 hc2
 have HB := Aq.mk (Below.refl w.heap.size w)
 have H : ((spec_ValidLinear.f k a0_0 a0_1 l1).bind fun t124 => (if t124 = true then ((spec_ValidLinear.f k a0_0 a0_1 l2).bind fun t125 => (spec_l03Both.j0 k l2 (!t125))) else (spec_l03Both.j0 k l2 true))) = some r := h
 clear h
 have HC4 := Aq.mk H
 clear H
 go_enter Try.func32, Try.ntmps32
 go_upto_region 1 with (first | ((with_reducible refine gQd (N := 3) rfl ?_); refine xQe ?hg (N := 3) ?hd (cs := #[.int .i64 a0_0, .int .i64 a0_1]) (t := 27) ?hr ?_; (case hd => rfl); (case hg => rfl); (case hr => exact tH); intro gb123 hg w5 hbox hb; refine qM4 (bQT tB hb) hbox (tZ w hg) (tZ w hg) ?_; clear HB; intro HB BK123 GW123 GE123; clear hb hbox hg))
 (try simp only [Act.put, qSa, qSb, qSc])
 go_cut [16] (fun v16 wc => ∃ (kq : Nat) (x16_3 : Bool), v16 = .bool x16_3 ∧ Aq (spec_l03Both.j0 kq l2 x16_3 = some r) ∧ Aq (kq ≤ k) ∧ Aq (wc.heap[gb123]? = some (.cells #[.int .i64 a0_0, .int .i64 a0_1] 27 (0, 0))) ∧ Aq (Below w.heap.size w wc))
 case first =>
  have H := HC4.out
  clear HC4
  obtain ⟨t124, A6, H⟩ := qBd H
  by_cases c7 : t124 = true
  ·subst c7
   rw [if_pos rfl] at H
   obtain ⟨t125, A8, H⟩ := qBd H
   replace H' := Aq.mk H
   clear H
   have hcz9_0 : w5.cell? ⟨gb123, 0, none⟩ = some (.int .i64 a0_0) := (kQC BK123.out 0).trans rfl
   have hcz9_1 : w5.cell? ⟨gb123, 1, none⟩ = some (.int .i64 a0_1) := (kQC BK123.out 1).trans rfl
   have hfz9_0 := kQF BK123.out 0
   have hfz9_1 := kQF BK123.out 1
   go_wp2_with (first | ((with_reducible refine gQc (f := 20) rfl ?_); refine goesL_ (some 9) rfl rfl Try.func20 (by kernel_rfl) rfl #[.agg #[.int .i64 a0_0, .int .i64 a0_1], .slice A1 l1.length c1] rfl tL ?_; (with_reducible refine (spec_ValidLinear.calls k a0_0 a0_1 _ _ l1 true _ ?s1 ?s2 A6.out).mono ?_); (case s1 => exact tC ((Kd.C_below HR1.out HB.out))); (case s2 => exact HC1.out); rintro e w10 ⟨rfl, hb⟩; refine ⟨_, rfl, ?_⟩; refine qM2 (tQ BK123.out hb) (bQT tB hb) ?_; clear BK123 HB; intro BK123 HB; (try clear hb); (try clear hb2); (try clear hk); (try clear hi); have hcz11_0 : w10.cell? ⟨gb123, 0, none⟩ = some (.int .i64 a0_0) := (kQC BK123.out 0).trans rfl; have hcz11_1 : w10.cell? ⟨gb123, 1, none⟩ = some (.int .i64 a0_1) := (kQC BK123.out 1).trans rfl; have hfz11_0 := kQF BK123.out 0; have hfz11_1 := kQF BK123.out 1) | (go_at_call 20; (with_reducible refine (spec_ValidLinear.calls k a0_0 a0_1 _ _ l2 t125 _ ?s1 ?s2 A8.out).mono ?_); (case s1 => exact tC ((Kd.C_below HR2.out HB.out))); (case s2 => exact HC2.out); rintro e w12 ⟨rfl, hb⟩; refine qM2 (tQ BK123.out hb) (bQT tB hb) ?_; clear BK123 HB; intro BK123 HB; (try clear hb); (try clear hb2); (try clear hk); (try clear hi)))
   go_meet
   case rel => exact ⟨_, (!t125), tS, H', ⟨tO⟩, ⟨tG BK123.out⟩, ⟨tB⟩⟩
  replace c7 := Bool.eq_false_iff.mpr c7
  subst c7
  rw [if_neg (show ¬ (false = true) by decide)] at H
  replace H' := Aq.mk H
  clear H
  have hcz13_0 : w5.cell? ⟨gb123, 0, none⟩ = some (.int .i64 a0_0) := (kQC BK123.out 0).trans rfl
  have hcz13_1 : w5.cell? ⟨gb123, 1, none⟩ = some (.int .i64 a0_1) := (kQC BK123.out 1).trans rfl
  have hfz13_0 := kQF BK123.out 0
  have hfz13_1 := kQF BK123.out 1
  go_wp2_with (first | ((with_reducible refine gQc (f := 20) rfl ?_); refine goesL_ (some 9) rfl rfl Try.func20 (by kernel_rfl) rfl #[.agg #[.int .i64 a0_0, .int .i64 a0_1], .slice A1 l1.length c1] rfl tL ?_; (with_reducible refine (spec_ValidLinear.calls k a0_0 a0_1 _ _ l1 false _ ?s1 ?s2 A6.out).mono ?_); (case s1 => exact tC ((Kd.C_below HR1.out HB.out))); (case s2 => exact HC1.out); rintro e w14 ⟨rfl, hb⟩; refine ⟨_, rfl, ?_⟩; refine qM2 (tQ BK123.out hb) (bQT tB hb) ?_; clear BK123 HB; intro BK123 HB; (try clear hb); (try clear hb2); (try clear hk); (try clear hi)))
  go_meet
  case rel => exact ⟨_, (true), tS, H', ⟨tO⟩, ⟨tG BK123.out⟩, ⟨tB⟩⟩
 clear HC4
 try clear c1
 try clear c2
 try clear c7
 try clear hcz11_0
 try clear hcz11_1
 try clear hcz13_0
 try clear hcz13_1
 try clear hcz9_0
 try clear hcz9_1
 try clear hfz11_0
 try clear hfz11_1
 try clear hfz13_0
 try clear hfz13_1
 try clear hfz9_0
 try clear hfz9_1
 obtain ⟨kq, x16_3, rfl, HA, HJ3, BK123, HB⟩ := hcut
 cases kq with
 | zero => exact absurd HA.out (by simp [spec_l03Both.j0])
 | succ kj3 =>
  have H := HA.out
  clear HA
  simp only [spec_l03Both.j0] at H
  by_cases c15 : x16_3 = true
  ·subst c15
   rw [if_pos rfl] at H
   obtain rfl := Option.some.inj H
   go_wp2
   go_ret
   exact ⟨tE, tB⟩
  replace c15 := Bool.eq_false_iff.mpr c15
  subst c15
  rw [if_neg (show ¬ (false = true) by decide)] at H
  by_cases c16 : (l2.length : Int) = 0
  ·rw [if_pos c16] at H
   have c16b0 := beq_iff_eq.mpr c16
   have c16b1 := bne_eq_false_iff_eq.mpr c16
   clear c16
   obtain rfl := Option.some.inj H
   go_wp2
   go_ret
   exact ⟨tE, tB⟩
  rw [if_neg c16] at H
  have c16b0 := beq_eq_false_iff_ne.mpr c16
  have c16b1 := bne_iff_ne.mpr c16
  have c16b2 : ¬ (l2 = []) := fun h_ => c16 (by rw [h_]; rfl)
  obtain rfl := Option.some.inj H
  go_wp2
  go_ret
  exact ⟨tE, tB⟩
end Go.Proofs.Ytkhjoomjjdgkjaa.P
