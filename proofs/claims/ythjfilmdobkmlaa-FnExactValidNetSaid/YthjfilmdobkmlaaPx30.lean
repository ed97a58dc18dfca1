/- Functions of the program and what they tell, as the printing program wrote it. -/
import Derived.Test.YthjfilmdobkmlaaPx0
import Derived.Test.YthjfilmdobkmlaaPx1
import Derived.Test.YthjfilmdobkmlaaPx29
namespace Go.Proofs.Ythjfilmdobkmlaa.P
open Go.Shelf Go.RowKit Go.Proofs.YthjfilmdobkmlaaW.PrintWords Go.Proofs.YthjfilmdobkmlaaW.PrintLast Go.Proofs.YthjfilmdobkmlaaW.PrintMore
attribute [local go_sem] max2_int min2_int max_two min_two max_three min_three max_four min_four
set_option linter.unusedVariables false
set_option linter.unusedSimpArgs false
set_option maxHeartbeats 8000000
set_option maxRecDepth 100000
def impl_restOf.l0 : Nat → Int → Int → Int → Option (Int)
  | 0, _, _, _ => none
  | k + 1, x0, x1, x5 => (impl_degreeOf.f k x0).bind fun t681 => (if t681 ≥ x5 then ((impl_degreeOf.f k x0).bind fun t682 => (if 0 ≤ (wrap64 (t682 - x5)) then (impl_restOf.l0 k (Go.bits .xor .i64 x0 (shl .i64 x1 (wrap64 (t682 - x5)))) x1 x5) else (none))) else (some x0))
def impl_restOf.f (k : Nat) (a0 : Int) (a1 : Int) : Option (Int) := (impl_degreeOf.f k a1).bind fun t680 => (impl_restOf.l0 k a0 a1 t680)
theorem impl_restOf.mono_l : ∀ k, (∀ y0 y1 y2, LeO (impl_restOf.l0 k y0 y1 y2) (impl_restOf.l0 (k + 1) y0 y1 y2))
 | 0 => fun _ _ _ r h => by simp [impl_restOf.l0] at h
 | k + 1 => by
  have ih0 := impl_restOf.mono_l k
  ·intro y0 y1 y2
   unfold impl_restOf.l0
   repeat' first
   | (with_reducible first | apply ih0 | apply impl_degreeOf.mono | exact LeO.refl _ | exact LeO.none _ | refine LeO.ite ?_ ?_ | refine LeO.bind ?_ (fun _ => ?_))
   | exact LeO.none _
   | refine LeO.ite ?_ ?_
   | refine LeO.bind ?_ (fun _ => ?_)
theorem impl_restOf.mono : ∀ a0 a1 k, LeO (impl_restOf.f k a0 a1) (impl_restOf.f (k + 1) a0 a1) := by
 intro a0 a1 k
 have ih0 := impl_restOf.mono_l k
 unfold impl_restOf.f
 repeat' first
  | (with_reducible first | apply ih0 | apply impl_degreeOf.mono | exact LeO.refl _ | exact LeO.none _ | refine LeO.ite ?_ ?_ | refine LeO.bind ?_ (fun _ => ?_))
  | exact LeO.none _
  | refine LeO.ite ?_ ?_
  | refine LeO.bind ?_ (fun _ => ?_)
theorem impl_restOf.calls (k : Nat) (a0 : Int) (a1 : Int) (r : Int) (w : World) (h : impl_restOf.f k a0 a1 = some r) :
 Calls Try.prog 111 #[.int .i64 a0, .int .i64 a1] w fun e w' => e = .returned (.int .i64 r) ∧ Dq w w' := by
 have H : ((impl_degreeOf.f k a1).bind fun t680 => (impl_restOf.l0 k a0 a1 t680)) = some r := h
 clear h
 obtain ⟨t680, A3, H⟩ := qBd H
 replace H' := Aq.mk H
 clear H
 go_enter Try.func111, Try.ntmps111
 go_wp2_with (first | ((with_reducible refine gQc (f := 100) rfl ?_); refine goesL_ (some 7) rfl rfl Try.func100 (by kernel_rfl) rfl #[.int .i64 a1] rfl tL ?_; (with_reducible refine (impl_degreeOf.calls k a1 t680 _ A3.out).mono ?_); rintro e w' ⟨rfl, ⟨nd, rfl⟩⟩; refine ⟨_, rfl, ?_⟩))
 go_loopg [0] k (fun kq v0 w' => ∃ (x0_1 : Int), v0 = .int .i64 x0_1 ∧ Aq (impl_restOf.l0 kq x0_1 a1 t680 = some r) ∧ Aq (kq ≤ k) ∧ Dq w w')
 case atStart => exact ⟨(a0), tS, H', ⟨Nat.le_refl _⟩, tD⟩
 clear H'
 obtain ⟨x0_1, rfl, HA, HK1, ⟨m1, rfl⟩⟩ := hrel
 cases gk with
 | zero => exact absurd HA.out (by simp [impl_restOf.l0])
 | succ k1 =>
  have H := HA.out
  clear HA
  simp only [impl_restOf.l0] at H
  obtain ⟨t681, A4, H⟩ := qBd H
  by_cases c5 : t681 ≥ t680
  rotate_left
  ·rw [if_neg c5] at H
   have c5b0 := decide_eq_false c5
   clear c5
   obtain rfl := Option.some.inj H
   go_wp2_with (first | ((with_reducible refine gQc (f := 100) rfl ?_); refine goesL_ (some 9) rfl rfl Try.func100 (by kernel_rfl) rfl #[.int .i64 x0_1] rfl tL ?_; (with_reducible refine (impl_degreeOf.calls k1 x0_1 t681 _ A4.out).mono ?_); rintro e w' ⟨rfl, ⟨nd, rfl⟩⟩; refine ⟨_, rfl, ?_⟩))
   go_ret
   exact ⟨tS, tD⟩
  rw [if_pos c5] at H
  have c5b0 := decide_eq_true c5
  clear c5
  obtain ⟨t682, A6, H⟩ := qBd H
  obtain ⟨ji7, hji7⟩ : ∃ j_ : Int, (wrap64 (t682 - t680)) = j_ := ⟨_, rfl⟩
  first | rw [hji7] at H | simp only [hji7] at H | skip
  (try rw [hji7] at A4)
  (try rw [hji7] at A6)
  have hji7w : (IntKind.i64.wrap (t682 - t680)) = ji7 := (i64_w _).trans hji7
  by_cases c8 : 0 ≤ (ji7)
  rotate_left
  ·rw [if_neg c8] at H
   exact absurd H (by simp)
  rw [if_pos c8] at H
  have c8b0 := eq_true c8
  have c8b1 := decide_eq_true c8
  clear c8
  obtain ⟨ji9, hji9⟩ : ∃ j_ : Int, (shl .i64 a1 (ji7)) = j_ := ⟨_, rfl⟩
  first | rw [hji9] at H | simp only [hji9] at H | skip
  (try rw [hji9] at A4)
  (try rw [hji9] at A6)
  have hji9_ : (IntKind.i64.wrap (a1 * 2 ^ min (ji7).toNat 64)) = ji9 := hji9
  have hji9z : (ji7) ≤ 64 → (IntKind.i64.wrap (a1 * 2 ^ (ji7).toNat)) = ji9 := shl_small hji9
  have hji9y : (wrap64 (a1 * 2 ^ min (ji7).toNat 64)) = ji9 := (i64_w _).symm.trans hji9_
  have hji9x : (ji7) ≤ 64 → (wrap64 (a1 * 2 ^ (ji7).toNat)) = ji9 := fun h_ => (i64_w _).symm.trans (hji9z h_)
  replace H' := Aq.mk H
  clear H
  go_wp2_with (first | ((with_reducible refine gQc (f := 100) rfl ?_); refine goesL_ (some 9) rfl rfl Try.func100 (by kernel_rfl) rfl #[.int .i64 x0_1] rfl tL ?_; (with_reducible refine (impl_degreeOf.calls k1 x0_1 t681 _ A4.out).mono ?_); rintro e w' ⟨rfl, ⟨nd, rfl⟩⟩; refine ⟨_, rfl, ?_⟩) | ((with_reducible refine gQc (f := 100) rfl ?_); refine goesL_ (some 15) rfl rfl Try.func100 (by kernel_rfl) rfl #[.int .i64 x0_1] rfl tL ?_; (with_reducible refine (impl_degreeOf.calls k1 x0_1 t682 _ A6.out).mono ?_); rintro e w' ⟨rfl, ⟨nd, rfl⟩⟩; refine ⟨_, rfl, ?_⟩))
  go_roundg k1
  case measure => have := HK1.out; omega
  case rel => exact ⟨(Go.bits .xor .i64 x0_1 (ji9)), (by first | rfl | (simp; done) | (simp only [← hji9] <;> (first | rfl | simp)) | (simp [*]; done)), H', ⟨by have := HK1.out; omega⟩, tD⟩
mutual
def impl_IsIrreducible.j0 : Nat → Int → Bool → Option (Bool)
  | 0, _, _ => none
  | k + 1, x0, x9 => if x9 = true then (some false) else (impl_IsIrreducible.l0 k x0 2)
def impl_IsIrreducible.l0 : Nat → Int → Int → Option (Bool)
  | 0, _, _ => none
  | k + 1, x0, x3 => (impl_degreeOf.f k x3).bind fun t683 => ((impl_degreeOf.f k x0).bind fun t684 => (if (wrap64 (2 * t683)) ≤ t684 then ((impl_restOf.f k x0 x3).bind fun t685 => (if t685 = 0 then (some false) else (impl_IsIrreducible.l0 k x0 (wrap64 (x3 + 1))))) else (some true)))
end
def impl_IsIrreducible.f (k : Nat) (a0 : Int) : Option (Bool) := if a0 < 2 then (impl_IsIrreducible.j0 k a0 true) else (impl_IsIrreducible.j0 k a0 (decide (a0 ≥ 64)))
theorem impl_IsIrreducible.mono_l : ∀ k, (∀ y0 y1, LeO (impl_IsIrreducible.j0 k y0 y1) (impl_IsIrreducible.j0 (k + 1) y0 y1)) ∧ (∀ y0 y1, LeO (impl_IsIrreducible.l0 k y0 y1) (impl_IsIrreducible.l0 (k + 1) y0 y1))
 | 0 => ⟨fun _ _ r h => by simp [impl_IsIrreducible.j0] at h, fun _ _ r h => by simp [impl_IsIrreducible.l0] at h⟩
 | k + 1 => by
  obtain ⟨ih0, ih1⟩ := impl_IsIrreducible.mono_l k
  refine ⟨?_, ?_⟩ <;> intros <;> first | unfold impl_IsIrreducible.j0 | unfold impl_IsIrreducible.l0
  all_goals repeat' first
   | (with_reducible first | apply ih0 | apply ih1 | apply impl_degreeOf.mono | apply impl_restOf.mono | exact LeO.refl _ | exact LeO.none _ | refine LeO.ite ?_ ?_ | refine LeO.bind ?_ (fun _ => ?_))
   | exact LeO.none _
   | refine LeO.ite ?_ ?_
   | refine LeO.bind ?_ (fun _ => ?_)
theorem impl_IsIrreducible.mono : ∀ a0 k, LeO (impl_IsIrreducible.f k a0) (impl_IsIrreducible.f (k + 1) a0) := by
 intro a0 k
 obtain ⟨ih0, ih1⟩ := impl_IsIrreducible.mono_l k
 unfold impl_IsIrreducible.f
 repeat' first
  | (with_reducible first | apply ih0 | apply ih1 | apply impl_degreeOf.mono | apply impl_restOf.mono | exact LeO.refl _ | exact LeO.none _ | refine LeO.ite ?_ ?_ | refine LeO.bind ?_ (fun _ => ?_))
  | exact LeO.none _
  | refine LeO.ite ?_ ?_
  | refine LeO.bind ?_ (fun _ => ?_)
theorem impl_IsIrreducible.calls (k : Nat) (a0 : Int) (r : Bool) (w : World) (h : impl_IsIrreducible.f k a0 = some r) :
 Calls Try.prog 99 #[.int .i64 a0] w fun e w' => e = .returned (.bool r) ∧ Dq w w' := by
 have H : (if a0 < 2 then (impl_IsIrreducible.j0 k a0 true) else (impl_IsIrreducible.j0 k a0 (decide (a0 ≥ 64)))) = some r := h
 clear h
 have HC2 := Aq.mk H
 clear H
 go_enter Try.func99, Try.ntmps99
 go_upto_region 1 with (fail)
 go_cut [9] (fun v9 wc => ∃ (kq : Nat) (x9_1 : Bool), v9 = .bool x9_1 ∧ Aq (impl_IsIrreducible.j0 kq a0 x9_1 = some r) ∧ Aq (kq ≤ k) ∧ Dq w wc)
 case first =>
  have H := HC2.out
  clear HC2
  by_cases c3 : a0 < 2
  ·rw [if_pos c3] at H
   have c3b0 := decide_eq_true c3
   clear c3
   (first | rw [c3b0] | (simp only [i64_w, i32_w]; rw [c3b0]) | skip)
   replace H' := Aq.mk H
   clear H
   go_wp2
   go_meet
   case rel => exact ⟨_, (true), tS, H', ⟨tO⟩, tD⟩
  rw [if_neg c3] at H
  have c3b0 := decide_eq_false c3
  clear c3
  (first | rw [c3b0] | (simp only [i64_w, i32_w]; rw [c3b0]) | skip)
  replace H' := Aq.mk H
  clear H
  go_wp2
  go_meet
  case rel => exact ⟨_, (decide (a0 ≥ 64)), tS, H', ⟨tO⟩, tD⟩
 clear HC2
 try clear c3
 try clear c3b0
 obtain ⟨kq, x9_1, rfl, HA, HJ1, ⟨mc1, rfl⟩⟩ := hcut
 cases kq with
 | zero => exact absurd HA.out (by simp [impl_IsIrreducible.j0])
 | succ kj1 =>
  have H := HA.out
  clear HA
  simp only [impl_IsIrreducible.j0] at H
  by_cases c4 : x9_1 = true
  ·subst c4
   rw [if_pos rfl] at H
   obtain rfl := Option.some.inj H
   go_wp2
   go_ret
   exact ⟨tS, tD⟩
  replace c4 := Bool.eq_false_iff.mpr c4
  subst c4
  rw [if_neg (show ¬ (false = true) by decide)] at H
  replace H' := Aq.mk H
  clear H
  go_wp2
  go_loopg [3] kj1 (fun kq v3 w' => ∃ (x3_2 : Int), v3 = .int .i64 x3_2 ∧ Aq (impl_IsIrreducible.l0 kq a0 x3_2 = some r) ∧ Aq (kq ≤ kj1) ∧ Dq w w')
  case atStart => exact ⟨(2), tS, H', ⟨Nat.le_refl _⟩, tD⟩
  clear H'
  try clear c3
  try clear c3b0
  try clear c4
  obtain ⟨x3_2, rfl, HA, HK2, ⟨m2, rfl⟩⟩ := hrel
  cases gk with
  | zero => exact absurd HA.out (by simp [impl_IsIrreducible.l0])
  | succ k2 =>
   have H := HA.out
   clear HA
   simp only [impl_IsIrreducible.l0] at H
   obtain ⟨t683, A5, H⟩ := qBd H
   obtain ⟨t684, A6, H⟩ := qBd H
   by_cases c7 : (wrap64 (2 * t683)) ≤ t684
   rotate_left
   ·rw [if_neg c7] at H
    have c7b0 := decide_eq_false c7
    clear c7
    obtain rfl := Option.some.inj H
    go_wp2_with (first | ((with_reducible refine gQc (f := 100) rfl ?_); refine goesL_ (some 11) rfl rfl Try.func100 (by kernel_rfl) rfl #[.int .i64 x3_2] rfl tL ?_; (with_reducible refine (impl_degreeOf.calls k2 x3_2 t683 _ A5.out).mono ?_); rintro e w' ⟨rfl, ⟨nd, rfl⟩⟩; refine ⟨_, rfl, ?_⟩) | ((with_reducible refine gQc (f := 100) rfl ?_); refine goesL_ (some 14) rfl rfl Try.func100 (by kernel_rfl) rfl #[.int .i64 a0] rfl tL ?_; (with_reducible refine (impl_degreeOf.calls k2 a0 t684 _ A6.out).mono ?_); rintro e w' ⟨rfl, ⟨nd, rfl⟩⟩; refine ⟨_, rfl, ?_⟩))
    go_ret
    exact ⟨tS, tD⟩
   rw [if_pos c7] at H
   have c7b0 := decide_eq_true c7
   clear c7
   obtain ⟨t685, A8, H⟩ := qBd H
   by_cases c9 : t685 = 0
   ·rw [if_pos c9] at H
    have c9b0 := beq_iff_eq.mpr c9
    have c9b1 := bne_eq_false_iff_eq.mpr c9
    clear c9
    obtain rfl := Option.some.inj H
    go_wp2_with (first | ((with_reducible refine gQc (f := 100) rfl ?_); refine goesL_ (some 11) rfl rfl Try.func100 (by kernel_rfl) rfl #[.int .i64 x3_2] rfl tL ?_; (with_reducible refine (impl_degreeOf.calls k2 x3_2 t683 _ A5.out).mono ?_); rintro e w' ⟨rfl, ⟨nd, rfl⟩⟩; refine ⟨_, rfl, ?_⟩) | ((with_reducible refine gQc (f := 100) rfl ?_); refine goesL_ (some 14) rfl rfl Try.func100 (by kernel_rfl) rfl #[.int .i64 a0] rfl tL ?_; (with_reducible refine (impl_degreeOf.calls k2 a0 t684 _ A6.out).mono ?_); rintro e w' ⟨rfl, ⟨nd, rfl⟩⟩; refine ⟨_, rfl, ?_⟩) | ((with_reducible refine gQc (f := 111) rfl ?_); refine goesL_ (some 20) rfl rfl Try.func111 (by kernel_rfl) rfl #[.int .i64 a0, .int .i64 x3_2] rfl tL ?_; (with_reducible refine (impl_restOf.calls k2 a0 x3_2 t685 _ A8.out).mono ?_); rintro e w' ⟨rfl, ⟨nd, rfl⟩⟩; refine ⟨_, rfl, ?_⟩))
    go_ret
    exact ⟨tS, tD⟩
   rw [if_neg c9] at H
   have c9b0 := beq_eq_false_iff_ne.mpr c9
   have c9b1 := bne_iff_ne.mpr c9
   replace H' := Aq.mk H
   clear H
   go_wp2_with (first | ((with_reducible refine gQc (f := 100) rfl ?_); refine goesL_ (some 11) rfl rfl Try.func100 (by kernel_rfl) rfl #[.int .i64 x3_2] rfl tL ?_; (with_reducible refine (impl_degreeOf.calls k2 x3_2 t683 _ A5.out).mono ?_); rintro e w' ⟨rfl, ⟨nd, rfl⟩⟩; refine ⟨_, rfl, ?_⟩) | ((with_reducible refine gQc (f := 100) rfl ?_); refine goesL_ (some 14) rfl rfl Try.func100 (by kernel_rfl) rfl #[.int .i64 a0] rfl tL ?_; (with_reducible refine (impl_degreeOf.calls k2 a0 t684 _ A6.out).mono ?_); rintro e w' ⟨rfl, ⟨nd, rfl⟩⟩; refine ⟨_, rfl, ?_⟩) | ((with_reducible refine gQc (f := 111) rfl ?_); refine goesL_ (some 20) rfl rfl Try.func111 (by kernel_rfl) rfl #[.int .i64 a0, .int .i64 x3_2] rfl tL ?_; (with_reducible refine (impl_restOf.calls k2 a0 x3_2 t685 _ A8.out).mono ?_); rintro e w' ⟨rfl, ⟨nd, rfl⟩⟩; refine ⟨_, rfl, ?_⟩))
   go_roundg k2
   case measure => have := HJ1.out; have := HK2.out; omega
   case rel => exact ⟨(wrap64 (x3_2 + 1)), tS, H', ⟨by have := HJ1.out; have := HK2.out; omega⟩, tD⟩
def impl_ValidField.f (k : Nat) (a0_0 : Int) (a0_1 : Int) : Option (Bool) := (impl_within.f a0_0 1 5).bind fun t687 => (if t687 = true then ((impl_IsIrreducible.f k a0_1).bind fun t688 => (if t688 = true then ((impl_degreeOf.f k a0_1).bind fun t689 => (some (t689 == a0_0))) else (some false))) else (some false))
theorem impl_ValidField.mono : ∀ a0 a1 k, LeO (impl_ValidField.f k a0 a1) (impl_ValidField.f (k + 1) a0 a1) := by
 intro a0 a1 k
 unfold impl_ValidField.f
 repeat' first
  | (with_reducible first | apply impl_IsIrreducible.mono | apply impl_degreeOf.mono | exact LeO.refl _ | exact LeO.none _ | refine LeO.ite ?_ ?_ | refine LeO.bind ?_ (fun _ => ?_))
  | exact LeO.none _
  | refine LeO.ite ?_ ?_
  | refine LeO.bind ?_ (fun _ => ?_)
theorem impl_ValidField.calls (k : Nat) (a0_0 : Int) (a0_1 : Int) (r : Bool) (w : World) (h : impl_ValidField.f k a0_0 a0_1 = some r) :
 Calls Try.prog 67 #[.agg #[.int .i64 a0_0, .int .i64 a0_1]] w fun e w' => e = .returned (.bool r) ∧ Below w.heap.size w w' := by
 have hu49 := Try.underlying49
 have HB := Aq.mk (Below.refl w.heap.size w)
 have H : ((impl_within.f a0_0 1 5).bind fun t687 => (if t687 = true then ((impl_IsIrreducible.f k a0_1).bind fun t688 => (if t688 = true then ((impl_degreeOf.f k a0_1).bind fun t689 => (some (t689 == a0_0))) else (some false))) else (some false))) = some r := h
 clear h
 obtain ⟨t687, A2, H⟩ := qBd H
 by_cases c3 : t687 = true
 rotate_left
 ·replace c3 := Bool.eq_false_iff.mpr c3
  subst c3
  rw [if_neg (show ¬ (false = true) by decide)] at H
  obtain rfl := Option.some.inj H
  go_enter Try.func67, Try.ntmps67
  go_wp2_with (first | ((with_reducible refine gQd (N := 1) rfl ?_); refine xQe ?hg (N := 1) ?hd (cs := #[.int .i64 a0_0, .int .i64 a0_1]) (t := 49) ?hr ?_; (case hd => rfl); (case hg => rfl); (case hr => exact tH); intro gb686 hg w11 hbox hb; refine qM4 (bQT tB hb) hbox (tZ w hg) (tZ w hg) ?_; clear HB; intro HB BK686 GW686 GE686; clear hb hbox hg; have hcz12_0 : w11.cell? ⟨gb686, 0, none⟩ = some (.int .i64 a0_0) := (kQC BK686.out 0).trans rfl; have hcz12_1 : w11.cell? ⟨gb686, 1, none⟩ = some (.int .i64 a0_1) := (kQC BK686.out 1).trans rfl; have hfz12_0 := kQF BK686.out 0; have hfz12_1 := kQF BK686.out 1) | (go_at_call 68; (with_reducible refine (impl_within.calls a0_0 1 5 false _ A2.out).mono ?_); rintro e w' ⟨rfl, ⟨nd, rfl⟩⟩; (try exact tW)))
  repeat (go_quiet (first | ((with_reducible refine gQd (N := 1) rfl ?_); refine xQe ?hg (N := 1) ?hd (cs := #[.int .i64 a0_0, .int .i64 a0_1]) (t := 49) ?hr ?_; (case hd => rfl); (case hg => rfl); (case hr => exact tH); intro gb686 hg w11 hbox hb; refine qM4 (bQT tB hb) hbox (tZ w hg) (tZ w hg) ?_; clear HB; intro HB BK686 GW686 GE686; clear hb hbox hg; have hcz12_0 : w11.cell? ⟨gb686, 0, none⟩ = some (.int .i64 a0_0) := (kQC BK686.out 0).trans rfl; have hcz12_1 : w11.cell? ⟨gb686, 1, none⟩ = some (.int .i64 a0_1) := (kQC BK686.out 1).trans rfl; have hfz12_0 := kQF BK686.out 0; have hfz12_1 := kQF BK686.out 1) | (go_at_call 68; (with_reducible refine (impl_within.calls a0_0 1 5 false _ A2.out).mono ?_); rintro e w' ⟨rfl, ⟨nd, rfl⟩⟩; (try exact tW))); try go_wp2_with (first | ((with_reducible refine gQd (N := 1) rfl ?_); refine xQe ?hg (N := 1) ?hd (cs := #[.int .i64 a0_0, .int .i64 a0_1]) (t := 49) ?hr ?_; (case hd => rfl); (case hg => rfl); (case hr => exact tH); intro gb686 hg w11 hbox hb; refine qM4 (bQT tB hb) hbox (tZ w hg) (tZ w hg) ?_; clear HB; intro HB BK686 GW686 GE686; clear hb hbox hg; have hcz12_0 : w11.cell? ⟨gb686, 0, none⟩ = some (.int .i64 a0_0) := (kQC BK686.out 0).trans rfl; have hcz12_1 : w11.cell? ⟨gb686, 1, none⟩ = some (.int .i64 a0_1) := (kQC BK686.out 1).trans rfl; have hfz12_0 := kQF BK686.out 0; have hfz12_1 := kQF BK686.out 1) | (go_at_call 68; (with_reducible refine (impl_within.calls a0_0 1 5 false _ A2.out).mono ?_); rintro e w' ⟨rfl, ⟨nd, rfl⟩⟩; (try exact tW))))
  go_ret
  exact ⟨tE, tB⟩
 subst c3
 rw [if_pos rfl] at H
 obtain ⟨t688, A4, H⟩ := qBd H
 by_cases c5 : t688 = true
 ·subst c5
  rw [if_pos rfl] at H
  obtain ⟨t689, A6, H⟩ := qBd H
  obtain rfl := Option.some.inj H
  go_enter Try.func67, Try.ntmps67
  go_wp2_with (first | ((with_reducible refine gQd (N := 1) rfl ?_); refine xQe ?hg (N := 1) ?hd (cs := #[.int .i64 a0_0, .int .i64 a0_1]) (t := 49) ?hr ?_; (case hd => rfl); (case hg => rfl); (case hr => exact tH); intro gb686 hg w7 hbox hb; refine qM4 (bQT tB hb) hbox (tZ w hg) (tZ w hg) ?_; clear HB; intro HB BK686 GW686 GE686; clear hb hbox hg; have hcz8_0 : w7.cell? ⟨gb686, 0, none⟩ = some (.int .i64 a0_0) := (kQC BK686.out 0).trans rfl; have hcz8_1 : w7.cell? ⟨gb686, 1, none⟩ = some (.int .i64 a0_1) := (kQC BK686.out 1).trans rfl; have hfz8_0 := kQF BK686.out 0; have hfz8_1 := kQF BK686.out 1) | (go_at_call 68; (with_reducible refine (impl_within.calls a0_0 1 5 true _ A2.out).mono ?_); rintro e w' ⟨rfl, ⟨nd, rfl⟩⟩; (try exact tW)) | (go_at_call 99; (with_reducible refine (impl_IsIrreducible.calls k a0_1 true _ A4.out).mono ?_); rintro e w' ⟨rfl, ⟨nd, rfl⟩⟩; (try exact tW)) | (go_at_call 100; (with_reducible refine (impl_degreeOf.calls k a0_1 t689 _ A6.out).mono ?_); rintro e w' ⟨rfl, ⟨nd, rfl⟩⟩; (try exact tW)))
  repeat (go_quiet (first | ((with_reducible refine gQd (N := 1) rfl ?_); refine xQe ?hg (N := 1) ?hd (cs := #[.int .i64 a0_0, .int .i64 a0_1]) (t := 49) ?hr ?_; (case hd => rfl); (case hg => rfl); (case hr => exact tH); intro gb686 hg w7 hbox hb; refine qM4 (bQT tB hb) hbox (tZ w hg) (tZ w hg) ?_; clear HB; intro HB BK686 GW686 GE686; clear hb hbox hg; have hcz8_0 : w7.cell? ⟨gb686, 0, none⟩ = some (.int .i64 a0_0) := (kQC BK686.out 0).trans rfl; have hcz8_1 : w7.cell? ⟨gb686, 1, none⟩ = some (.int .i64 a0_1) := (kQC BK686.out 1).trans rfl; have hfz8_0 := kQF BK686.out 0; have hfz8_1 := kQF BK686.out 1) | (go_at_call 68; (with_reducible refine (impl_within.calls a0_0 1 5 true _ A2.out).mono ?_); rintro e w' ⟨rfl, ⟨nd, rfl⟩⟩; (try exact tW)) | (go_at_call 99; (with_reducible refine (impl_IsIrreducible.calls k a0_1 true _ A4.out).mono ?_); rintro e w' ⟨rfl, ⟨nd, rfl⟩⟩; (try exact tW)) | (go_at_call 100; (with_reducible refine (impl_degreeOf.calls k a0_1 t689 _ A6.out).mono ?_); rintro e w' ⟨rfl, ⟨nd, rfl⟩⟩; (try exact tW))); try go_wp2_with (first | ((with_reducible refine gQd (N := 1) rfl ?_); refine xQe ?hg (N := 1) ?hd (cs := #[.int .i64 a0_0, .int .i64 a0_1]) (t := 49) ?hr ?_; (case hd => rfl); (case hg => rfl); (case hr => exact tH); intro gb686 hg w7 hbox hb; refine qM4 (bQT tB hb) hbox (tZ w hg) (tZ w hg) ?_; clear HB; intro HB BK686 GW686 GE686; clear hb hbox hg; have hcz8_0 : w7.cell? ⟨gb686, 0, none⟩ = some (.int .i64 a0_0) := (kQC BK686.out 0).trans rfl; have hcz8_1 : w7.cell? ⟨gb686, 1, none⟩ = some (.int .i64 a0_1) := (kQC BK686.out 1).trans rfl; have hfz8_0 := kQF BK686.out 0; have hfz8_1 := kQF BK686.out 1) | (go_at_call 68; (with_reducible refine (impl_within.calls a0_0 1 5 true _ A2.out).mono ?_); rintro e w' ⟨rfl, ⟨nd, rfl⟩⟩; (try exact tW)) | (go_at_call 99; (with_reducible refine (impl_IsIrreducible.calls k a0_1 true _ A4.out).mono ?_); rintro e w' ⟨rfl, ⟨nd, rfl⟩⟩; (try exact tW)) | (go_at_call 100; (with_reducible refine (impl_degreeOf.calls k a0_1 t689 _ A6.out).mono ?_); rintro e w' ⟨rfl, ⟨nd, rfl⟩⟩; (try exact tW))))
  go_ret
  exact ⟨tE, tB⟩
 replace c5 := Bool.eq_false_iff.mpr c5
 subst c5
 rw [if_neg (show ¬ (false = true) by decide)] at H
 obtain rfl := Option.some.inj H
 go_enter Try.func67, Try.ntmps67
 go_wp2_with (first | ((with_reducible refine gQd (N := 1) rfl ?_); refine xQe ?hg (N := 1) ?hd (cs := #[.int .i64 a0_0, .int .i64 a0_1]) (t := 49) ?hr ?_; (case hd => rfl); (case hg => rfl); (case hr => exact tH); intro gb686 hg w9 hbox hb; refine qM4 (bQT tB hb) hbox (tZ w hg) (tZ w hg) ?_; clear HB; intro HB BK686 GW686 GE686; clear hb hbox hg; have hcz10_0 : w9.cell? ⟨gb686, 0, none⟩ = some (.int .i64 a0_0) := (kQC BK686.out 0).trans rfl; have hcz10_1 : w9.cell? ⟨gb686, 1, none⟩ = some (.int .i64 a0_1) := (kQC BK686.out 1).trans rfl; have hfz10_0 := kQF BK686.out 0; have hfz10_1 := kQF BK686.out 1) | (go_at_call 68; (with_reducible refine (impl_within.calls a0_0 1 5 true _ A2.out).mono ?_); rintro e w' ⟨rfl, ⟨nd, rfl⟩⟩; (try exact tW)) | (go_at_call 99; (with_reducible refine (impl_IsIrreducible.calls k a0_1 false _ A4.out).mono ?_); rintro e w' ⟨rfl, ⟨nd, rfl⟩⟩; (try exact tW)))
 repeat (go_quiet (first | ((with_reducible refine gQd (N := 1) rfl ?_); refine xQe ?hg (N := 1) ?hd (cs := #[.int .i64 a0_0, .int .i64 a0_1]) (t := 49) ?hr ?_; (case hd => rfl); (case hg => rfl); (case hr => exact tH); intro gb686 hg w9 hbox hb; refine qM4 (bQT tB hb) hbox (tZ w hg) (tZ w hg) ?_; clear HB; intro HB BK686 GW686 GE686; clear hb hbox hg; have hcz10_0 : w9.cell? ⟨gb686, 0, none⟩ = some (.int .i64 a0_0) := (kQC BK686.out 0).trans rfl; have hcz10_1 : w9.cell? ⟨gb686, 1, none⟩ = some (.int .i64 a0_1) := (kQC BK686.out 1).trans rfl; have hfz10_0 := kQF BK686.out 0; have hfz10_1 := kQF BK686.out 1) | (go_at_call 68; (with_reducible refine (impl_within.calls a0_0 1 5 true _ A2.out).mono ?_); rintro e w' ⟨rfl, ⟨nd, rfl⟩⟩; (try exact tW)) | (go_at_call 99; (with_reducible refine (impl_IsIrreducible.calls k a0_1 false _ A4.out).mono ?_); rintro e w' ⟨rfl, ⟨nd, rfl⟩⟩; (try exact tW))); try go_wp2_with (first | ((with_reducible refine gQd (N := 1) rfl ?_); refine xQe ?hg (N := 1) ?hd (cs := #[.int .i64 a0_0, .int .i64 a0_1]) (t := 49) ?hr ?_; (case hd => rfl); (case hg => rfl); (case hr => exact tH); intro gb686 hg w9 hbox hb; refine qM4 (bQT tB hb) hbox (tZ w hg) (tZ w hg) ?_; clear HB; intro HB BK686 GW686 GE686; clear hb hbox hg; have hcz10_0 : w9.cell? ⟨gb686, 0, none⟩ = some (.int .i64 a0_0) := (kQC BK686.out 0).trans rfl; have hcz10_1 : w9.cell? ⟨gb686, 1, none⟩ = some (.int .i64 a0_1) := (kQC BK686.out 1).trans rfl; have hfz10_0 := kQF BK686.out 0; have hfz10_1 := kQF BK686.out 1) | (go_at_call 68; (with_reducible refine (impl_within.calls a0_0 1 5 true _ A2.out).mono ?_); rintro e w' ⟨rfl, ⟨nd, rfl⟩⟩; (try exact tW)) | (go_at_call 99; (with_reducible refine (impl_IsIrreducible.calls k a0_1 false _ A4.out).mono ?_); rintro e w' ⟨rfl, ⟨nd, rfl⟩⟩; (try exact tW))))
 go_ret
 exact ⟨tE, tB⟩
def impl_Net_isNode.f (a0_0 : Int) (a0_1 : Int) (a0_2 : Int) (a0_3 : Int) (l0_4 : List (List Int)) (l0_5 : List (List Int)) (a1 : Int) : Option (Bool) := (impl_within.f a1 0 (wrap64 (a0_2 - 1))).bind fun t691 => (some t691)
theorem impl_Net_isNode.calls (a0_0 : Int) (a0_1 : Int) (a0_2 : Int) (a0_3 : Int) (A0_4 : Option Addr) (c0_4 : Nat) (l0_4 : List (List Int)) (A0_5 : Option Addr) (c0_5 : Nat) (l0_5 : List (List Int)) (a1 : Int) (r : Bool) (w : World) (hr0_4 : Kd.C (Kd.slice 2 (Kd.int .i64)) w A0_4 l0_4.length l0_4) (hc0_4 : l0_4.length ≤ c0_4) (hr0_5 : Kd.C (Kd.slice 2 (Kd.int .i64)) w A0_5 l0_5.length l0_5) (hc0_5 : l0_5.length ≤ c0_5) (h : impl_Net_isNode.f a0_0 a0_1 a0_2 a0_3 l0_4 l0_5 a1 = some r) :
 Calls Try.prog 69 #[.agg #[.int .i64 a0_0, .int .i64 a0_1, .int .i64 a0_2, .int .i64 a0_3, .slice A0_4 l0_4.length c0_4, .slice A0_5 l0_5.length c0_5], .int .i64 a1] w fun e w' => e = .returned (.bool r) ∧ Below w.heap.size w w' := by
 have hu51 := Try.underlying51
 have HR0_4 := Aq.mk hr0_4
 have HC0_4 := Aq.mk hc0_4
 clear hr0_4 hc0_4
 have HR0_5 := Aq.mk hr0_5
 have HC0_5 := Aq.mk hc0_5
 clear hr0_5 hc0_5
 have HB := Aq.mk (Below.refl w.heap.size w)
 have H : ((impl_within.f a1 0 (wrap64 (a0_2 - 1))).bind fun t691 => (some t691)) = some r := h
 clear h
 obtain ⟨t691, A3, H⟩ := qBd H
 obtain rfl := Option.some.inj H
 go_enter Try.func69, Try.ntmps69
 go_wp2_with (first | ((with_reducible refine gQd (N := 2) rfl ?_); refine xQe ?hg (N := 2) ?hd (cs := #[.int .i64 a0_0, .int .i64 a0_1, .int .i64 a0_2, .int .i64 a0_3, .slice A0_4 l0_4.length c0_4, .slice A0_5 l0_5.length c0_5]) (t := 51) ?hr ?_; (case hd => rfl); (case hg => rfl); (case hr => exact tH); intro gb690 hg w4 hbox hb; refine qM4 (bQT tB hb) hbox (tZ w hg) (tZ w hg) ?_; clear HB; intro HB BK690 GW690 GE690; clear hb hbox hg; have hcz5_0 : w4.cell? ⟨gb690, 0, none⟩ = some (.int .i64 a0_0) := (kQC BK690.out 0).trans rfl; have hcz5_1 : w4.cell? ⟨gb690, 1, none⟩ = some (.int .i64 a0_1) := (kQC BK690.out 1).trans rfl; have hcz5_2 : w4.cell? ⟨gb690, 2, none⟩ = some (.int .i64 a0_2) := (kQC BK690.out 2).trans rfl; have hcz5_3 : w4.cell? ⟨gb690, 3, none⟩ = some (.int .i64 a0_3) := (kQC BK690.out 3).trans rfl; have hcz5_4 : w4.cell? ⟨gb690, 4, none⟩ = some (.slice A0_4 l0_4.length c0_4) := (kQC BK690.out 4).trans rfl; have hcz5_5 : w4.cell? ⟨gb690, 5, none⟩ = some (.slice A0_5 l0_5.length c0_5) := (kQC BK690.out 5).trans rfl; have hfz5_0 := kQF BK690.out 0; have hfz5_1 := kQF BK690.out 1; have hfz5_2 := kQF BK690.out 2; have hfz5_3 := kQF BK690.out 3; have hfz5_4 := kQF BK690.out 4; have hfz5_5 := kQF BK690.out 5) | ((with_reducible refine gQc (f := 68) rfl ?_); refine goesL_ (some 9) rfl rfl Try.func68 (by kernel_rfl) rfl #[.int .i64 a1, .int .i64 0, .int .i64 (wrap64 (a0_2 - 1))] rfl tL ?_; (with_reducible refine (impl_within.calls a1 0 (wrap64 (a0_2 - 1)) t691 _ A3.out).mono ?_); rintro e w' ⟨rfl, ⟨nd, rfl⟩⟩; refine ⟨_, rfl, ?_⟩))
 go_ret
 exact ⟨tE, tB⟩
def impl_Net_into.l0 : Nat → Int → List Int → List (List Int) → Int → Int → Option (List Int)
  | 0, _, _, _, _, _ => none
  | k + 1, x1, x5, x10, x11, x12 => if x12 < x11 then (if 0 ≤ x12 then (if x12 < (x10.length : Int) then (if 1 < ((rd_L2 x10 x12).length : Int) then (if (rd (rd_L2 x10 x12) 1) = x1 then (if x5.length < 17592186044416 then (impl_Net_into.l0 k x1 (x5 ++ [x12]) x10 x11 (wrap64 (x12 + 1))) else (none)) else (impl_Net_into.l0 k x1 x5 x10 x11 (wrap64 (x12 + 1)))) else (none)) else (none)) else (none)) else (some x5)
def impl_Net_into.f (k : Nat) (a0_0 : Int) (a0_1 : Int) (a0_2 : Int) (a0_3 : Int) (l0_4 : List (List Int)) (l0_5 : List (List Int)) (a1 : Int) : Option (List Int) := impl_Net_into.l0 k a1 (([] : List Int)) l0_4 (l0_4.length : Int) 0
theorem impl_Net_into.mono_l : ∀ k, (∀ y0 y1 y2 y3 y4, LeO (impl_Net_into.l0 k y0 y1 y2 y3 y4) (impl_Net_into.l0 (k + 1) y0 y1 y2 y3 y4))
 | 0 => fun _ _ _ _ _ r h => by simp [impl_Net_into.l0] at h
 | k + 1 => by
  have ih0 := impl_Net_into.mono_l k
  ·intro y0 y1 y2 y3 y4
   unfold impl_Net_into.l0
   repeat' first
   | (with_reducible first | apply ih0 | exact LeO.refl _ | exact LeO.none _ | refine LeO.ite ?_ ?_ | refine LeO.bind ?_ (fun _ => ?_))
   | exact LeO.none _
   | refine LeO.ite ?_ ?_
   | refine LeO.bind ?_ (fun _ => ?_)
theorem impl_Net_into.mono : ∀ a0 a1 a2 a3 a4 a5 a6 k, LeO (impl_Net_into.f k a0 a1 a2 a3 a4 a5 a6) (impl_Net_into.f (k + 1) a0 a1 a2 a3 a4 a5 a6) := by
 intro a0 a1 a2 a3 a4 a5 a6 k
 have ih0 := impl_Net_into.mono_l k
 unfold impl_Net_into.f
 repeat' first
  | (with_reducible first | apply ih0 | exact LeO.refl _ | exact LeO.none _ | refine LeO.ite ?_ ?_ | refine LeO.bind ?_ (fun _ => ?_))
  | exact LeO.none _
  | refine LeO.ite ?_ ?_
  | refine LeO.bind ?_ (fun _ => ?_)
theorem impl_Net_into.calls (k : Nat) (a0_0 : Int) (a0_1 : Int) (a0_2 : Int) (a0_3 : Int) (A0_4 : Option Addr) (c0_4 : Nat) (l0_4 : List (List Int)) (A0_5 : Option Addr) (c0_5 : Nat) (l0_5 : List (List Int)) (a1 : Int) (r : List Int) (w : World) (hr0_4 : Kd.C (Kd.slice 2 (Kd.int .i64)) w A0_4 l0_4.length l0_4) (hc0_4 : l0_4.length ≤ c0_4) (hr0_5 : Kd.C (Kd.slice 2 (Kd.int .i64)) w A0_5 l0_5.length l0_5) (hc0_5 : l0_5.length ≤ c0_5) (h : impl_Net_into.f k a0_0 a0_1 a0_2 a0_3 l0_4 l0_5 a1 = some r) :
 Calls Try.prog 101 #[.agg #[.int .i64 a0_0, .int .i64 a0_1, .int .i64 a0_2, .int .i64 a0_3, .slice A0_4 l0_4.length c0_4, .slice A0_5 l0_5.length c0_5], .int .i64 a1] w fun e w' => ∃ v0_ : Value, e = .returned (v0_) ∧ Kd.R (Kd.int .i64) 2 w' w.heap.size (fun _ => True) v0_ r ∧ Below w.heap.size w w' := by
 have hu51 := Try.underlying51
 have HR0_4 := Aq.mk hr0_4
 have HC0_4 := Aq.mk hc0_4
 clear hr0_4 hc0_4
 have HR0_5 := Aq.mk hr0_5
 have HC0_5 := Aq.mk hc0_5
 clear hr0_5 hc0_5
 have HB := Aq.mk (Below.refl w.heap.size w)
 have H : (impl_Net_into.l0 k a1 (([] : List Int)) l0_4 (l0_4.length : Int) 0) = some r := h
 clear h
 obtain ⟨y693, hy693⟩ : ∃ y_ : List Int, y_ = (([] : List Int)) := ⟨_, rfl⟩
 replace H : (impl_Net_into.l0 k a1 y693 l0_4 (l0_4.length : Int) 0) = some r := by first | (rw [hy693]; with_reducible exact H) | (have H2_ := (Option.bind_some _ _).symm.trans H; rw [hy693]; with_reducible exact H2_) | (have H2_ := (Option.bind_some _ _).symm.trans H; with_reducible exact H2_) | with_reducible exact H | (rw [hy693]; exact H) | exact H
 have Ny693 := Aq.mk hy693
 clear hy693
 replace H' := Aq.mk H
 clear H
 go_enter Try.func101, Try.ntmps101
 go_wp2_with (first | ((with_reducible refine gQd (N := 2) rfl ?_); refine xQe ?hg (N := 2) ?hd (cs := #[.int .i64 a0_0, .int .i64 a0_1, .int .i64 a0_2, .int .i64 a0_3, .slice A0_4 l0_4.length c0_4, .slice A0_5 l0_5.length c0_5]) (t := 51) ?hr ?_; (case hd => rfl); (case hg => rfl); (case hr => exact tH); intro gb692 hg w3 hbox hb; refine qM4 (bQT tB hb) hbox (tZ w hg) (tZ w hg) ?_; clear HB; intro HB BK692 GW692 GE692; clear hb hbox hg) | ((with_reducible refine gQd (N := 8) rfl ?_); refine Kd.R_lit (Kd.int .i64) _ 2 ?hg (N := 8) ?hd (xs := ([] : List Int)) (inner := []) (ok := fun _ => True) (okp := fun _ => True) ?hr ?hp (fun _ hk => hk) trivial (Below.refl _ _) (Nat.le_refl _) (by simp) ?_; (case hd => rfl); (case hg => rfl); (case hr => exact tH); (case hp => exact (Reps.none _ _)); intro v694 w4 ho5 hb hg_ hnew_; clear hg_ hnew_; (first | rw [← Ny693.out] at ho5 | (simp only [Int.reduceToNat] at ho5; rw [← Ny693.out] at ho5)); refine qM3 (Kd.R_lower ho5 (bQZ tB)) (tQ BK692.out hb) (bQT tB hb) ?_; clear BK692 HB; intro HO695 BK692 HB; clear hb ho5; have hcz6_0 : w4.cell? ⟨gb692, 0, none⟩ = some (.int .i64 a0_0) := (kQC BK692.out 0).trans rfl; have hcz6_1 : w4.cell? ⟨gb692, 1, none⟩ = some (.int .i64 a0_1) := (kQC BK692.out 1).trans rfl; have hcz6_2 : w4.cell? ⟨gb692, 2, none⟩ = some (.int .i64 a0_2) := (kQC BK692.out 2).trans rfl; have hcz6_3 : w4.cell? ⟨gb692, 3, none⟩ = some (.int .i64 a0_3) := (kQC BK692.out 3).trans rfl; have hcz6_4 : w4.cell? ⟨gb692, 4, none⟩ = some (.slice A0_4 l0_4.length c0_4) := (kQC BK692.out 4).trans rfl; have hcz6_5 : w4.cell? ⟨gb692, 5, none⟩ = some (.slice A0_5 l0_5.length c0_5) := (kQC BK692.out 5).trans rfl; have hfz6_0 := kQF BK692.out 0; have hfz6_1 := kQF BK692.out 1; have hfz6_2 := kQF BK692.out 2; have hfz6_3 := kQF BK692.out 3; have hfz6_4 := kQF BK692.out 4; have hfz6_5 := kQF BK692.out 5))
 go_loopg [5, 12] k (fun kq v5 v12 w' => ∃ (x5_1 : List Int) (x12_1 : Int), v12 = .int .i64 x12_1 ∧ Aq (impl_Net_into.l0 kq a1 x5_1 l0_4 (l0_4.length : Int) x12_1 = some r) ∧ Aq (kq ≤ k) ∧ Aq (Kd.R (Kd.int .i64) 2 w' w.heap.size (fun _ => True) v5 x5_1) ∧ Aq (w'.heap[gb692]? = some (.cells #[.int .i64 a0_0, .int .i64 a0_1, .int .i64 a0_2, .int .i64 a0_3, (.slice A0_4 l0_4.length c0_4), (.slice A0_5 l0_5.length c0_5)] 51 (0, 0))) ∧ Aq (Below w.heap.size w w'))
 case atStart => exact ⟨(y693), (0), tS, H', ⟨Nat.le_refl _⟩, ⟨tR HO695.out⟩, ⟨tG BK692.out⟩, ⟨tB⟩⟩
 clear H'
 try clear hcz6_0
 try clear hcz6_1
 try clear hcz6_2
 try clear hcz6_3
 try clear hcz6_4
 try clear hcz6_5
 try clear hfz6_0
 try clear hfz6_1
 try clear hfz6_2
 try clear hfz6_3
 try clear hfz6_4
 try clear hfz6_5
 obtain ⟨x5_1, x12_1, rfl, HA, HK1, HO_5, BK692, HB⟩ := hrel
 cases gk with
 | zero => exact absurd HA.out (by simp [impl_Net_into.l0])
 | succ k1 =>
  have H := HA.out
  clear HA
  simp only [impl_Net_into.l0] at H
  by_cases c7 : x12_1 < (l0_4.length : Int)
  rotate_left
  ·rw [if_neg c7] at H
   have c7b0 := decide_eq_false c7
   clear c7
   obtain rfl := Option.some.inj H
   go_wp2
   go_ret
   exact ⟨_, tE, tR HO_5.out, tB⟩
  rw [if_pos c7] at H
  have c7b0 := decide_eq_true c7
  clear c7
  by_cases c8 : 0 ≤ x12_1
  rotate_left
  ·rw [if_neg c8] at H
   exact absurd H (by simp)
  rw [if_pos c8] at H
  have c8b0 := decide_eq_true c8
  clear c8
  by_cases c9 : x12_1 < (l0_4.length : Int)
  rotate_left
  ·rw [if_neg c9] at H
   exact absurd H (by simp)
  rw [if_pos c9] at H
  have c9b0 := decide_eq_true c9
  clear c9
  by_cases c10 : 1 < ((rd_L2 l0_4 x12_1).length : Int)
  rotate_left
  ·rw [if_neg c10] at H
   exact absurd H (by simp)
  rw [if_pos c10] at H
  have c10b0 := decide_eq_true c10
  have c10b1 : decide (1 < (rd_L2 l0_4 x12_1).length) = true := decide_eq_true (by omega)
  clear c10
  by_cases c11 : (rd (rd_L2 l0_4 x12_1) 1) = a1
  rotate_left
  ·rw [if_neg c11] at H
   have c11b0 := beq_eq_false_iff_ne.mpr c11
   have c11b1 := bne_iff_ne.mpr c11
   replace H' := Aq.mk H
   clear H
   have p696 : 0 ≤ (x12_1 : Int) := of_decide_eq_true tA
   have q696 : x12_1 < (l0_4.length : Int) := of_decide_eq_true tA
   obtain ⟨ad696, A696_0, c696_0, e696, hx696_0, hl696_0, hi696_0⟩ := at_L2 HR0_4.out x12_1 p696 q696
   cases e696
   replace hx696_0 := (HB.out.cell (World.block_lt_of_cell? w _ hx696_0)).trans hx696_0
   have HR696_0 := Aq.mk hi696_0
   have HC696_0 := Aq.mk hl696_0
   clear hi696_0 hl696_0
   replace p696 := eq_true p696
   replace q696 := eq_true q696
   have p697 : 0 ≤ (1 : Int) := (by omega)
   have q697 : 1 < ((rd_L2 l0_4 x12_1).length : Int) := of_decide_eq_true tA
   obtain ⟨ad697, e697, hx697_0⟩ := Kd.at_int HR696_0.out 1 p697 q697
   cases e697
   (try simp only [show (1 : Int).toNat = 1 from rfl, Nat.reduceMul, Nat.reduceEqDiff, Go.Addr.add, ↓reduceIte] at hx697_0)
   have qi697 : (1 < (rd_L2 l0_4 x12_1).length) = True := eq_true (by omega)
   (try rw [show ((1 : Int)).toNat = 1 from rfl] at hx697_0)
   replace hx697_0 := (HB.out.cell (World.block_lt_of_cell? w _ hx697_0)).trans hx697_0
   replace p697 := eq_true p697
   replace q697 := eq_true q697
   go_wp2
   go_roundg k1
   case measure => have := HK1.out; omega
   case rel => exact ⟨(x5_1), (wrap64 (x12_1 + 1)), tS, H', ⟨by have := HK1.out; omega⟩, ⟨tR HO_5.out⟩, ⟨tG BK692.out⟩, ⟨tB⟩⟩
  rw [if_pos c11] at H
  have c11b0 := beq_iff_eq.mpr c11
  have c11b1 := bne_eq_false_iff_eq.mpr c11
  clear c11
  by_cases c12 : x5_1.length < 17592186044416
  rotate_left
  ·rw [if_neg c12] at H
   exact absurd H (by simp)
  rw [if_pos c12] at H
  have LMc12 := Aq.mk c12
  clear c12
  obtain ⟨y698, hy698⟩ : ∃ y_ : List Int, y_ = (x5_1 ++ [x12_1]) := ⟨_, rfl⟩
  replace H : (impl_Net_into.l0 k1 a1 y698 l0_4 (l0_4.length : Int) (wrap64 (x12_1 + 1))) = some r := by first | (rw [hy698]; with_reducible exact H) | (have H2_ := (Option.bind_some _ _).symm.trans H; rw [hy698]; with_reducible exact H2_) | (have H2_ := (Option.bind_some _ _).symm.trans H; with_reducible exact H2_) | with_reducible exact H | (rw [hy698]; exact H) | exact H
  have Ny698 := Aq.mk hy698
  clear hy698
  replace H' := Aq.mk H
  clear H
  have p696 : 0 ≤ (x12_1 : Int) := of_decide_eq_true tA
  have q696 : x12_1 < (l0_4.length : Int) := of_decide_eq_true tA
  obtain ⟨ad696, A696_0, c696_0, e696, hx696_0, hl696_0, hi696_0⟩ := at_L2 HR0_4.out x12_1 p696 q696
  cases e696
  replace hx696_0 := (HB.out.cell (World.block_lt_of_cell? w _ hx696_0)).trans hx696_0
  have HR696_0 := Aq.mk hi696_0
  have HC696_0 := Aq.mk hl696_0
  clear hi696_0 hl696_0
  replace p696 := eq_true p696
  replace q696 := eq_true q696
  have p697 : 0 ≤ (1 : Int) := (by omega)
  have q697 : 1 < ((rd_L2 l0_4 x12_1).length : Int) := of_decide_eq_true tA
  obtain ⟨ad697, e697, hx697_0⟩ := Kd.at_int HR696_0.out 1 p697 q697
  cases e697
  (try simp only [show (1 : Int).toNat = 1 from rfl, Nat.reduceMul, Nat.reduceEqDiff, Go.Addr.add, ↓reduceIte] at hx697_0)
  have qi697 : (1 < (rd_L2 l0_4 x12_1).length) = True := eq_true (by omega)
  (try rw [show ((1 : Int)).toNat = 1 from rfl] at hx697_0)
  replace hx697_0 := (HB.out.cell (World.block_lt_of_cell? w _ hx697_0)).trans hx697_0
  replace p697 := eq_true p697
  replace q697 := eq_true q697
  go_wp2_with (first | ((with_reducible refine gate_builtin (b := .append) (xs := #[.tmp 22, .tmp 24]) rfl ?_); at_builtin; refine Kd.R_append (Kd.int .i64) (w0 := w) w.heap.size rfl (.tmp 22) (.tmp 24) 25 2 (.int .i64 0) 8 rfl Try.underlying25 info2 rfl (by decide) (by omega) u5 x5_1 x12_1 [.int .i64 x12_1] (fun _ => True) (fun _ => False) rfl rfl ?aP (fun _ hk => hk.elim) ?aF ?aO ?aB ?aS ?aL ?_; (case aP => exact rfl); (case aB => exact tB); (case aF => exact (fun _ _ => trivial)); (case aO => exact (tR HO_5.out)); (case aS => exact (bQZ tB)); (case aL => have := LMc12.out; omega); intro v699 w13 ho hb hg hat; rw [← Ny698.out] at ho; refine qM3 (blk_grown (g := gb692) (o := .cells #[.int .i64 a0_0, .int .i64 a0_1, .int .i64 a0_2, .int .i64 a0_3, .slice (some ad696) l0_4.length c0_4, .slice A0_5 l0_5.length c0_5] 51 (0, 0)) (tG BK692.out) hg (Kd.R_ne HO_5.out BK692.out (by decide))) hb ho ?_; clear BK692 HB HO_5; intro BK692 HB HO700; clear ho hb hg hat))
  go_roundg k1
  case measure => have := HK1.out; omega
  case rel => exact ⟨(y698), (wrap64 (x12_1 + 1)), tS, H', ⟨by have := HK1.out; omega⟩, ⟨tR HO700.out⟩, ⟨tG BK692.out⟩, ⟨tB⟩⟩
end Go.Proofs.Ythjfilmdobkmlaa.P
