/- Functions of the program and what they tell, as the printing program wrote it. -/
import Derived.Test.YtpigghpimgkilaaPx0
import Derived.Test.YtpigghpimgkilaaPx2
import Derived.Test.YtpigghpimgkilaaPx6
namespace Go.Proofs.Ytpigghpimgkilaa.P
open Go.Shelf Go.RowKit Go.Proofs.YtpigghpimgkilaaW.PrintWords Go.Proofs.YtpigghpimgkilaaW.PrintLast Go.Proofs.YtpigghpimgkilaaW.PrintMore
attribute [local go_sem] max2_int min2_int max_two min_two max_three min_three max_four min_four
set_option linter.unusedVariables false
set_option linter.unusedSimpArgs false
set_option maxHeartbeats 8000000
set_option maxRecDepth 100000
def slices_IndexFunc_int64_int64_AT_impl_Field_linearCode_1.l0 : Nat → List (List Int) → Int → Int → Int → Int → Option (Int)
  | 0, _, _, _, _, _ => none
  | k + 1, x0, x7, x8, x49000, x49001 => if x8 < x7 then (if 0 ≤ x8 then (if x8 < (x0.length : Int) then ((impl_Field_linearCode_1.f k (rd_L1 x0 x8) x49000 x49001).bind fun t201 => (if t201 = true then (some x8) else (slices_IndexFunc_int64_int64_AT_impl_Field_linearCode_1.l0 k x0 x7 (wrap64 (x8 + 1)) x49000 x49001))) else (none)) else (none)) else (some (-1))
def slices_IndexFunc_int64_int64_AT_impl_Field_linearCode_1.f (k : Nat) (l0 : List (List Int)) (a1_0 : Int) (a1_1 : Int) : Option (Int) := slices_IndexFunc_int64_int64_AT_impl_Field_linearCode_1.l0 k l0 (l0.length : Int) 0 a1_0 a1_1
theorem slices_IndexFunc_int64_int64_AT_impl_Field_linearCode_1.mono_l : ∀ k, (∀ y0 y1 y2 y3 y4, LeO (slices_IndexFunc_int64_int64_AT_impl_Field_linearCode_1.l0 k y0 y1 y2 y3 y4) (slices_IndexFunc_int64_int64_AT_impl_Field_linearCode_1.l0 (k + 1) y0 y1 y2 y3 y4))
 | 0 => fun _ _ _ _ _ r h => by simp [slices_IndexFunc_int64_int64_AT_impl_Field_linearCode_1.l0] at h
 | k + 1 => by
  have ih0 := slices_IndexFunc_int64_int64_AT_impl_Field_linearCode_1.mono_l k
  ·intro y0 y1 y2 y3 y4
   unfold slices_IndexFunc_int64_int64_AT_impl_Field_linearCode_1.l0
   repeat' first
   | (with_reducible first | apply ih0 | apply impl_Field_linearCode_1.mono | exact LeO.refl _ | exact LeO.none _ | refine LeO.ite ?_ ?_ | refine LeO.bind ?_ (fun _ => ?_))
   | exact LeO.none _
   | refine LeO.ite ?_ ?_
   | refine LeO.bind ?_ (fun _ => ?_)
theorem slices_IndexFunc_int64_int64_AT_impl_Field_linearCode_1.mono : ∀ a0 a1 a2 k, LeO (slices_IndexFunc_int64_int64_AT_impl_Field_linearCode_1.f k a0 a1 a2) (slices_IndexFunc_int64_int64_AT_impl_Field_linearCode_1.f (k + 1) a0 a1 a2) := by
 intro a0 a1 a2 k
 have ih0 := slices_IndexFunc_int64_int64_AT_impl_Field_linearCode_1.mono_l k
 unfold slices_IndexFunc_int64_int64_AT_impl_Field_linearCode_1.f
 repeat' first
  | (with_reducible first | apply ih0 | apply impl_Field_linearCode_1.mono | exact LeO.refl _ | exact LeO.none _ | refine LeO.ite ?_ ?_ | refine LeO.bind ?_ (fun _ => ?_))
  | exact LeO.none _
  | refine LeO.ite ?_ ?_
  | refine LeO.bind ?_ (fun _ => ?_)
theorem slices_IndexFunc_int64_int64_AT_impl_Field_linearCode_1.calls (k : Nat) (A0 : Option Addr) (c0 : Nat) (l0 : List (List Int)) (g1_0 : Addr) (a1_0 : Int) (a1_1 : Int) (r : Int) (w : World) (hr0 : Kd.C (Kd.slice 2 (Kd.int .i64)) w A0 l0.length l0) (hc0 : l0.length ≤ c0) (hb1_0 : AtC w g1_0 [.int .i64 a1_0, .int .i64 a1_1]) (h : slices_IndexFunc_int64_int64_AT_impl_Field_linearCode_1.f k l0 a1_0 a1_1 = some r) :
 Calls Try.prog 74 #[.slice A0 l0.length c0, .func (.func 54) #[] #[.pointer (some g1_0)]] w fun e w' => e = .returned (.int .i64 r) ∧ Below w.heap.size w w' := by
 have eg54 : ∀ (args_ : Array Value) (w_ : World), (callFunc 54 args_).run Try.prog w_ = .ok (.enter 54 args_) w_ := enters_of Try.func54 (by kernel_rfl) rfl
 have HR0 := Aq.mk hr0
 have HC0 := Aq.mk hc0
 clear hr0 hc0
 have BK48 := Aq.mk hb1_0
 clear hb1_0
 have HB := Aq.mk (Below.refl w.heap.size w)
 have H : (slices_IndexFunc_int64_int64_AT_impl_Field_linearCode_1.l0 k l0 (l0.length : Int) 0 a1_0 a1_1) = some r := h
 clear h
 replace H' := Aq.mk H
 clear H
 go_enter Try.func74, Try.ntmps74
 go_wp2
 go_loopg [8] k (fun kq v8 w' => ∃ (x8_1 : Int), v8 = .int .i64 x8_1 ∧ Aq (slices_IndexFunc_int64_int64_AT_impl_Field_linearCode_1.l0 kq l0 (l0.length : Int) x8_1 a1_0 a1_1 = some r) ∧ Aq (kq ≤ k) ∧ Aq (Below w.heap.size w w'))
 case atStart => exact ⟨(0), tS, H', ⟨Nat.le_refl _⟩, ⟨tB⟩⟩
 clear H'
 obtain ⟨x8_1, rfl, HA, HK1, HB⟩ := hrel
 cases gk with
 | zero => exact absurd HA.out (by simp [slices_IndexFunc_int64_int64_AT_impl_Field_linearCode_1.l0])
 | succ k1 =>
  have H := HA.out
  clear HA
  simp only [slices_IndexFunc_int64_int64_AT_impl_Field_linearCode_1.l0] at H
  by_cases c3 : x8_1 < (l0.length : Int)
  rotate_left
  ·rw [if_neg c3] at H
   have c3b0 := decide_eq_false c3
   clear c3
   obtain rfl := Option.some.inj H
   go_wp2
   go_ret
   exact ⟨tE, tB⟩
  rw [if_pos c3] at H
  have c3b0 := decide_eq_true c3
  clear c3
  by_cases c4 : 0 ≤ x8_1
  rotate_left
  ·rw [if_neg c4] at H
   exact absurd H (by simp)
  rw [if_pos c4] at H
  have c4b0 := decide_eq_true c4
  clear c4
  by_cases c5 : x8_1 < (l0.length : Int)
  rotate_left
  ·rw [if_neg c5] at H
   exact absurd H (by simp)
  rw [if_pos c5] at H
  have c5b0 := decide_eq_true c5
  clear c5
  obtain ⟨t201, A6, H⟩ := qBd H
  by_cases c7 : t201 = true
  ·subst c7
   rw [if_pos rfl] at H
   obtain rfl := Option.some.inj H
   have p200 : 0 ≤ (x8_1 : Int) := of_decide_eq_true tA
   have q200 : x8_1 < (l0.length : Int) := of_decide_eq_true tA
   obtain ⟨ad200, A200_0, c200_0, e200, hx200_0, hl200_0, hi200_0⟩ := at_L1 HR0.out x8_1 p200 q200
   cases e200
   replace hx200_0 := (HB.out.cell (World.block_lt_of_cell? w _ hx200_0)).trans hx200_0
   have HR200_0 := Aq.mk hi200_0
   have HC200_0 := Aq.mk hl200_0
   clear hi200_0 hl200_0
   replace p200 := eq_true p200
   replace q200 := eq_true q200
   go_wp2_with (first | (go_at_fn 54; (with_reducible refine (impl_Field_linearCode_1.calls k1 _ _ (rd_L1 l0 x8_1) (g1_0 : Addr) a1_0 a1_1 true _ ?s1 ?s2 ?s3 A6.out).mono ?_); (case s1 => exact tC ((Kd.C_below HR200_0.out HB.out))); (case s2 => exact HC200_0.out); (case s3 => repeat (first | exact (AtC.below BK48.out HB.out) | (with_reducible refine AtC.alloc ?_ _) | (with_reducible refine AtC.drewN ?_ _) | (with_reducible refine AtC.drew ?_))); rintro e w8 ⟨rfl, hb⟩; refine qM1 (bQT tB hb) ?_; clear HB; intro HB; (try clear hb); (try clear hb2); (try clear hk); (try clear hi)))
   go_ret
   exact ⟨tE, tB⟩
  replace c7 := Bool.eq_false_iff.mpr c7
  subst c7
  rw [if_neg (show ¬ (false = true) by decide)] at H
  replace H' := Aq.mk H
  clear H
  have p200 : 0 ≤ (x8_1 : Int) := of_decide_eq_true tA
  have q200 : x8_1 < (l0.length : Int) := of_decide_eq_true tA
  obtain ⟨ad200, A200_0, c200_0, e200, hx200_0, hl200_0, hi200_0⟩ := at_L1 HR0.out x8_1 p200 q200
  cases e200
  replace hx200_0 := (HB.out.cell (World.block_lt_of_cell? w _ hx200_0)).trans hx200_0
  have HR200_0 := Aq.mk hi200_0
  have HC200_0 := Aq.mk hl200_0
  clear hi200_0 hl200_0
  replace p200 := eq_true p200
  replace q200 := eq_true q200
  go_wp2_with (first | (go_at_fn 54; (with_reducible refine (impl_Field_linearCode_1.calls k1 _ _ (rd_L1 l0 x8_1) (g1_0 : Addr) a1_0 a1_1 false _ ?s1 ?s2 ?s3 A6.out).mono ?_); (case s1 => exact tC ((Kd.C_below HR200_0.out HB.out))); (case s2 => exact HC200_0.out); (case s3 => repeat (first | exact (AtC.below BK48.out HB.out) | (with_reducible refine AtC.alloc ?_ _) | (with_reducible refine AtC.drewN ?_ _) | (with_reducible refine AtC.drew ?_))); rintro e w9 ⟨rfl, hb⟩; refine qM1 (bQT tB hb) ?_; clear HB; intro HB; (try clear hb); (try clear hb2); (try clear hk); (try clear hi)))
  go_roundg k1
  case measure => have := HK1.out; omega
  case rel => exact ⟨(wrap64 (x8_1 + 1)), tS, H', ⟨by have := HK1.out; omega⟩, ⟨tB⟩⟩
def slices_ContainsFunc_int64_int64_AT_impl_Field_linearCode_1.f (k : Nat) (l0 : List (List Int)) (a1_0 : Int) (a1_1 : Int) : Option (Bool) := (slices_IndexFunc_int64_int64_AT_impl_Field_linearCode_1.f k l0 a1_0 a1_1).bind fun t202 => (some (decide (t202 ≥ 0)))
theorem slices_ContainsFunc_int64_int64_AT_impl_Field_linearCode_1.mono : ∀ a0 a1 a2 k, LeO (slices_ContainsFunc_int64_int64_AT_impl_Field_linearCode_1.f k a0 a1 a2) (slices_ContainsFunc_int64_int64_AT_impl_Field_linearCode_1.f (k + 1) a0 a1 a2) := by
 intro a0 a1 a2 k
 unfold slices_ContainsFunc_int64_int64_AT_impl_Field_linearCode_1.f
 repeat' first
  | (with_reducible first | apply slices_IndexFunc_int64_int64_AT_impl_Field_linearCode_1.mono | exact LeO.refl _ | exact LeO.none _ | refine LeO.ite ?_ ?_ | refine LeO.bind ?_ (fun _ => ?_))
  | exact LeO.none _
  | refine LeO.ite ?_ ?_
  | refine LeO.bind ?_ (fun _ => ?_)
theorem slices_ContainsFunc_int64_int64_AT_impl_Field_linearCode_1.calls (k : Nat) (A0 : Option Addr) (c0 : Nat) (l0 : List (List Int)) (g1_0 : Addr) (a1_0 : Int) (a1_1 : Int) (r : Bool) (w : World) (hr0 : Kd.C (Kd.slice 2 (Kd.int .i64)) w A0 l0.length l0) (hc0 : l0.length ≤ c0) (hb1_0 : AtC w g1_0 [.int .i64 a1_0, .int .i64 a1_1]) (h : slices_ContainsFunc_int64_int64_AT_impl_Field_linearCode_1.f k l0 a1_0 a1_1 = some r) :
 Calls Try.prog 53 #[.slice A0 l0.length c0, .func (.func 54) #[] #[.pointer (some g1_0)]] w fun e w' => e = .returned (.bool r) ∧ Below w.heap.size w w' := by
 have HR0 := Aq.mk hr0
 have HC0 := Aq.mk hc0
 clear hr0 hc0
 have BK48 := Aq.mk hb1_0
 clear hb1_0
 have HB := Aq.mk (Below.refl w.heap.size w)
 have H : ((slices_IndexFunc_int64_int64_AT_impl_Field_linearCode_1.f k l0 a1_0 a1_1).bind fun t202 => (some (decide (t202 ≥ 0)))) = some r := h
 clear h
 obtain ⟨t202, A3, H⟩ := qBd H
 obtain rfl := Option.some.inj H
 go_enter Try.func53, Try.ntmps53
 go_wp2_with (first | ((with_reducible refine gQc (f := 74) rfl ?_); refine goesL_ (some 7) rfl rfl Try.func74 (by kernel_rfl) rfl #[.slice A0 l0.length c0, .func (.func 54) #[] #[.pointer (some g1_0)]] rfl tL ?_; (with_reducible refine (slices_IndexFunc_int64_int64_AT_impl_Field_linearCode_1.calls k _ _ l0 (g1_0 : Addr) a1_0 a1_1 t202 _ ?s1 ?s2 ?s3 A3.out).mono ?_); (case s1 => exact tC HR0.out); (case s2 => exact HC0.out); (case s3 => repeat (first | exact BK48.out | (with_reducible refine AtC.alloc ?_ _) | (with_reducible refine AtC.drewN ?_ _) | (with_reducible refine AtC.drew ?_))); rintro e w4 ⟨rfl, hb⟩; refine ⟨_, rfl, ?_⟩; refine qM1 (bQT tB hb) ?_; clear HB; intro HB; (try clear hb); (try clear hb2); (try clear hk); (try clear hi)))
 go_ret
 exact ⟨tE, tB⟩
def impl_Field_linearCode.f (k : Nat) (a0_0 : Int) (a0_1 : Int) (l1 : List (List Int)) : Option (Int) := (impl_ValidField.f k a0_0 a0_1).bind fun t204 => (if t204 = true then ((slices_ContainsFunc_int64_int64_AT_impl_Field_linearCode_1.f k l1 a0_0 a0_1).bind fun t205 => (if t205 = true then (some 1) else (some 0))) else (some 1))
theorem impl_Field_linearCode.mono : ∀ a0 a1 a2 k, LeO (impl_Field_linearCode.f k a0 a1 a2) (impl_Field_linearCode.f (k + 1) a0 a1 a2) := by
 intro a0 a1 a2 k
 unfold impl_Field_linearCode.f
 repeat' first
  | (with_reducible first | apply impl_ValidField.mono | apply slices_ContainsFunc_int64_int64_AT_impl_Field_linearCode_1.mono | exact LeO.refl _ | exact LeO.none _ | refine LeO.ite ?_ ?_ | refine LeO.bind ?_ (fun _ => ?_))
  | exact LeO.none _
  | refine LeO.ite ?_ ?_
  | refine LeO.bind ?_ (fun _ => ?_)
theorem impl_Field_linearCode.calls (k : Nat) (a0_0 : Int) (a0_1 : Int) (A1 : Option Addr) (c1 : Nat) (l1 : List (List Int)) (r : Int) (w : World) (hr1 : Kd.C (Kd.slice 2 (Kd.int .i64)) w A1 l1.length l1) (hc1 : l1.length ≤ c1) (h : impl_Field_linearCode.f k a0_0 a0_1 l1 = some r) :
 Calls Try.prog 28 #[.agg #[.int .i64 a0_0, .int .i64 a0_1], .slice A1 l1.length c1] w fun e w' => e = .returned (.int .i64 r) ∧ Below w.heap.size w w' := by
 have hu27 := Try.underlying27
 have HR1 := Aq.mk hr1
 have HC1 := Aq.mk hc1
 clear hr1 hc1
 have HB := Aq.mk (Below.refl w.heap.size w)
 have H : ((impl_ValidField.f k a0_0 a0_1).bind fun t204 => (if t204 = true then ((slices_ContainsFunc_int64_int64_AT_impl_Field_linearCode_1.f k l1 a0_0 a0_1).bind fun t205 => (if t205 = true then (some 1) else (some 0))) else (some 1))) = some r := h
 clear h
 obtain ⟨t204, A3, H⟩ := qBd H
 by_cases c4 : t204 = true
 rotate_left
 ·replace c4 := Bool.eq_false_iff.mpr c4
  subst c4
  rw [if_neg (show ¬ (false = true) by decide)] at H
  obtain rfl := Option.some.inj H
  go_enter Try.func28, Try.ntmps28
  go_wp2_with (first | ((with_reducible refine gQd (N := 2) rfl ?_); refine xQe ?hg (N := 2) ?hd (cs := #[.int .i64 a0_0, .int .i64 a0_1]) (t := 27) ?hr ?_; (case hd => rfl); (case hg => rfl); (case hr => exact tH); intro gb203 hg w15 hbox hb; refine qM4 (bQT tB hb) hbox (tZ w hg) (tZ w hg) ?_; clear HB; intro HB BK203 GW203 GE203; clear hb hbox hg; have hcz16_0 : w15.cell? ⟨gb203, 0, none⟩ = some (.int .i64 a0_0) := (kQC BK203.out 0).trans rfl; have hcz16_1 : w15.cell? ⟨gb203, 1, none⟩ = some (.int .i64 a0_1) := (kQC BK203.out 1).trans rfl; have hfz16_0 := kQF BK203.out 0; have hfz16_1 := kQF BK203.out 1) | ((with_reducible refine gQc (f := 52) rfl ?_); refine goesL_ (some 6) rfl rfl Try.func52 (by kernel_rfl) rfl #[.agg #[.int .i64 a0_0, .int .i64 a0_1]] rfl tL ?_; (with_reducible refine (impl_ValidField.calls k a0_0 a0_1 false _ A3.out).mono ?_); rintro e w17 ⟨rfl, hb⟩; refine ⟨_, rfl, ?_⟩; refine qM2 (tQ BK203.out hb) (bQT tB hb) ?_; clear BK203 HB; intro BK203 HB; (try clear hb); (try clear hb2); (try clear hk); (try clear hi)))
  go_ret
  exact ⟨tE, tB⟩
 subst c4
 rw [if_pos rfl] at H
 obtain ⟨t205, A5, H⟩ := qBd H
 by_cases c6 : t205 = true
 ·subst c6
  rw [if_pos rfl] at H
  obtain rfl := Option.some.inj H
  go_enter Try.func28, Try.ntmps28
  go_wp2_with (first | ((with_reducible refine gQd (N := 2) rfl ?_); refine xQe ?hg (N := 2) ?hd (cs := #[.int .i64 a0_0, .int .i64 a0_1]) (t := 27) ?hr ?_; (case hd => rfl); (case hg => rfl); (case hr => exact tH); intro gb203 hg w7 hbox hb; refine qM4 (bQT tB hb) hbox (tZ w hg) (tZ w hg) ?_; clear HB; intro HB BK203 GW203 GE203; clear hb hbox hg; have hcz8_0 : w7.cell? ⟨gb203, 0, none⟩ = some (.int .i64 a0_0) := (kQC BK203.out 0).trans rfl; have hcz8_1 : w7.cell? ⟨gb203, 1, none⟩ = some (.int .i64 a0_1) := (kQC BK203.out 1).trans rfl; have hfz8_0 := kQF BK203.out 0; have hfz8_1 := kQF BK203.out 1) | ((with_reducible refine gQc (f := 52) rfl ?_); refine goesL_ (some 6) rfl rfl Try.func52 (by kernel_rfl) rfl #[.agg #[.int .i64 a0_0, .int .i64 a0_1]] rfl tL ?_; (with_reducible refine (impl_ValidField.calls k a0_0 a0_1 true _ A3.out).mono ?_); rintro e w9 ⟨rfl, hb⟩; refine ⟨_, rfl, ?_⟩; refine qM2 (tQ BK203.out hb) (bQT tB hb) ?_; clear BK203 HB; intro BK203 HB; (try clear hb); (try clear hb2); (try clear hk); (try clear hi)) | (go_at_call 53; (with_reducible refine (slices_ContainsFunc_int64_int64_AT_impl_Field_linearCode_1.calls k _ _ l1 (⟨gb203, 0, none⟩ : Addr) a0_0 a0_1 true _ ?s1 ?s2 ?s3 A5.out).mono ?_); (case s1 => exact tC ((Kd.C_below HR1.out HB.out))); (case s2 => exact HC1.out); (case s3 => exact AtC.of_blk (g := gb203) (t := 27) (cs := #[.int .i64 a0_0, .int .i64 a0_1]) (tG BK203.out) rfl); rintro e w10 ⟨rfl, hb⟩; refine qM2 (tQ BK203.out hb) (bQT tB hb) ?_; clear BK203 HB; intro BK203 HB; (try clear hb); (try clear hb2); (try clear hk); (try clear hi)))
  go_ret
  exact ⟨tE, tB⟩
 replace c6 := Bool.eq_false_iff.mpr c6
 subst c6
 rw [if_neg (show ¬ (false = true) by decide)] at H
 obtain rfl := Option.some.inj H
 go_enter Try.func28, Try.ntmps28
 go_wp2_with (first | ((with_reducible refine gQd (N := 2) rfl ?_); refine xQe ?hg (N := 2) ?hd (cs := #[.int .i64 a0_0, .int .i64 a0_1]) (t := 27) ?hr ?_; (case hd => rfl); (case hg => rfl); (case hr => exact tH); intro gb203 hg w11 hbox hb; refine qM4 (bQT tB hb) hbox (tZ w hg) (tZ w hg) ?_; clear HB; intro HB BK203 GW203 GE203; clear hb hbox hg; have hcz12_0 : w11.cell? ⟨gb203, 0, none⟩ = some (.int .i64 a0_0) := (kQC BK203.out 0).trans rfl; have hcz12_1 : w11.cell? ⟨gb203, 1, none⟩ = some (.int .i64 a0_1) := (kQC BK203.out 1).trans rfl; have hfz12_0 := kQF BK203.out 0; have hfz12_1 := kQF BK203.out 1) | ((with_reducible refine gQc (f := 52) rfl ?_); refine goesL_ (some 6) rfl rfl Try.func52 (by kernel_rfl) rfl #[.agg #[.int .i64 a0_0, .int .i64 a0_1]] rfl tL ?_; (with_reducible refine (impl_ValidField.calls k a0_0 a0_1 true _ A3.out).mono ?_); rintro e w13 ⟨rfl, hb⟩; refine ⟨_, rfl, ?_⟩; refine qM2 (tQ BK203.out hb) (bQT tB hb) ?_; clear BK203 HB; intro BK203 HB; (try clear hb); (try clear hb2); (try clear hk); (try clear hi)) | (go_at_call 53; (with_reducible refine (slices_ContainsFunc_int64_int64_AT_impl_Field_linearCode_1.calls k _ _ l1 (⟨gb203, 0, none⟩ : Addr) a0_0 a0_1 false _ ?s1 ?s2 ?s3 A5.out).mono ?_); (case s1 => exact tC ((Kd.C_below HR1.out HB.out))); (case s2 => exact HC1.out); (case s3 => exact AtC.of_blk (g := gb203) (t := 27) (cs := #[.int .i64 a0_0, .int .i64 a0_1]) (tG BK203.out) rfl); rintro e w14 ⟨rfl, hb⟩; refine qM2 (tQ BK203.out hb) (bQT tB hb) ?_; clear BK203 HB; intro BK203 HB; (try clear hb); (try clear hb2); (try clear hk); (try clear hi)))
 go_ret
 exact ⟨tE, tB⟩
end Go.Proofs.Ytpigghpimgkilaa.P
