/- Functions of the program and what they tell, as the printing program wrote it. -/
import Derived.Test.YthjfilmdobkmlaaPx0
import Derived.Test.YthjfilmdobkmlaaPx1
namespace Go.Proofs.Ythjfilmdobkmlaa.P
open Go.Shelf Go.RowKit Go.Proofs.YthjfilmdobkmlaaW.PrintWords Go.Proofs.YthjfilmdobkmlaaW.PrintLast Go.Proofs.YthjfilmdobkmlaaW.PrintMore
attribute [local go_sem] max2_int min2_int max_two min_two max_three min_three max_four min_four
set_option linter.unusedVariables false
set_option linter.unusedSimpArgs false
set_option maxHeartbeats 8000000
set_option maxRecDepth 100000
def impl_Matrix_has.f (a0_0 : Int) (l0_1 : List Int) (a1 : Int) : Option (Bool) := if 0 ≤ a0_0 then ((impl_within.f a1 0 (wrap64 ((shl .i64 1 a0_0) - 1))).bind fun t156 => (some t156)) else (none)
theorem impl_Matrix_has.calls (a0_0 : Int) (A0_1 : Option Addr) (c0_1 : Nat) (l0_1 : List Int) (a1 : Int) (r : Bool) (w : World) (hr0_1 : Kd.C (Kd.int .i64) w A0_1 l0_1.length l0_1) (hc0_1 : l0_1.length ≤ c0_1) (h : impl_Matrix_has.f a0_0 l0_1 a1 = some r) :
 Calls Try.prog 49 #[.agg #[.int .i64 a0_0, .slice A0_1 l0_1.length c0_1], .int .i64 a1] w fun e w' => e = .returned (.bool r) ∧ Below w.heap.size w w' := by
 have hu27 := Try.underlying27
 have HR0_1 := Aq.mk hr0_1
 have HC0_1 := Aq.mk hc0_1
 clear hr0_1 hc0_1
 have HB := Aq.mk (Below.refl w.heap.size w)
 have H : (if 0 ≤ a0_0 then ((impl_within.f a1 0 (wrap64 ((shl .i64 1 a0_0) - 1))).bind fun t156 => (some t156)) else (none)) = some r := h
 clear h
 by_cases c3 : 0 ≤ a0_0
 rotate_left
 ·rw [if_neg c3] at H
  exact absurd H (by simp)
 rw [if_pos c3] at H
 have c3b0 := eq_true c3
 have c3b1 := decide_eq_true c3
 clear c3
 obtain ⟨ji4, hji4⟩ : ∃ j_ : Int, (shl .i64 1 a0_0) = j_ := ⟨_, rfl⟩
 first | rw [hji4] at H | simp only [hji4] at H | skip
 have hji4_ : (IntKind.i64.wrap (1 * 2 ^ min a0_0.toNat 64)) = ji4 := hji4
 have hji4z : a0_0 ≤ 64 → (IntKind.i64.wrap (1 * 2 ^ a0_0.toNat)) = ji4 := shl_small hji4
 have hji4u : (IntKind.i64.wrap (2 ^ min a0_0.toNat 64)) = ji4 := by have h_ := hji4_; rw [Int.one_mul] at h_; exact h_
 have hji4v : a0_0 ≤ 64 → (IntKind.i64.wrap (2 ^ a0_0.toNat)) = ji4 := fun hle_ => by have h_ := hji4z hle_; rw [Int.one_mul] at h_; exact h_
 have hji4y : (wrap64 (1 * 2 ^ min a0_0.toNat 64)) = ji4 := (i64_w _).symm.trans hji4_
 have hji4x : a0_0 ≤ 64 → (wrap64 (1 * 2 ^ a0_0.toNat)) = ji4 := fun h_ => (i64_w _).symm.trans (hji4z h_)
 obtain ⟨t156, A5, H⟩ := qBd H
 obtain rfl := Option.some.inj H
 go_enter Try.func49, Try.ntmps49
 go_wp2_with (first | ((with_reducible refine gQd (N := 2) rfl ?_); refine xQe ?hg (N := 2) ?hd (cs := #[.int .i64 a0_0, .slice A0_1 l0_1.length c0_1]) (t := 27) ?hr ?_; (case hd => rfl); (case hg => rfl); (case hr => exact tH); intro gb155 hg w6 hbox hb; refine qM4 (bQT tB hb) hbox (tZ w hg) (tZ w hg) ?_; clear HB; intro HB BK155 GW155 GE155; clear hb hbox hg; have hcz7_0 : w6.cell? ⟨gb155, 0, none⟩ = some (.int .i64 a0_0) := (kQC BK155.out 0).trans rfl; have hcz7_1 : w6.cell? ⟨gb155, 1, none⟩ = some (.slice A0_1 l0_1.length c0_1) := (kQC BK155.out 1).trans rfl; have hfz7_0 := kQF BK155.out 0; have hfz7_1 := kQF BK155.out 1) | ((with_reducible refine gQc (f := 68) rfl ?_); refine goesL_ (some 10) rfl rfl Try.func68 (by kernel_rfl) rfl #[.int .i64 a1, .int .i64 0, .int .i64 (wrap64 ((ji4) - 1))] rfl (by (try simp only [List.map_toArray, List.map_cons, List.map_nil]); first | done | (simp only [hji4]; rfl) | rfl | (simp only [List.length_drop, List.length_take]; rfl)) ?_; (with_reducible refine (impl_within.calls a1 0 (wrap64 ((ji4) - 1)) t156 _ A5.out).mono ?_); rintro e w' ⟨rfl, ⟨nd, rfl⟩⟩; refine ⟨_, rfl, ?_⟩))
 go_ret
 exact ⟨by first | rfl | (simp [errW_none, errW_some] <;> rfl) | (simp only [← hji4]; first | rfl | (simp [errW_none, errW_some] <;> rfl)) | (simp [*, errW_none, errW_some] <;> rfl), tB⟩
def impl_ValidMatrix_1.f (a0 : Int) (a1_0 : Int) (l1_1 : List Int) : Option (Bool) := (impl_Matrix_has.f a1_0 l1_1 a0).bind fun t157 => (some (!t157))
theorem impl_ValidMatrix_1.calls (a0 : Int) (g1_0 : Addr) (a1_0 : Int) (A1_1 : Option Addr) (c1_1 : Nat) (l1_1 : List Int) (r : Bool) (w : World) (hr1_1 : Kd.C (Kd.int .i64) w A1_1 l1_1.length l1_1) (hc1_1 : l1_1.length ≤ c1_1) (hb1_0 : AtC w g1_0 [.int .i64 a1_0, .slice A1_1 l1_1.length c1_1]) (h : impl_ValidMatrix_1.f a0 a1_0 l1_1 = some r) :
 Calls Try.prog 85 #[.int .i64 a0, .pointer (some g1_0)] w fun e w' => e = .returned (.bool r) ∧ Below w.heap.size w w' := by
 have hu27 := Try.underlying27
 have HR1_1 := Aq.mk hr1_1
 have HC1_1 := Aq.mk hc1_1
 clear hr1_1 hc1_1
 have BK48 := Aq.mk hb1_0
 clear hb1_0
 have HB := Aq.mk (Below.refl w.heap.size w)
 have H : ((impl_Matrix_has.f a1_0 l1_1 a0).bind fun t157 => (some (!t157))) = some r := h
 clear h
 obtain ⟨t157, A3, H⟩ := qBd H
 obtain rfl := Option.some.inj H
 have hcz4_0 : w.cell? g1_0 = some (.int .i64 a1_0) := AtC.cell0 BK48.out _ rfl
 have hcz4_1 : w.cell? ⟨g1_0.block, g1_0.off + 1, none⟩ = some (.slice A1_1 l1_1.length c1_1) := AtC.cell BK48.out 1 _ (by decide) rfl
 go_enter Try.func85, Try.ntmps85
 go_wp2_with (first | ((with_reducible refine gQc (f := 49) rfl ?_); refine goesL_ (some 6) rfl rfl Try.func49 (by kernel_rfl) rfl #[.agg #[.int .i64 a1_0, .slice A1_1 l1_1.length c1_1], .int .i64 a0] rfl tL ?_; (with_reducible refine (impl_Matrix_has.calls a1_0 _ _ l1_1 a0 t157 _ ?s1 ?s2 A3.out).mono ?_); (case s1 => exact tC HR1_1.out); (case s2 => exact HC1_1.out); rintro e w5 ⟨rfl, hb⟩; refine ⟨_, rfl, ?_⟩; refine qM1 (bQT tB hb) ?_; clear HB; intro HB; (try clear hb); (try clear hb2); (try clear hk); (try clear hi)))
 go_ret
 exact ⟨tE, tB⟩
def slices_IndexFunc_int64_int64_AT_impl_ValidMatrix_1.l0 : Nat → List Int → Int → Int → Int → List Int → Option (Int)
  | 0, _, _, _, _, _ => none
  | k + 1, x0, x7, x8, x49000, x49001 => if x8 < x7 then (if 0 ≤ x8 then (if x8 < (x0.length : Int) then ((impl_ValidMatrix_1.f (rd x0 x8) x49000 x49001).bind fun t159 => (if t159 = true then (some x8) else (slices_IndexFunc_int64_int64_AT_impl_ValidMatrix_1.l0 k x0 x7 (wrap64 (x8 + 1)) x49000 x49001))) else (none)) else (none)) else (some (-1))
def slices_IndexFunc_int64_int64_AT_impl_ValidMatrix_1.f (k : Nat) (l0 : List Int) (a1_0 : Int) (l1_1 : List Int) : Option (Int) := slices_IndexFunc_int64_int64_AT_impl_ValidMatrix_1.l0 k l0 (l0.length : Int) 0 a1_0 l1_1
theorem slices_IndexFunc_int64_int64_AT_impl_ValidMatrix_1.mono_l : ∀ k, (∀ y0 y1 y2 y3 y4, LeO (slices_IndexFunc_int64_int64_AT_impl_ValidMatrix_1.l0 k y0 y1 y2 y3 y4) (slices_IndexFunc_int64_int64_AT_impl_ValidMatrix_1.l0 (k + 1) y0 y1 y2 y3 y4))
 | 0 => fun _ _ _ _ _ r h => by simp [slices_IndexFunc_int64_int64_AT_impl_ValidMatrix_1.l0] at h
 | k + 1 => by
  have ih0 := slices_IndexFunc_int64_int64_AT_impl_ValidMatrix_1.mono_l k
  ·intro y0 y1 y2 y3 y4
   unfold slices_IndexFunc_int64_int64_AT_impl_ValidMatrix_1.l0
   repeat' first
   | (with_reducible first | apply ih0 | exact LeO.refl _ | exact LeO.none _ | refine LeO.ite ?_ ?_ | refine LeO.bind ?_ (fun _ => ?_))
   | exact LeO.none _
   | refine LeO.ite ?_ ?_
   | refine LeO.bind ?_ (fun _ => ?_)
theorem slices_IndexFunc_int64_int64_AT_impl_ValidMatrix_1.mono : ∀ a0 a1 a2 k, LeO (slices_IndexFunc_int64_int64_AT_impl_ValidMatrix_1.f k a0 a1 a2) (slices_IndexFunc_int64_int64_AT_impl_ValidMatrix_1.f (k + 1) a0 a1 a2) := by
 intro a0 a1 a2 k
 have ih0 := slices_IndexFunc_int64_int64_AT_impl_ValidMatrix_1.mono_l k
 unfold slices_IndexFunc_int64_int64_AT_impl_ValidMatrix_1.f
 repeat' first
  | (with_reducible first | apply ih0 | exact LeO.refl _ | exact LeO.none _ | refine LeO.ite ?_ ?_ | refine LeO.bind ?_ (fun _ => ?_))
  | exact LeO.none _
  | refine LeO.ite ?_ ?_
  | refine LeO.bind ?_ (fun _ => ?_)
theorem slices_IndexFunc_int64_int64_AT_impl_ValidMatrix_1.calls (k : Nat) (A0 : Option Addr) (c0 : Nat) (l0 : List Int) (g1_0 : Addr) (a1_0 : Int) (A1_1 : Option Addr) (c1_1 : Nat) (l1_1 : List Int) (r : Int) (w : World) (hr0 : Kd.C (Kd.int .i64) w A0 l0.length l0) (hc0 : l0.length ≤ c0) (hr1_1 : Kd.C (Kd.int .i64) w A1_1 l1_1.length l1_1) (hc1_1 : l1_1.length ≤ c1_1) (hb1_0 : AtC w g1_0 [.int .i64 a1_0, .slice A1_1 l1_1.length c1_1]) (h : slices_IndexFunc_int64_int64_AT_impl_ValidMatrix_1.f k l0 a1_0 l1_1 = some r) :
 Calls Try.prog 87 #[.slice A0 l0.length c0, .func (.func 85) #[] #[.pointer (some g1_0)]] w fun e w' => e = .returned (.int .i64 r) ∧ Below w.heap.size w w' := by
 have eg85 : ∀ (args_ : Array Value) (w_ : World), (callFunc 85 args_).run Try.prog w_ = .ok (.enter 85 args_) w_ := enters_of Try.func85 (by kernel_rfl) rfl
 have HR0 := Aq.mk hr0
 have HC0 := Aq.mk hc0
 clear hr0 hc0
 have HR1_1 := Aq.mk hr1_1
 have HC1_1 := Aq.mk hc1_1
 clear hr1_1 hc1_1
 have BK48 := Aq.mk hb1_0
 clear hb1_0
 have HB := Aq.mk (Below.refl w.heap.size w)
 have H : (slices_IndexFunc_int64_int64_AT_impl_ValidMatrix_1.l0 k l0 (l0.length : Int) 0 a1_0 l1_1) = some r := h
 clear h
 replace H' := Aq.mk H
 clear H
 go_enter Try.func87, Try.ntmps87
 go_wp2
 go_loopg [8] k (fun kq v8 w' => ∃ (x8_1 : Int), v8 = .int .i64 x8_1 ∧ Aq (slices_IndexFunc_int64_int64_AT_impl_ValidMatrix_1.l0 kq l0 (l0.length : Int) x8_1 a1_0 l1_1 = some r) ∧ Aq (kq ≤ k) ∧ Aq (Below w.heap.size w w'))
 case atStart => exact ⟨(0), tS, H', ⟨Nat.le_refl _⟩, ⟨tB⟩⟩
 clear H'
 obtain ⟨x8_1, rfl, HA, HK1, HB⟩ := hrel
 cases gk with
 | zero => exact absurd HA.out (by simp [slices_IndexFunc_int64_int64_AT_impl_ValidMatrix_1.l0])
 | succ k1 =>
  have H := HA.out
  clear HA
  simp only [slices_IndexFunc_int64_int64_AT_impl_ValidMatrix_1.l0] at H
  by_cases c3 : x8_1 < (l0.length : Int)
  rotate_left
  ·rw [if_neg c3] at H
   have c3b0 := decide_eq_false c3
   clear c3
   obtain rfl := Option.some.inj H
   go_wp2
   go_ret
   exact ⟨tE, tB⟩
  rw [if_pos c3] at H
  have c3b0 := decide_eq_true c3
  clear c3
  by_cases c4 : 0 ≤ x8_1
  rotate_left
  ·rw [if_neg c4] at H
   exact absurd H (by simp)
  rw [if_pos c4] at H
  have c4b0 := decide_eq_true c4
  clear c4
  by_cases c5 : x8_1 < (l0.length : Int)
  rotate_left
  ·rw [if_neg c5] at H
   exact absurd H (by simp)
  rw [if_pos c5] at H
  have c5b0 := decide_eq_true c5
  clear c5
  obtain ⟨t159, A6, H⟩ := qBd H
  by_cases c7 : t159 = true
  ·subst c7
   rw [if_pos rfl] at H
   obtain rfl := Option.some.inj H
   have p158 : 0 ≤ (x8_1 : Int) := of_decide_eq_true tA
   have q158 : x8_1 < (l0.length : Int) := of_decide_eq_true tA
   obtain ⟨ad158, e158, hx158_0⟩ := Kd.at_int HR0.out x8_1 p158 q158
   cases e158
   replace hx158_0 := (HB.out.cell (World.block_lt_of_cell? w _ hx158_0)).trans hx158_0
   replace p158 := eq_true p158
   replace q158 := eq_true q158
   go_wp2_with (first | (go_at_fn 85; (with_reducible refine (impl_ValidMatrix_1.calls (rd l0 x8_1) (g1_0 : Addr) a1_0 A1_1 c1_1 l1_1 true _ ?s1 ?s2 ?s3 A6.out).mono ?_); (case s1 => exact tC ((Kd.C_below HR1_1.out HB.out))); (case s2 => exact HC1_1.out); (case s3 => repeat (first | exact (AtC.below BK48.out HB.out) | (with_reducible refine AtC.alloc ?_ _) | (with_reducible refine AtC.drewN ?_ _) | (with_reducible refine AtC.drew ?_))); rintro e w8 ⟨rfl, hb⟩; refine qM1 (bQT tB hb) ?_; clear HB; intro HB; (try clear hb); (try clear hb2); (try clear hk); (try clear hi)))
   go_ret
   exact ⟨tE, tB⟩
  replace c7 := Bool.eq_false_iff.mpr c7
  subst c7
  rw [if_neg (show ¬ (false = true) by decide)] at H
  replace H' := Aq.mk H
  clear H
  have p158 : 0 ≤ (x8_1 : Int) := of_decide_eq_true tA
  have q158 : x8_1 < (l0.length : Int) := of_decide_eq_true tA
  obtain ⟨ad158, e158, hx158_0⟩ := Kd.at_int HR0.out x8_1 p158 q158
  cases e158
  replace hx158_0 := (HB.out.cell (World.block_lt_of_cell? w _ hx158_0)).trans hx158_0
  replace p158 := eq_true p158
  replace q158 := eq_true q158
  go_wp2_with (first | (go_at_fn 85; (with_reducible refine (impl_ValidMatrix_1.calls (rd l0 x8_1) (g1_0 : Addr) a1_0 A1_1 c1_1 l1_1 false _ ?s1 ?s2 ?s3 A6.out).mono ?_); (case s1 => exact tC ((Kd.C_below HR1_1.out HB.out))); (case s2 => exact HC1_1.out); (case s3 => repeat (first | exact (AtC.below BK48.out HB.out) | (with_reducible refine AtC.alloc ?_ _) | (with_reducible refine AtC.drewN ?_ _) | (with_reducible refine AtC.drew ?_))); rintro e w9 ⟨rfl, hb⟩; refine qM1 (bQT tB hb) ?_; clear HB; intro HB; (try clear hb); (try clear hb2); (try clear hk); (try clear hi)))
  go_roundg k1
  case measure => have := HK1.out; omega
  case rel => exact ⟨(wrap64 (x8_1 + 1)), tS, H', ⟨by have := HK1.out; omega⟩, ⟨tB⟩⟩
def slices_ContainsFunc_int64_int64_AT_impl_ValidMatrix_1.f (k : Nat) (l0 : List Int) (a1_0 : Int) (l1_1 : List Int) : Option (Bool) := (slices_IndexFunc_int64_int64_AT_impl_ValidMatrix_1.f k l0 a1_0 l1_1).bind fun t160 => (some (decide (t160 ≥ 0)))
theorem slices_ContainsFunc_int64_int64_AT_impl_ValidMatrix_1.mono : ∀ a0 a1 a2 k, LeO (slices_ContainsFunc_int64_int64_AT_impl_ValidMatrix_1.f k a0 a1 a2) (slices_ContainsFunc_int64_int64_AT_impl_ValidMatrix_1.f (k + 1) a0 a1 a2) := by
 intro a0 a1 a2 k
 unfold slices_ContainsFunc_int64_int64_AT_impl_ValidMatrix_1.f
 repeat' first
  | (with_reducible first | apply slices_IndexFunc_int64_int64_AT_impl_ValidMatrix_1.mono | exact LeO.refl _ | exact LeO.none _ | refine LeO.ite ?_ ?_ | refine LeO.bind ?_ (fun _ => ?_))
  | exact LeO.none _
  | refine LeO.ite ?_ ?_
  | refine LeO.bind ?_ (fun _ => ?_)
theorem slices_ContainsFunc_int64_int64_AT_impl_ValidMatrix_1.calls (k : Nat) (A0 : Option Addr) (c0 : Nat) (l0 : List Int) (g1_0 : Addr) (a1_0 : Int) (A1_1 : Option Addr) (c1_1 : Nat) (l1_1 : List Int) (r : Bool) (w : World) (hr0 : Kd.C (Kd.int .i64) w A0 l0.length l0) (hc0 : l0.length ≤ c0) (hr1_1 : Kd.C (Kd.int .i64) w A1_1 l1_1.length l1_1) (hc1_1 : l1_1.length ≤ c1_1) (hb1_0 : AtC w g1_0 [.int .i64 a1_0, .slice A1_1 l1_1.length c1_1]) (h : slices_ContainsFunc_int64_int64_AT_impl_ValidMatrix_1.f k l0 a1_0 l1_1 = some r) :
 Calls Try.prog 84 #[.slice A0 l0.length c0, .func (.func 85) #[] #[.pointer (some g1_0)]] w fun e w' => e = .returned (.bool r) ∧ Below w.heap.size w w' := by
 have HR0 := Aq.mk hr0
 have HC0 := Aq.mk hc0
 clear hr0 hc0
 have HR1_1 := Aq.mk hr1_1
 have HC1_1 := Aq.mk hc1_1
 clear hr1_1 hc1_1
 have BK48 := Aq.mk hb1_0
 clear hb1_0
 have HB := Aq.mk (Below.refl w.heap.size w)
 have H : ((slices_IndexFunc_int64_int64_AT_impl_ValidMatrix_1.f k l0 a1_0 l1_1).bind fun t160 => (some (decide (t160 ≥ 0)))) = some r := h
 clear h
 obtain ⟨t160, A3, H⟩ := qBd H
 obtain rfl := Option.some.inj H
 go_enter Try.func84, Try.ntmps84
 go_wp2_with (first | ((with_reducible refine gQc (f := 87) rfl ?_); refine goesL_ (some 7) rfl rfl Try.func87 (by kernel_rfl) rfl #[.slice A0 l0.length c0, .func (.func 85) #[] #[.pointer (some g1_0)]] rfl tL ?_; (with_reducible refine (slices_IndexFunc_int64_int64_AT_impl_ValidMatrix_1.calls k _ _ l0 (g1_0 : Addr) a1_0 A1_1 c1_1 l1_1 t160 _ ?s1 ?s2 ?s3 ?s4 ?s5 A3.out).mono ?_); (case s1 => exact tC HR0.out); (case s2 => exact HC0.out); (case s3 => exact tC HR1_1.out); (case s4 => exact HC1_1.out); (case s5 => repeat (first | exact BK48.out | (with_reducible refine AtC.alloc ?_ _) | (with_reducible refine AtC.drewN ?_ _) | (with_reducible refine AtC.drew ?_))); rintro e w4 ⟨rfl, hb⟩; refine ⟨_, rfl, ?_⟩; refine qM1 (bQT tB hb) ?_; clear HB; intro HB; (try clear hb); (try clear hb2); (try clear hk); (try clear hi)))
 go_ret
 exact ⟨tE, tB⟩
def impl_ValidMatrix.f (k : Nat) (a0_0 : Int) (l0_1 : List Int) : Option (Bool) := (impl_within.f a0_0 1 10).bind fun t162 => (if t162 = true then (if (l0_1.length : Int) ≤ 10 then ((slices_ContainsFunc_int64_int64_AT_impl_ValidMatrix_1.f k l0_1 a0_0 l0_1).bind fun t163 => (some (!t163))) else (some false)) else (some false))
theorem impl_ValidMatrix.mono : ∀ a0 a1 k, LeO (impl_ValidMatrix.f k a0 a1) (impl_ValidMatrix.f (k + 1) a0 a1) := by
 intro a0 a1 k
 unfold impl_ValidMatrix.f
 repeat' first
  | (with_reducible first | apply slices_ContainsFunc_int64_int64_AT_impl_ValidMatrix_1.mono | exact LeO.refl _ | exact LeO.none _ | refine LeO.ite ?_ ?_ | refine LeO.bind ?_ (fun _ => ?_))
  | exact LeO.none _
  | refine LeO.ite ?_ ?_
  | refine LeO.bind ?_ (fun _ => ?_)
theorem impl_ValidMatrix.calls (k : Nat) (a0_0 : Int) (A0_1 : Option Addr) (c0_1 : Nat) (l0_1 : List Int) (r : Bool) (w : World) (hr0_1 : Kd.C (Kd.int .i64) w A0_1 l0_1.length l0_1) (hc0_1 : l0_1.length ≤ c0_1) (h : impl_ValidMatrix.f k a0_0 l0_1 = some r) :
 Calls Try.prog 40 #[.agg #[.int .i64 a0_0, .slice A0_1 l0_1.length c0_1]] w fun e w' => e = .returned (.bool r) ∧ Below w.heap.size w w' := by
 have hu27 := Try.underlying27
 have HR0_1 := Aq.mk hr0_1
 have HC0_1 := Aq.mk hc0_1
 clear hr0_1 hc0_1
 have HB := Aq.mk (Below.refl w.heap.size w)
 have H : ((impl_within.f a0_0 1 10).bind fun t162 => (if t162 = true then (if (l0_1.length : Int) ≤ 10 then ((slices_ContainsFunc_int64_int64_AT_impl_ValidMatrix_1.f k l0_1 a0_0 l0_1).bind fun t163 => (some (!t163))) else (some false)) else (some false))) = some r := h
 clear h
 obtain ⟨t162, A2, H⟩ := qBd H
 by_cases c3 : t162 = true
 rotate_left
 ·replace c3 := Bool.eq_false_iff.mpr c3
  subst c3
  rw [if_neg (show ¬ (false = true) by decide)] at H
  obtain rfl := Option.some.inj H
  go_enter Try.func40, Try.ntmps40
  go_wp2_with (first | ((with_reducible refine gQd (N := 1) rfl ?_); (try (refine gate_guard (by rfl) ?_; dsimp only)); refine xQe ?hg (N := 1) ?hd (cs := #[.int .i64 a0_0, .slice A0_1 l0_1.length c0_1]) (t := 27) ?hr ?_; (case hd => rfl); (case hg => rfl); (case hr => exact tH); intro gb161 hg w11 hbox hb; refine qM4 (bQT tB hb) hbox (tZ w hg) (tZ w hg) ?_; clear HB; intro HB BK161 GW161 GE161; clear hb hbox hg; have hcz12_0 : w11.cell? ⟨gb161, 0, none⟩ = some (.int .i64 a0_0) := (kQC BK161.out 0).trans rfl; have hcz12_1 : w11.cell? ⟨gb161, 1, none⟩ = some (.slice A0_1 l0_1.length c0_1) := (kQC BK161.out 1).trans rfl; have hfz12_0 := kQF BK161.out 0; have hfz12_1 := kQF BK161.out 1) | ((with_reducible refine gQc (f := 68) rfl ?_); refine goesL_ (some 5) rfl rfl Try.func68 (by kernel_rfl) rfl #[.int .i64 a0_0, .int .i64 1, .int .i64 10] rfl tL ?_; (with_reducible refine (impl_within.calls a0_0 1 10 false _ A2.out).mono ?_); rintro e w' ⟨rfl, ⟨nd, rfl⟩⟩; refine ⟨_, rfl, ?_⟩))
  go_ret
  exact ⟨tE, tB⟩
 subst c3
 rw [if_pos rfl] at H
 by_cases c4 : (l0_1.length : Int) ≤ 10
 ·rw [if_pos c4] at H
  have c4b0 := decide_eq_true c4
  have c4b1 : decide (l0_1.length ≤ 10) = true := decide_eq_true (by omega)
  clear c4
  obtain ⟨t163, A5, H⟩ := qBd H
  obtain rfl := Option.some.inj H
  go_enter Try.func40, Try.ntmps40
  go_wp2_with (first | ((with_reducible refine gQd (N := 1) rfl ?_); (try (refine gate_guard (by rfl) ?_; dsimp only)); refine xQe ?hg (N := 1) ?hd (cs := #[.int .i64 a0_0, .slice A0_1 l0_1.length c0_1]) (t := 27) ?hr ?_; (case hd => rfl); (case hg => rfl); (case hr => exact tH); intro gb161 hg w6 hbox hb; refine qM4 (bQT tB hb) hbox (tZ w hg) (tZ w hg) ?_; clear HB; intro HB BK161 GW161 GE161; clear hb hbox hg; have hcz7_0 : w6.cell? ⟨gb161, 0, none⟩ = some (.int .i64 a0_0) := (kQC BK161.out 0).trans rfl; have hcz7_1 : w6.cell? ⟨gb161, 1, none⟩ = some (.slice A0_1 l0_1.length c0_1) := (kQC BK161.out 1).trans rfl; have hfz7_0 := kQF BK161.out 0; have hfz7_1 := kQF BK161.out 1) | ((with_reducible refine gQc (f := 68) rfl ?_); refine goesL_ (some 5) rfl rfl Try.func68 (by kernel_rfl) rfl #[.int .i64 a0_0, .int .i64 1, .int .i64 10] rfl tL ?_; (with_reducible refine (impl_within.calls a0_0 1 10 true _ A2.out).mono ?_); rintro e w' ⟨rfl, ⟨nd, rfl⟩⟩; refine ⟨_, rfl, ?_⟩) | (go_at_call 84; (with_reducible refine (slices_ContainsFunc_int64_int64_AT_impl_ValidMatrix_1.calls k _ _ l0_1 (⟨gb161, 0, none⟩ : Addr) a0_0 A0_1 c0_1 l0_1 t163 _ ?s1 ?s2 ?s3 ?s4 ?s5 A5.out).mono ?_); (case s1 => exact tC ((Kd.C_below HR0_1.out tB))); (case s2 => exact HC0_1.out); (case s3 => exact tC ((Kd.C_below HR0_1.out tB))); (case s4 => exact HC0_1.out); (case s5 => exact AtC.of_blk (g := gb161) (t := 27) (cs := #[.int .i64 a0_0, .slice A0_1 l0_1.length c0_1]) (tG BK161.out) rfl); rintro e w8 ⟨rfl, hb⟩; refine qM2 (tQ BK161.out hb) (bQT tB hb) ?_; clear BK161 HB; intro BK161 HB; (try clear hb); (try clear hb2); (try clear hk); (try clear hi)))
  go_ret
  exact ⟨tE, tB⟩
 rw [if_neg c4] at H
 have c4b0 := decide_eq_false c4
 have c4b1 : decide (l0_1.length ≤ 10) = false := decide_eq_false (by omega)
 clear c4
 obtain rfl := Option.some.inj H
 go_enter Try.func40, Try.ntmps40
 go_wp2_with (first | ((with_reducible refine gQd (N := 1) rfl ?_); (try (refine gate_guard (by rfl) ?_; dsimp only)); refine xQe ?hg (N := 1) ?hd (cs := #[.int .i64 a0_0, .slice A0_1 l0_1.length c0_1]) (t := 27) ?hr ?_; (case hd => rfl); (case hg => rfl); (case hr => exact tH); intro gb161 hg w9 hbox hb; refine qM4 (bQT tB hb) hbox (tZ w hg) (tZ w hg) ?_; clear HB; intro HB BK161 GW161 GE161; clear hb hbox hg; have hcz10_0 : w9.cell? ⟨gb161, 0, none⟩ = some (.int .i64 a0_0) := (kQC BK161.out 0).trans rfl; have hcz10_1 : w9.cell? ⟨gb161, 1, none⟩ = some (.slice A0_1 l0_1.length c0_1) := (kQC BK161.out 1).trans rfl; have hfz10_0 := kQF BK161.out 0; have hfz10_1 := kQF BK161.out 1) | ((with_reducible refine gQc (f := 68) rfl ?_); refine goesL_ (some 5) rfl rfl Try.func68 (by kernel_rfl) rfl #[.int .i64 a0_0, .int .i64 1, .int .i64 10] rfl tL ?_; (with_reducible refine (impl_within.calls a0_0 1 10 true _ A2.out).mono ?_); rintro e w' ⟨rfl, ⟨nd, rfl⟩⟩; refine ⟨_, rfl, ?_⟩))
 go_ret
 exact ⟨tE, tB⟩
def slices_Clone_int64_int64.f (l0 : List Int) : Option (List Int) := if l0.length ≤ 17592186044416 then some l0 else none
theorem slices_Clone_int64_int64.calls (A0 : Option Addr) (c0 : Nat) (l0 : List Int) (r : List Int) (w : World) (hr0 : Kd.C (Kd.int .i64) w A0 l0.length l0) (hc0 : l0.length ≤ c0) (h : slices_Clone_int64_int64.f l0 = some r) :
 Calls Try.prog 86 #[.slice A0 l0.length c0] w fun e w' => ∃ v0_ : Value, e = .returned (v0_) ∧ Kd.R (Kd.int .i64) 2 w' w.heap.size (fun _ => True) v0_ r ∧ Below w.heap.size w w' := by
 have hn := hr0.2.1
 unfold slices_Clone_int64_int64.f at h
 split at h
 case isFalse => cases h
 rename_i hb
 obtain rfl := Option.some.inj h
 have u22 : ∀ w, Sem.run Try.prog (underlying 25) w = .ok (TypeDesc.slice 2) w := run_underlying Try.underlying25
 cases hA : A0 with
 | none =>
  have hl : l0.length = 0 := by
   rcases Nat.eq_zero_or_pos l0.length with h0 | h0
   ·exact h0
   obtain ⟨ad, e, _⟩ := hr0.2.2 h0
   rw [hA] at e; cases e
  have hl0 : l0 = [] := List.length_eq_zero_iff.1 hl
  subst hl0
  have q22 : ∀ (w : World) (n c n' c' : Nat), (binOp .eql 25 (.slice none n c) (.slice none n' c')).run Try.prog w = .ok (.bool true) w := fun w n c n' c' => Lib.run_eql_slice_nil w _ _ none n c n' c' Try.underlying25
  clear hr0 hA hc0 hn hb h hl
  go_enter Try.func86, Try.ntmps86
  go_wp2
  go_ret
  exact ⟨_, rfl, Kd.R_nil _ _ _ _ _, Below.refl _ _⟩
 | some ad =>
  subst hA
  have q22 : ∀ (w : World) (n c n' c' : Nat), (binOp .eql 25 (.slice (some ad) n c) (.slice none n' c')).run Try.prog w = .ok (.bool false) w := fun w n c n' c' => Lib.run_eql_slice_nil w _ _ (some ad) n c n' c' Try.underlying25
  have HC := Aq.mk (show ∀ j u, (encs (Value.int .i64) l0)[j]? = some u → w.cell? (ad.add j) = some u from fun j u hj => by
   simp only [encs, List.getElem?_map] at hj
   obtain ⟨x, hx, rfl⟩ := Option.map_eq_some_iff.1 hj
   have hlt := (List.getElem?_eq_some_iff.1 hx).1
   obtain ⟨ad', e, hcell⟩ := Kd.at_int hr0 (j : Int) (by omega) (by omega)
   cases e
   rw [rd_at l0 j hlt, Int.toNat_natCast] at hcell
   rw [hcell, ← (List.getElem?_eq_some_iff.1 hx).2])
  obtain ⟨i0, hi, hz0, hz1, hz2⟩ := info_parts (show (Try.prog.info? 2).map (fun i => (i.zero, i.size, i.bytes)) = some (some (.int .i64 0), 1, 8) by kernel_rfl)
  have HN := Aq.mk hb
  have HR := Aq.mk (show (encs (Value.int .i64) l0).length = l0.length by simp [encs])
  clear hr0 hc0 hb h
  generalize hm : l0.length = m at hn HN HR
  have HM := Aq.mk hm
  clear hm
  go_enter Try.func86, Try.ntmps86
  go_wp2_with (at_builtin; refine wpList_append_own _ rfl _ _ 25 rfl w.heap.size 2 i0 (.int .i64 0) 1 8 Try.underlying25 hi hz0 hz1 hz2 rfl (by decide) _ _ _ rfl (World.ownsRow_made w #[] 0 (Nat.le_refl _) (Nat.zero_le _) (by simp)) ad m c0 (encs (Value.int .i64) l0) rfl ?qc1 ?qc2 ?qc3 ?qc4 ?qc5 ?qc6 ?_)
  case qc1 => rw [HR.out]; omega
  case qc2 =>
   intro j u hj
   exact Lib.cell?_alloc_some _ (HC.out j u hj)
  case qc3 =>
   intro u hu
   simp only [encs, List.mem_map] at hu
   obtain ⟨x, _, rfl⟩ := hu
   rfl
  case qc4 => rw [Nat.zero_add]; exact hn
  case qc5 => have := HN.out; omega
  case qc6 => simp
  intro v' w1 hown hgrow hnil
  have HO := Aq.mk hown
  have HG := Aq.mk hgrow
  clear hown hgrow hnil
  go_wp2
  go_ret
  refine ⟨v', rfl, ?_, ((Below.refl _ w).alloc (Nat.le_refl _) _).grown HG.out (by simp) (by intro k hk; simp [Value.ownBlock] at hk; omega)⟩
  exact Kd.R_of_own (h1 := fun _ => rfl) (by have h := HO.out; rw [HM.out]; simpa using h) (fun _ _ => trivial)
def impl_echelon_1.f (a0 : Int) (a1_0 : Int) : Option (Bool) := if 0 ≤ a1_0 then (some ((Go.bits .and .i64 (shr .i64 a0 a1_0) 1) == 1)) else (none)
theorem impl_echelon_1.calls (a0 : Int) (g1_0 : Addr) (a1_0 : Int) (r : Bool) (w : World) (hb1_0 : AtC w g1_0 [.int .i64 a1_0]) (h : impl_echelon_1.f a0 a1_0 = some r) :
 Calls Try.prog 88 #[.int .i64 a0, .pointer (some g1_0)] w fun e w' => e = .returned (.bool r) ∧ Dq w w' := by
 have BK48 := Aq.mk hb1_0
 clear hb1_0
 have H : (if 0 ≤ a1_0 then (some ((Go.bits .and .i64 (shr .i64 a0 a1_0) 1) == 1)) else (none)) = some r := h
 clear h
 by_cases c3 : 0 ≤ a1_0
 rotate_left
 ·rw [if_neg c3] at H
  exact absurd H (by simp)
 rw [if_pos c3] at H
 have c3b0 := eq_true c3
 have c3b1 := decide_eq_true c3
 clear c3
 obtain ⟨ji4, hji4⟩ : ∃ j_ : Int, (shr .i64 a0 a1_0) = j_ := ⟨_, rfl⟩
 first | rw [hji4] at H | simp only [hji4] at H | skip
 have hji4_ : (a0 / 2 ^ min a1_0.toNat 64) = ji4 := hji4
 have hji4z : a1_0 ≤ 64 → (a0 / 2 ^ a1_0.toNat) = ji4 := shr_small hji4
 obtain rfl := Option.some.inj H
 have hcz5_0 : w.cell? g1_0 = some (.int .i64 a1_0) := AtC.cell0 BK48.out _ rfl
 go_enter Try.func88, Try.ntmps88
 go_wp2
 go_ret
 exact ⟨by first | rfl | (simp; done) | (simp only [← hji4] <;> (first | rfl | simp)) | (simp [*]; done), tD⟩
def slices_IndexFunc_int64_int64_AT_impl_echelon_1.l0 : Nat → List Int → Int → Int → Int → Option (Int)
  | 0, _, _, _, _ => none
  | k + 1, x0, x7, x8, x49000 => if x8 < x7 then (if 0 ≤ x8 then (if x8 < (x0.length : Int) then ((impl_echelon_1.f (rd x0 x8) x49000).bind fun t165 => (if t165 = true then (some x8) else (slices_IndexFunc_int64_int64_AT_impl_echelon_1.l0 k x0 x7 (wrap64 (x8 + 1)) x49000))) else (none)) else (none)) else (some (-1))
def slices_IndexFunc_int64_int64_AT_impl_echelon_1.f (k : Nat) (l0 : List Int) (a1_0 : Int) : Option (Int) := slices_IndexFunc_int64_int64_AT_impl_echelon_1.l0 k l0 (l0.length : Int) 0 a1_0
theorem slices_IndexFunc_int64_int64_AT_impl_echelon_1.mono_l : ∀ k, (∀ y0 y1 y2 y3, LeO (slices_IndexFunc_int64_int64_AT_impl_echelon_1.l0 k y0 y1 y2 y3) (slices_IndexFunc_int64_int64_AT_impl_echelon_1.l0 (k + 1) y0 y1 y2 y3))
 | 0 => fun _ _ _ _ r h => by simp [slices_IndexFunc_int64_int64_AT_impl_echelon_1.l0] at h
 | k + 1 => by
  have ih0 := slices_IndexFunc_int64_int64_AT_impl_echelon_1.mono_l k
  ·intro y0 y1 y2 y3
   unfold slices_IndexFunc_int64_int64_AT_impl_echelon_1.l0
   repeat' first
   | (with_reducible first | apply ih0 | exact LeO.refl _ | exact LeO.none _ | refine LeO.ite ?_ ?_ | refine LeO.bind ?_ (fun _ => ?_))
   | exact LeO.none _
   | refine LeO.ite ?_ ?_
   | refine LeO.bind ?_ (fun _ => ?_)
theorem slices_IndexFunc_int64_int64_AT_impl_echelon_1.mono : ∀ a0 a1 k, LeO (slices_IndexFunc_int64_int64_AT_impl_echelon_1.f k a0 a1) (slices_IndexFunc_int64_int64_AT_impl_echelon_1.f (k + 1) a0 a1) := by
 intro a0 a1 k
 have ih0 := slices_IndexFunc_int64_int64_AT_impl_echelon_1.mono_l k
 unfold slices_IndexFunc_int64_int64_AT_impl_echelon_1.f
 repeat' first
  | (with_reducible first | apply ih0 | exact LeO.refl _ | exact LeO.none _ | refine LeO.ite ?_ ?_ | refine LeO.bind ?_ (fun _ => ?_))
  | exact LeO.none _
  | refine LeO.ite ?_ ?_
  | refine LeO.bind ?_ (fun _ => ?_)
theorem slices_IndexFunc_int64_int64_AT_impl_echelon_1.calls (k : Nat) (A0 : Option Addr) (c0 : Nat) (l0 : List Int) (g1_0 : Addr) (a1_0 : Int) (r : Int) (w : World) (hr0 : Kd.C (Kd.int .i64) w A0 l0.length l0) (hc0 : l0.length ≤ c0) (hb1_0 : AtC w g1_0 [.int .i64 a1_0]) (h : slices_IndexFunc_int64_int64_AT_impl_echelon_1.f k l0 a1_0 = some r) :
 Calls Try.prog 87 #[.slice A0 l0.length c0, .func (.func 88) #[] #[.pointer (some g1_0)]] w fun e w' => e = .returned (.int .i64 r) ∧ Dq w w' := by
 have eg88 : ∀ (args_ : Array Value) (w_ : World), (callFunc 88 args_).run Try.prog w_ = .ok (.enter 88 args_) w_ := enters_of Try.func88 (by kernel_rfl) rfl
 have HR0 := Aq.mk hr0
 have HC0 := Aq.mk hc0
 clear hr0 hc0
 have BK48 := Aq.mk hb1_0
 clear hb1_0
 have H : (slices_IndexFunc_int64_int64_AT_impl_echelon_1.l0 k l0 (l0.length : Int) 0 a1_0) = some r := h
 clear h
 replace H' := Aq.mk H
 clear H
 go_enter Try.func87, Try.ntmps87
 go_wp2
 go_loopg [8] k (fun kq v8 w' => ∃ (x8_1 : Int), v8 = .int .i64 x8_1 ∧ Aq (slices_IndexFunc_int64_int64_AT_impl_echelon_1.l0 kq l0 (l0.length : Int) x8_1 a1_0 = some r) ∧ Aq (kq ≤ k) ∧ Dq w w')
 case atStart => exact ⟨(0), tS, H', ⟨Nat.le_refl _⟩, tD⟩
 clear H'
 obtain ⟨x8_1, rfl, HA, HK1, ⟨m1, rfl⟩⟩ := hrel
 cases gk with
 | zero => exact absurd HA.out (by simp [slices_IndexFunc_int64_int64_AT_impl_echelon_1.l0])
 | succ k1 =>
  have H := HA.out
  clear HA
  simp only [slices_IndexFunc_int64_int64_AT_impl_echelon_1.l0] at H
  by_cases c3 : x8_1 < (l0.length : Int)
  rotate_left
  ·rw [if_neg c3] at H
   have c3b0 := decide_eq_false c3
   clear c3
   obtain rfl := Option.some.inj H
   go_wp2
   go_ret
   exact ⟨tS, tD⟩
  rw [if_pos c3] at H
  have c3b0 := decide_eq_true c3
  clear c3
  by_cases c4 : 0 ≤ x8_1
  rotate_left
  ·rw [if_neg c4] at H
   exact absurd H (by simp)
  rw [if_pos c4] at H
  have c4b0 := decide_eq_true c4
  clear c4
  by_cases c5 : x8_1 < (l0.length : Int)
  rotate_left
  ·rw [if_neg c5] at H
   exact absurd H (by simp)
  rw [if_pos c5] at H
  have c5b0 := decide_eq_true c5
  clear c5
  obtain ⟨t165, A6, H⟩ := qBd H
  by_cases c7 : t165 = true
  ·subst c7
   rw [if_pos rfl] at H
   obtain rfl := Option.some.inj H
   have p164 : 0 ≤ (x8_1 : Int) := of_decide_eq_true tA
   have q164 : x8_1 < (l0.length : Int) := of_decide_eq_true tA
   obtain ⟨ad164, e164, hx164_0⟩ := Kd.at_int HR0.out x8_1 p164 q164
   cases e164
   replace p164 := eq_true p164
   replace q164 := eq_true q164
   go_wp2_with (first | (go_at_fn 88; (with_reducible refine (impl_echelon_1.calls (rd l0 x8_1) (g1_0 : Addr) a1_0 true _ ?s1 A6.out).mono ?_); (case s1 => repeat (first | exact BK48.out | (with_reducible refine AtC.alloc ?_ _) | (with_reducible refine AtC.drewN ?_ _) | (with_reducible refine AtC.drew ?_))); rintro e w' ⟨rfl, ⟨nd, rfl⟩⟩))
   go_ret
   exact ⟨tS, tD⟩
  replace c7 := Bool.eq_false_iff.mpr c7
  subst c7
  rw [if_neg (show ¬ (false = true) by decide)] at H
  replace H' := Aq.mk H
  clear H
  have p164 : 0 ≤ (x8_1 : Int) := of_decide_eq_true tA
  have q164 : x8_1 < (l0.length : Int) := of_decide_eq_true tA
  obtain ⟨ad164, e164, hx164_0⟩ := Kd.at_int HR0.out x8_1 p164 q164
  cases e164
  replace p164 := eq_true p164
  replace q164 := eq_true q164
  go_wp2_with (first | (go_at_fn 88; (with_reducible refine (impl_echelon_1.calls (rd l0 x8_1) (g1_0 : Addr) a1_0 false _ ?s1 A6.out).mono ?_); (case s1 => repeat (first | exact BK48.out | (with_reducible refine AtC.alloc ?_ _) | (with_reducible refine AtC.drewN ?_ _) | (with_reducible refine AtC.drew ?_))); rintro e w' ⟨rfl, ⟨nd, rfl⟩⟩))
  go_roundg k1
  case measure => have := HK1.out; omega
  case rel => exact ⟨(wrap64 (x8_1 + 1)), tS, H', ⟨by have := HK1.out; omega⟩, tD⟩
end Go.Proofs.Ythjfilmdobkmlaa.P
