/- Functions of the program and what they tell, as the printing program wrote it. -/
import Derived.Test.YthjfilmdobkmlaaPx0
import Derived.Test.YthjfilmdobkmlaaPx1
import Derived.Test.YthjfilmdobkmlaaPx30
namespace Go.Proofs.Ythjfilmdobkmlaa.P
open Go.Shelf Go.RowKit Go.Proofs.YthjfilmdobkmlaaW.PrintWords Go.Proofs.YthjfilmdobkmlaaW.PrintLast Go.Proofs.YthjfilmdobkmlaaW.PrintMore
attribute [local go_sem] max2_int min2_int max_two min_two max_three min_three max_four min_four
set_option linter.unusedVariables false
set_option linter.unusedSimpArgs false
set_option maxHeartbeats 8000000
set_option maxRecDepth 100000
def impl_Net_has.f (k : Nat) (a0_0 : Int) (a0_1 : Int) (a0_2 : Int) (a0_3 : Int) (l0_4 : List (List Int)) (l0_5 : List (List Int)) (a1 : Int) : Option (Int) := if a1 = 0 then (some a0_3) else ((impl_Net_into.f k a0_0 a0_1 a0_2 a0_3 l0_4 l0_5 a1).bind fun t702 => ((impl_size_int64.f t702).bind fun t705 => (some t705)))
theorem impl_Net_has.mono : ∀ a0 a1 a2 a3 a4 a5 a6 k, LeO (impl_Net_has.f k a0 a1 a2 a3 a4 a5 a6) (impl_Net_has.f (k + 1) a0 a1 a2 a3 a4 a5 a6) := by
 intro a0 a1 a2 a3 a4 a5 a6 k
 unfold impl_Net_has.f
 repeat' first
  | (with_reducible first | apply impl_Net_into.mono | exact LeO.refl _ | exact LeO.none _ | refine LeO.ite ?_ ?_ | refine LeO.bind ?_ (fun _ => ?_))
  | exact LeO.none _
  | refine LeO.ite ?_ ?_
  | refine LeO.bind ?_ (fun _ => ?_)
theorem impl_Net_has.calls (k : Nat) (a0_0 : Int) (a0_1 : Int) (a0_2 : Int) (a0_3 : Int) (A0_4 : Option Addr) (c0_4 : Nat) (l0_4 : List (List Int)) (A0_5 : Option Addr) (c0_5 : Nat) (l0_5 : List (List Int)) (a1 : Int) (r : Int) (w : World) (hr0_4 : Kd.C (Kd.slice 2 (Kd.int .i64)) w A0_4 l0_4.length l0_4) (hc0_4 : l0_4.length ≤ c0_4) (hr0_5 : Kd.C (Kd.slice 2 (Kd.int .i64)) w A0_5 l0_5.length l0_5) (hc0_5 : l0_5.length ≤ c0_5) (h : impl_Net_has.f k a0_0 a0_1 a0_2 a0_3 l0_4 l0_5 a1 = some r) :
 Calls Try.prog 70 #[.agg #[.int .i64 a0_0, .int .i64 a0_1, .int .i64 a0_2, .int .i64 a0_3, .slice A0_4 l0_4.length c0_4, .slice A0_5 l0_5.length c0_5], .int .i64 a1] w fun e w' => e = .returned (.int .i64 r) ∧ Below w.heap.size w w' := by
 have hu51 := Try.underlying51
 have HR0_4 := Aq.mk hr0_4
 have HC0_4 := Aq.mk hc0_4
 clear hr0_4 hc0_4
 have HR0_5 := Aq.mk hr0_5
 have HC0_5 := Aq.mk hc0_5
 clear hr0_5 hc0_5
 have HB := Aq.mk (Below.refl w.heap.size w)
 have H : (if a1 = 0 then (some a0_3) else ((impl_Net_into.f k a0_0 a0_1 a0_2 a0_3 l0_4 l0_5 a1).bind fun t702 => ((impl_size_int64.f t702).bind fun t705 => (some t705)))) = some r := h
 clear h
 by_cases c3 : a1 = 0
 ·rw [if_pos c3] at H
  have c3b0 := beq_iff_eq.mpr c3
  have c3b1 := bne_eq_false_iff_eq.mpr c3
  clear c3
  obtain rfl := Option.some.inj H
  go_enter Try.func70, Try.ntmps70
  go_wp2_with (first | ((with_reducible refine gQd (N := 2) rfl ?_); refine xQe ?hg (N := 2) ?hd (cs := #[.int .i64 a0_0, .int .i64 a0_1, .int .i64 a0_2, .int .i64 a0_3, .slice A0_4 l0_4.length c0_4, .slice A0_5 l0_5.length c0_5]) (t := 51) ?hr ?_; (case hd => rfl); (case hg => rfl); (case hr => exact tH); intro gb701 hg w4 hbox hb; refine qM4 (bQT tB hb) hbox (tZ w hg) (tZ w hg) ?_; clear HB; intro HB BK701 GW701 GE701; clear hb hbox hg; have hcz5_0 : w4.cell? ⟨gb701, 0, none⟩ = some (.int .i64 a0_0) := (kQC BK701.out 0).trans rfl; have hcz5_1 : w4.cell? ⟨gb701, 1, none⟩ = some (.int .i64 a0_1) := (kQC BK701.out 1).trans rfl; have hcz5_2 : w4.cell? ⟨gb701, 2, none⟩ = some (.int .i64 a0_2) := (kQC BK701.out 2).trans rfl; have hcz5_3 : w4.cell? ⟨gb701, 3, none⟩ = some (.int .i64 a0_3) := (kQC BK701.out 3).trans rfl; have hcz5_4 : w4.cell? ⟨gb701, 4, none⟩ = some (.slice A0_4 l0_4.length c0_4) := (kQC BK701.out 4).trans rfl; have hcz5_5 : w4.cell? ⟨gb701, 5, none⟩ = some (.slice A0_5 l0_5.length c0_5) := (kQC BK701.out 5).trans rfl; have hfz5_0 := kQF BK701.out 0; have hfz5_1 := kQF BK701.out 1; have hfz5_2 := kQF BK701.out 2; have hfz5_3 := kQF BK701.out 3; have hfz5_4 := kQF BK701.out 4; have hfz5_5 := kQF BK701.out 5))
  go_ret
  exact ⟨tE, tB⟩
 rw [if_neg c3] at H
 have c3b0 := beq_eq_false_iff_ne.mpr c3
 have c3b1 := bne_iff_ne.mpr c3
 obtain ⟨t702, A6, H⟩ := qBd H
 obtain ⟨t705, A7, H⟩ := qBd H
 obtain rfl := Option.some.inj H
 go_enter Try.func70, Try.ntmps70
 go_wp2_with (first | ((with_reducible refine gQd (N := 2) rfl ?_); refine xQe ?hg (N := 2) ?hd (cs := #[.int .i64 a0_0, .int .i64 a0_1, .int .i64 a0_2, .int .i64 a0_3, .slice A0_4 l0_4.length c0_4, .slice A0_5 l0_5.length c0_5]) (t := 51) ?hr ?_; (case hd => rfl); (case hg => rfl); (case hr => exact tH); intro gb701 hg w8 hbox hb; refine qM4 (bQT tB hb) hbox (tZ w hg) (tZ w hg) ?_; clear HB; intro HB BK701 GW701 GE701; clear hb hbox hg; have hcz9_0 : w8.cell? ⟨gb701, 0, none⟩ = some (.int .i64 a0_0) := (kQC BK701.out 0).trans rfl; have hcz9_1 : w8.cell? ⟨gb701, 1, none⟩ = some (.int .i64 a0_1) := (kQC BK701.out 1).trans rfl; have hcz9_2 : w8.cell? ⟨gb701, 2, none⟩ = some (.int .i64 a0_2) := (kQC BK701.out 2).trans rfl; have hcz9_3 : w8.cell? ⟨gb701, 3, none⟩ = some (.int .i64 a0_3) := (kQC BK701.out 3).trans rfl; have hcz9_4 : w8.cell? ⟨gb701, 4, none⟩ = some (.slice A0_4 l0_4.length c0_4) := (kQC BK701.out 4).trans rfl; have hcz9_5 : w8.cell? ⟨gb701, 5, none⟩ = some (.slice A0_5 l0_5.length c0_5) := (kQC BK701.out 5).trans rfl; have hfz9_0 := kQF BK701.out 0; have hfz9_1 := kQF BK701.out 1; have hfz9_2 := kQF BK701.out 2; have hfz9_3 := kQF BK701.out 3; have hfz9_4 := kQF BK701.out 4; have hfz9_5 := kQF BK701.out 5) | ((with_reducible refine gQc (f := 101) rfl ?_); refine goesL_ (some 11) rfl rfl Try.func101 (by kernel_rfl) rfl #[.agg #[.int .i64 a0_0, .int .i64 a0_1, .int .i64 a0_2, .int .i64 a0_3, .slice A0_4 l0_4.length c0_4, .slice A0_5 l0_5.length c0_5], .int .i64 a1] rfl tL ?_; (with_reducible refine (impl_Net_into.calls k a0_0 a0_1 a0_2 a0_3 _ _ l0_4 _ _ l0_5 a1 t702 _ ?s1 ?s2 ?s3 ?s4 A6.out).mono ?_); (case s1 => exact tC ((Kd.C_below HR0_4.out HB.out))); (case s2 => exact HC0_4.out); (case s3 => exact tC ((Kd.C_below HR0_5.out HB.out))); (case s4 => exact HC0_5.out); rintro e w10 ⟨v703, rfl, ho0, hb⟩; refine ⟨_, rfl, ?_⟩; refine qM3 (Kd.R_lower ho0 (bQZ tB)) (tQ BK701.out hb) (bQT tB hb) ?_; clear BK701 HB; intro HO704 BK701 HB; (try clear hb); (try clear hb2); (try clear hk); (try clear hi); (try clear ho0); obtain ⟨Ao11, co11, eo11⟩ := Kd.R_slice HO704.out; subst eo11) | ((with_reducible refine gQc (f := 41) rfl ?_); refine goesL_ (some 12) rfl rfl Try.func41 (by kernel_rfl) rfl #[.slice Ao11 t702.length co11] rfl tL ?_; (with_reducible refine (impl_size_int64.calls _ _ t702 t705 _ ?s1 ?s2 A7.out).mono ?_); (case s1 => exact tC ((Kd.R_reads' HO704.out).2.2)); (case s2 => exact (Kd.R_reads' HO704.out).2.1); rintro e w' ⟨rfl, ⟨nd, rfl⟩⟩; refine ⟨_, rfl, ?_⟩))
 go_ret
 exact ⟨tE, tB⟩
def impl_Field_count.f (a0_0 : Int) (a0_1 : Int) : Option (Int) := if 0 ≤ a0_0 then (some (shl .i64 1 a0_0)) else (none)
theorem impl_Field_count.calls (a0_0 : Int) (a0_1 : Int) (r : Int) (w : World) (h : impl_Field_count.f a0_0 a0_1 = some r) :
 Calls Try.prog 103 #[.agg #[.int .i64 a0_0, .int .i64 a0_1]] w fun e w' => e = .returned (.int .i64 r) ∧ Below w.heap.size w w' := by
 have hu49 := Try.underlying49
 have HB := Aq.mk (Below.refl w.heap.size w)
 have H : (if 0 ≤ a0_0 then (some (shl .i64 1 a0_0)) else (none)) = some r := h
 clear h
 by_cases c2 : 0 ≤ a0_0
 rotate_left
 ·rw [if_neg c2] at H
  exact absurd H (by simp)
 rw [if_pos c2] at H
 have c2b0 := eq_true c2
 have c2b1 := decide_eq_true c2
 clear c2
 obtain ⟨ji3, hji3⟩ : ∃ j_ : Int, (shl .i64 1 a0_0) = j_ := ⟨_, rfl⟩
 first | rw [hji3] at H | simp only [hji3] at H | skip
 have hji3_ : (IntKind.i64.wrap (1 * 2 ^ min a0_0.toNat 64)) = ji3 := hji3
 have hji3z : a0_0 ≤ 64 → (IntKind.i64.wrap (1 * 2 ^ a0_0.toNat)) = ji3 := shl_small hji3
 have hji3u : (IntKind.i64.wrap (2 ^ min a0_0.toNat 64)) = ji3 := by have h_ := hji3_; rw [Int.one_mul] at h_; exact h_
 have hji3v : a0_0 ≤ 64 → (IntKind.i64.wrap (2 ^ a0_0.toNat)) = ji3 := fun hle_ => by have h_ := hji3z hle_; rw [Int.one_mul] at h_; exact h_
 have hji3y : (wrap64 (1 * 2 ^ min a0_0.toNat 64)) = ji3 := (i64_w _).symm.trans hji3_
 have hji3x : a0_0 ≤ 64 → (wrap64 (1 * 2 ^ a0_0.toNat)) = ji3 := fun h_ => (i64_w _).symm.trans (hji3z h_)
 obtain rfl := Option.some.inj H
 go_enter Try.func103, Try.ntmps103
 go_wp2_with (first | ((with_reducible refine gQd (N := 1) rfl ?_); refine xQe ?hg (N := 1) ?hd (cs := #[.int .i64 a0_0, .int .i64 a0_1]) (t := 49) ?hr ?_; (case hd => rfl); (case hg => rfl); (case hr => exact tH); intro gb706 hg w4 hbox hb; refine qM4 (bQT tB hb) hbox (tZ w hg) (tZ w hg) ?_; clear HB; intro HB BK706 GW706 GE706; clear hb hbox hg; have hcz5_0 : w4.cell? ⟨gb706, 0, none⟩ = some (.int .i64 a0_0) := (kQC BK706.out 0).trans rfl; have hcz5_1 : w4.cell? ⟨gb706, 1, none⟩ = some (.int .i64 a0_1) := (kQC BK706.out 1).trans rfl; have hfz5_0 := kQF BK706.out 0; have hfz5_1 := kQF BK706.out 1))
 go_ret
 exact ⟨by first | rfl | (simp [errW_none, errW_some] <;> rfl) | (simp only [← hji3]; first | rfl | (simp [errW_none, errW_some] <;> rfl)) | (simp [*, errW_none, errW_some] <;> rfl), tB⟩
def impl_Field_has_1.f (a0 : Int) (a1_0 : Int) (a1_1 : Int) : Option (Bool) := (impl_Field_count.f a1_0 a1_1).bind fun t707 => ((impl_within.f a0 0 (wrap64 (t707 - 1))).bind fun t708 => (some (!t708)))
theorem impl_Field_has_1.calls (a0 : Int) (g1_0 : Addr) (a1_0 : Int) (a1_1 : Int) (r : Bool) (w : World) (hb1_0 : AtC w g1_0 [.int .i64 a1_0, .int .i64 a1_1]) (h : impl_Field_has_1.f a0 a1_0 a1_1 = some r) :
 Calls Try.prog 102 #[.int .i64 a0, .pointer (some g1_0)] w fun e w' => e = .returned (.bool r) ∧ Below w.heap.size w w' := by
 have hu49 := Try.underlying49
 have BK48 := Aq.mk hb1_0
 clear hb1_0
 have HB := Aq.mk (Below.refl w.heap.size w)
 have H : ((impl_Field_count.f a1_0 a1_1).bind fun t707 => ((impl_within.f a0 0 (wrap64 (t707 - 1))).bind fun t708 => (some (!t708)))) = some r := h
 clear h
 obtain ⟨t707, A3, H⟩ := qBd H
 obtain ⟨t708, A4, H⟩ := qBd H
 obtain rfl := Option.some.inj H
 have hcz5_0 : w.cell? g1_0 = some (.int .i64 a1_0) := AtC.cell0 BK48.out _ rfl
 have hcz5_1 : w.cell? ⟨g1_0.block, g1_0.off + 1, none⟩ = some (.int .i64 a1_1) := AtC.cell BK48.out 1 _ (by decide) rfl
 go_enter Try.func102, Try.ntmps102
 go_wp2_with (first | ((with_reducible refine gQc (f := 103) rfl ?_); refine goesL_ (some 6) rfl rfl Try.func103 (by kernel_rfl) rfl #[.agg #[.int .i64 a1_0, .int .i64 a1_1]] rfl tL ?_; (with_reducible refine (impl_Field_count.calls a1_0 a1_1 t707 _ A3.out).mono ?_); rintro e w6 ⟨rfl, hb⟩; refine ⟨_, rfl, ?_⟩; refine qM1 (bQT tB hb) ?_; clear HB; intro HB; (try clear hb); (try clear hb2); (try clear hk); (try clear hi)) | ((with_reducible refine gQc (f := 68) rfl ?_); refine goesL_ (some 8) rfl rfl Try.func68 (by kernel_rfl) rfl #[.int .i64 a0, .int .i64 0, .int .i64 (wrap64 (t707 - 1))] rfl tL ?_; (with_reducible refine (impl_within.calls a0 0 (wrap64 (t707 - 1)) t708 _ A4.out).mono ?_); rintro e w' ⟨rfl, ⟨nd, rfl⟩⟩; refine ⟨_, rfl, ?_⟩))
 go_ret
 exact ⟨tE, tB⟩
def slices_IndexFunc_int64_int64_AT_impl_Field_has_1.l0 : Nat → List Int → Int → Int → Int → Int → Option (Int)
  | 0, _, _, _, _, _ => none
  | k + 1, x0, x7, x8, x49000, x49001 => if x8 < x7 then (if 0 ≤ x8 then (if x8 < (x0.length : Int) then ((impl_Field_has_1.f (rd x0 x8) x49000 x49001).bind fun t710 => (if t710 = true then (some x8) else (slices_IndexFunc_int64_int64_AT_impl_Field_has_1.l0 k x0 x7 (wrap64 (x8 + 1)) x49000 x49001))) else (none)) else (none)) else (some (-1))
def slices_IndexFunc_int64_int64_AT_impl_Field_has_1.f (k : Nat) (l0 : List Int) (a1_0 : Int) (a1_1 : Int) : Option (Int) := slices_IndexFunc_int64_int64_AT_impl_Field_has_1.l0 k l0 (l0.length : Int) 0 a1_0 a1_1
theorem slices_IndexFunc_int64_int64_AT_impl_Field_has_1.mono_l : ∀ k, (∀ y0 y1 y2 y3 y4, LeO (slices_IndexFunc_int64_int64_AT_impl_Field_has_1.l0 k y0 y1 y2 y3 y4) (slices_IndexFunc_int64_int64_AT_impl_Field_has_1.l0 (k + 1) y0 y1 y2 y3 y4))
 | 0 => fun _ _ _ _ _ r h => by simp [slices_IndexFunc_int64_int64_AT_impl_Field_has_1.l0] at h
 | k + 1 => by
  have ih0 := slices_IndexFunc_int64_int64_AT_impl_Field_has_1.mono_l k
  ·intro y0 y1 y2 y3 y4
   unfold slices_IndexFunc_int64_int64_AT_impl_Field_has_1.l0
   repeat' first
   | (with_reducible first | apply ih0 | exact LeO.refl _ | exact LeO.none _ | refine LeO.ite ?_ ?_ | refine LeO.bind ?_ (fun _ => ?_))
   | exact LeO.none _
   | refine LeO.ite ?_ ?_
   | refine LeO.bind ?_ (fun _ => ?_)
theorem slices_IndexFunc_int64_int64_AT_impl_Field_has_1.mono : ∀ a0 a1 a2 k, LeO (slices_IndexFunc_int64_int64_AT_impl_Field_has_1.f k a0 a1 a2) (slices_IndexFunc_int64_int64_AT_impl_Field_has_1.f (k + 1) a0 a1 a2) := by
 intro a0 a1 a2 k
 have ih0 := slices_IndexFunc_int64_int64_AT_impl_Field_has_1.mono_l k
 unfold slices_IndexFunc_int64_int64_AT_impl_Field_has_1.f
 repeat' first
  | (with_reducible first | apply ih0 | exact LeO.refl _ | exact LeO.none _ | refine LeO.ite ?_ ?_ | refine LeO.bind ?_ (fun _ => ?_))
  | exact LeO.none _
  | refine LeO.ite ?_ ?_
  | refine LeO.bind ?_ (fun _ => ?_)
theorem slices_IndexFunc_int64_int64_AT_impl_Field_has_1.calls (k : Nat) (A0 : Option Addr) (c0 : Nat) (l0 : List Int) (g1_0 : Addr) (a1_0 : Int) (a1_1 : Int) (r : Int) (w : World) (hr0 : Kd.C (Kd.int .i64) w A0 l0.length l0) (hc0 : l0.length ≤ c0) (hb1_0 : AtC w g1_0 [.int .i64 a1_0, .int .i64 a1_1]) (h : slices_IndexFunc_int64_int64_AT_impl_Field_has_1.f k l0 a1_0 a1_1 = some r) :
 Calls Try.prog 87 #[.slice A0 l0.length c0, .func (.func 102) #[] #[.pointer (some g1_0)]] w fun e w' => e = .returned (.int .i64 r) ∧ Below w.heap.size w w' := by
 have eg102 : ∀ (args_ : Array Value) (w_ : World), (callFunc 102 args_).run Try.prog w_ = .ok (.enter 102 args_) w_ := enters_of Try.func102 (by kernel_rfl) rfl
 have HR0 := Aq.mk hr0
 have HC0 := Aq.mk hc0
 clear hr0 hc0
 have BK48 := Aq.mk hb1_0
 clear hb1_0
 have HB := Aq.mk (Below.refl w.heap.size w)
 have H : (slices_IndexFunc_int64_int64_AT_impl_Field_has_1.l0 k l0 (l0.length : Int) 0 a1_0 a1_1) = some r := h
 clear h
 replace H' := Aq.mk H
 clear H
 go_enter Try.func87, Try.ntmps87
 go_wp2
 go_loopg [8] k (fun kq v8 w' => ∃ (x8_1 : Int), v8 = .int .i64 x8_1 ∧ Aq (slices_IndexFunc_int64_int64_AT_impl_Field_has_1.l0 kq l0 (l0.length : Int) x8_1 a1_0 a1_1 = some r) ∧ Aq (kq ≤ k) ∧ Aq (Below w.heap.size w w'))
 case atStart => exact ⟨(0), tS, H', ⟨Nat.le_refl _⟩, ⟨tB⟩⟩
 clear H'
 obtain ⟨x8_1, rfl, HA, HK1, HB⟩ := hrel
 cases gk with
 | zero => exact absurd HA.out (by simp [slices_IndexFunc_int64_int64_AT_impl_Field_has_1.l0])
 | succ k1 =>
  have H := HA.out
  clear HA
  simp only [slices_IndexFunc_int64_int64_AT_impl_Field_has_1.l0] at H
  by_cases c3 : x8_1 < (l0.length : Int)
  rotate_left
  ·rw [if_neg c3] at H
   have c3b0 := decide_eq_false c3
   clear c3
   obtain rfl := Option.some.inj H
   go_wp2
   go_ret
   exact ⟨tE, tB⟩
  rw [if_pos c3] at H
  have c3b0 := decide_eq_true c3
  clear c3
  by_cases c4 : 0 ≤ x8_1
  rotate_left
  ·rw [if_neg c4] at H
   exact absurd H (by simp)
  rw [if_pos c4] at H
  have c4b0 := decide_eq_true c4
  clear c4
  by_cases c5 : x8_1 < (l0.length : Int)
  rotate_left
  ·rw [if_neg c5] at H
   exact absurd H (by simp)
  rw [if_pos c5] at H
  have c5b0 := decide_eq_true c5
  clear c5
  obtain ⟨t710, A6, H⟩ := qBd H
  by_cases c7 : t710 = true
  ·subst c7
   rw [if_pos rfl] at H
   obtain rfl := Option.some.inj H
   have p709 : 0 ≤ (x8_1 : Int) := of_decide_eq_true tA
   have q709 : x8_1 < (l0.length : Int) := of_decide_eq_true tA
   obtain ⟨ad709, e709, hx709_0⟩ := Kd.at_int HR0.out x8_1 p709 q709
   cases e709
   replace hx709_0 := (HB.out.cell (World.block_lt_of_cell? w _ hx709_0)).trans hx709_0
   replace p709 := eq_true p709
   replace q709 := eq_true q709
   go_wp2_with (first | (go_at_fn 102; (with_reducible refine (impl_Field_has_1.calls (rd l0 x8_1) (g1_0 : Addr) a1_0 a1_1 true _ ?s1 A6.out).mono ?_); (case s1 => repeat (first | exact (AtC.below BK48.out HB.out) | (with_reducible refine AtC.alloc ?_ _) | (with_reducible refine AtC.drewN ?_ _) | (with_reducible refine AtC.drew ?_))); rintro e w8 ⟨rfl, hb⟩; refine qM1 (bQT tB hb) ?_; clear HB; intro HB; (try clear hb); (try clear hb2); (try clear hk); (try clear hi)))
   go_ret
   exact ⟨tE, tB⟩
  replace c7 := Bool.eq_false_iff.mpr c7
  subst c7
  rw [if_neg (show ¬ (false = true) by decide)] at H
  replace H' := Aq.mk H
  clear H
  have p709 : 0 ≤ (x8_1 : Int) := of_decide_eq_true tA
  have q709 : x8_1 < (l0.length : Int) := of_decide_eq_true tA
  obtain ⟨ad709, e709, hx709_0⟩ := Kd.at_int HR0.out x8_1 p709 q709
  cases e709
  replace hx709_0 := (HB.out.cell (World.block_lt_of_cell? w _ hx709_0)).trans hx709_0
  replace p709 := eq_true p709
  replace q709 := eq_true q709
  go_wp2_with (first | (go_at_fn 102; (with_reducible refine (impl_Field_has_1.calls (rd l0 x8_1) (g1_0 : Addr) a1_0 a1_1 false _ ?s1 A6.out).mono ?_); (case s1 => repeat (first | exact (AtC.below BK48.out HB.out) | (with_reducible refine AtC.alloc ?_ _) | (with_reducible refine AtC.drewN ?_ _) | (with_reducible refine AtC.drew ?_))); rintro e w9 ⟨rfl, hb⟩; refine qM1 (bQT tB hb) ?_; clear HB; intro HB; (try clear hb); (try clear hb2); (try clear hk); (try clear hi)))
  go_roundg k1
  case measure => have := HK1.out; omega
  case rel => exact ⟨(wrap64 (x8_1 + 1)), tS, H', ⟨by have := HK1.out; omega⟩, ⟨tB⟩⟩
def slices_ContainsFunc_int64_int64_AT_impl_Field_has_1.f (k : Nat) (l0 : List Int) (a1_0 : Int) (a1_1 : Int) : Option (Bool) := (slices_IndexFunc_int64_int64_AT_impl_Field_has_1.f k l0 a1_0 a1_1).bind fun t711 => (some (decide (t711 ≥ 0)))
theorem slices_ContainsFunc_int64_int64_AT_impl_Field_has_1.mono : ∀ a0 a1 a2 k, LeO (slices_ContainsFunc_int64_int64_AT_impl_Field_has_1.f k a0 a1 a2) (slices_ContainsFunc_int64_int64_AT_impl_Field_has_1.f (k + 1) a0 a1 a2) := by
 intro a0 a1 a2 k
 unfold slices_ContainsFunc_int64_int64_AT_impl_Field_has_1.f
 repeat' first
  | (with_reducible first | apply slices_IndexFunc_int64_int64_AT_impl_Field_has_1.mono | exact LeO.refl _ | exact LeO.none _ | refine LeO.ite ?_ ?_ | refine LeO.bind ?_ (fun _ => ?_))
  | exact LeO.none _
  | refine LeO.ite ?_ ?_
  | refine LeO.bind ?_ (fun _ => ?_)
theorem slices_ContainsFunc_int64_int64_AT_impl_Field_has_1.calls (k : Nat) (A0 : Option Addr) (c0 : Nat) (l0 : List Int) (g1_0 : Addr) (a1_0 : Int) (a1_1 : Int) (r : Bool) (w : World) (hr0 : Kd.C (Kd.int .i64) w A0 l0.length l0) (hc0 : l0.length ≤ c0) (hb1_0 : AtC w g1_0 [.int .i64 a1_0, .int .i64 a1_1]) (h : slices_ContainsFunc_int64_int64_AT_impl_Field_has_1.f k l0 a1_0 a1_1 = some r) :
 Calls Try.prog 84 #[.slice A0 l0.length c0, .func (.func 102) #[] #[.pointer (some g1_0)]] w fun e w' => e = .returned (.bool r) ∧ Below w.heap.size w w' := by
 have HR0 := Aq.mk hr0
 have HC0 := Aq.mk hc0
 clear hr0 hc0
 have BK48 := Aq.mk hb1_0
 clear hb1_0
 have HB := Aq.mk (Below.refl w.heap.size w)
 have H : ((slices_IndexFunc_int64_int64_AT_impl_Field_has_1.f k l0 a1_0 a1_1).bind fun t711 => (some (decide (t711 ≥ 0)))) = some r := h
 clear h
 obtain ⟨t711, A3, H⟩ := qBd H
 obtain rfl := Option.some.inj H
 go_enter Try.func84, Try.ntmps84
 go_wp2_with (first | ((with_reducible refine gQc (f := 87) rfl ?_); refine goesL_ (some 7) rfl rfl Try.func87 (by kernel_rfl) rfl #[.slice A0 l0.length c0, .func (.func 102) #[] #[.pointer (some g1_0)]] rfl tL ?_; (with_reducible refine (slices_IndexFunc_int64_int64_AT_impl_Field_has_1.calls k _ _ l0 (g1_0 : Addr) a1_0 a1_1 t711 _ ?s1 ?s2 ?s3 A3.out).mono ?_); (case s1 => exact tC HR0.out); (case s2 => exact HC0.out); (case s3 => repeat (first | exact BK48.out | (with_reducible refine AtC.alloc ?_ _) | (with_reducible refine AtC.drewN ?_ _) | (with_reducible refine AtC.drew ?_))); rintro e w4 ⟨rfl, hb⟩; refine ⟨_, rfl, ?_⟩; refine qM1 (bQT tB hb) ?_; clear HB; intro HB; (try clear hb); (try clear hb2); (try clear hk); (try clear hi)))
 go_ret
 exact ⟨tE, tB⟩
def impl_Field_has.f (k : Nat) (a0_0 : Int) (a0_1 : Int) (l1 : List Int) : Option (Bool) := (slices_ContainsFunc_int64_int64_AT_impl_Field_has_1.f k l1 a0_0 a0_1).bind fun t713 => (some (!t713))
theorem impl_Field_has.mono : ∀ a0 a1 a2 k, LeO (impl_Field_has.f k a0 a1 a2) (impl_Field_has.f (k + 1) a0 a1 a2) := by
 intro a0 a1 a2 k
 unfold impl_Field_has.f
 repeat' first
  | (with_reducible first | apply slices_ContainsFunc_int64_int64_AT_impl_Field_has_1.mono | exact LeO.refl _ | exact LeO.none _ | refine LeO.ite ?_ ?_ | refine LeO.bind ?_ (fun _ => ?_))
  | exact LeO.none _
  | refine LeO.ite ?_ ?_
  | refine LeO.bind ?_ (fun _ => ?_)
theorem impl_Field_has.calls (k : Nat) (a0_0 : Int) (a0_1 : Int) (A1 : Option Addr) (c1 : Nat) (l1 : List Int) (r : Bool) (w : World) (hr1 : Kd.C (Kd.int .i64) w A1 l1.length l1) (hc1 : l1.length ≤ c1) (h : impl_Field_has.f k a0_0 a0_1 l1 = some r) :
 Calls Try.prog 71 #[.agg #[.int .i64 a0_0, .int .i64 a0_1], .slice A1 l1.length c1] w fun e w' => e = .returned (.bool r) ∧ Below w.heap.size w w' := by
 have hu49 := Try.underlying49
 have HR1 := Aq.mk hr1
 have HC1 := Aq.mk hc1
 clear hr1 hc1
 have HB := Aq.mk (Below.refl w.heap.size w)
 have H : ((slices_ContainsFunc_int64_int64_AT_impl_Field_has_1.f k l1 a0_0 a0_1).bind fun t713 => (some (!t713))) = some r := h
 clear h
 obtain ⟨t713, A3, H⟩ := qBd H
 obtain rfl := Option.some.inj H
 go_enter Try.func71, Try.ntmps71
 go_wp2_with (first | ((with_reducible refine gQd (N := 2) rfl ?_); refine xQe ?hg (N := 2) ?hd (cs := #[.int .i64 a0_0, .int .i64 a0_1]) (t := 49) ?hr ?_; (case hd => rfl); (case hg => rfl); (case hr => exact tH); intro gb712 hg w4 hbox hb; refine qM4 (bQT tB hb) hbox (tZ w hg) (tZ w hg) ?_; clear HB; intro HB BK712 GW712 GE712; clear hb hbox hg) | ((with_reducible refine gQc (f := 84) rfl ?_); refine goesL_ (some 7) rfl rfl Try.func84 (by kernel_rfl) rfl #[.slice A1 l1.length c1, .func (.func 102) #[] #[.pointer (some ⟨gb712, 0, none⟩)]] rfl tL ?_; (with_reducible refine (slices_ContainsFunc_int64_int64_AT_impl_Field_has_1.calls k _ _ l1 (⟨gb712, 0, none⟩ : Addr) a0_0 a0_1 t713 _ ?s1 ?s2 ?s3 A3.out).mono ?_); (case s1 => exact tC ((Kd.C_below HR1.out HB.out))); (case s2 => exact HC1.out); (case s3 => exact AtC.of_blk (g := gb712) (t := 49) (cs := #[.int .i64 a0_0, .int .i64 a0_1]) (tG BK712.out) rfl); rintro e w5 ⟨rfl, hb⟩; refine ⟨_, rfl, ?_⟩; refine qM2 (tQ BK712.out hb) (bQT tB hb) ?_; clear BK712 HB; intro BK712 HB; (try clear hb); (try clear hb2); (try clear hk); (try clear hi)))
 go_ret
 exact ⟨tE, tB⟩
end Go.Proofs.Ythjfilmdobkmlaa.P
