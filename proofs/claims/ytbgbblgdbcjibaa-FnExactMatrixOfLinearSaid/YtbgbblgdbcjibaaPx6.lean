/- Functions of the program and what they tell, as the printing program wrote it. -/
import Derived.Test.YtbgbblgdbcjibaaPx0
import Derived.Test.YtbgbblgdbcjibaaPx1
import Derived.Test.YtbgbblgdbcjibaaPx2
namespace Go.Proofs.Ytbgbblgdbcjibaa.P
open Go.Shelf Go.RowKit Go.Proofs.YtbgbblgdbcjibaaW.PrintWords Go.Proofs.YtbgbblgdbcjibaaW.PrintLast Go.Proofs.YtbgbblgdbcjibaaW.PrintMore
attribute [local go_sem] max2_int min2_int max_two min_two max_three min_three max_four min_four
set_option linter.unusedVariables false
set_option linter.unusedSimpArgs false
set_option maxHeartbeats 8000000
set_option maxRecDepth 100000
def spec_l01Sum.l0 : Nat → List Int → Int → Int → Int → Option (Int)
  | 0, _, _, _, _ => none
  | k + 1, x0, x1, x5, x6 => if x6 < (x0.length : Int) then (if 0 ≤ (IntKind.u64.wrap (x6)) then (if (Go.bits .and .i64 (shr .i64 x1 (IntKind.u64.wrap (x6))) 1) = 1 then (if 0 ≤ x6 then (spec_l01Sum.l0 k x0 x1 (Go.bits .xor .i64 x5 (rd x0 x6)) (wrap64 (x6 + 1))) else (none)) else (spec_l01Sum.l0 k x0 x1 x5 (wrap64 (x6 + 1)))) else (none)) else (some x5)
def spec_l01Sum.f (k : Nat) (l0 : List Int) (a1 : Int) : Option (Int) := spec_l01Sum.l0 k l0 a1 0 0
theorem spec_l01Sum.mono_l : ∀ k, (∀ y0 y1 y2 y3, LeO (spec_l01Sum.l0 k y0 y1 y2 y3) (spec_l01Sum.l0 (k + 1) y0 y1 y2 y3))
 | 0 => fun _ _ _ _ r h => by simp [spec_l01Sum.l0] at h
 | k + 1 => by
  have ih0 := spec_l01Sum.mono_l k
  ·intro y0 y1 y2 y3
   unfold spec_l01Sum.l0
   repeat' first
   | (with_reducible first | apply ih0 | exact LeO.refl _ | exact LeO.none _ | refine LeO.ite ?_ ?_ | refine LeO.bind ?_ (fun _ => ?_))
   | exact LeO.none _
   | refine LeO.ite ?_ ?_
   | refine LeO.bind ?_ (fun _ => ?_)
theorem spec_l01Sum.mono : ∀ a0 a1 k, LeO (spec_l01Sum.f k a0 a1) (spec_l01Sum.f (k + 1) a0 a1) := by
 intro a0 a1 k
 have ih0 := spec_l01Sum.mono_l k
 unfold spec_l01Sum.f
 repeat' first
  | (with_reducible first | apply ih0 | exact LeO.refl _ | exact LeO.none _ | refine LeO.ite ?_ ?_ | refine LeO.bind ?_ (fun _ => ?_))
  | exact LeO.none _
  | refine LeO.ite ?_ ?_
  | refine LeO.bind ?_ (fun _ => ?_)
theorem spec_l01Sum.calls (k : Nat) (A0 : Option Addr) (c0 : Nat) (l0 : List Int) (a1 : Int) (r : Int) (w : World) (hr0 : Kd.C (Kd.int .i64) w A0 l0.length l0) (hc0 : l0.length ≤ c0) (h : spec_l01Sum.f k l0 a1 = some r) :
 Calls Try.prog 45 #[.slice A0 l0.length c0, .int .i64 a1] w fun e w' => e = .returned (.int .i64 r) ∧ Dq w w' := by
 have HR0 := Aq.mk hr0
 have HC0 := Aq.mk hc0
 clear hr0 hc0
 have H : (spec_l01Sum.l0 k l0 a1 0 0) = some r := h
 clear h
 replace H' := Aq.mk H
 clear H
 go_enter Try.func45, Try.ntmps45
 go_wp2
 go_loopg [5, 6] k (fun kq v5 v6 w' => ∃ (x5_1 : Int) (x6_1 : Int), v5 = .int .i64 x5_1 ∧ v6 = .int .i64 x6_1 ∧ Aq (spec_l01Sum.l0 kq l0 a1 x5_1 x6_1 = some r) ∧ Aq (kq ≤ k) ∧ Dq w w')
 case atStart => exact ⟨(0), (0), tS, tS, H', ⟨Nat.le_refl _⟩, tD⟩
 clear H'
 obtain ⟨x5_1, x6_1, rfl, rfl, HA, HK1, ⟨m1, rfl⟩⟩ := hrel
 cases gk with
 | zero => exact absurd HA.out (by simp [spec_l01Sum.l0])
 | succ k1 =>
  have H := HA.out
  clear HA
  simp only [spec_l01Sum.l0] at H
  by_cases c3 : x6_1 < (l0.length : Int)
  rotate_left
  ·rw [if_neg c3] at H
   have c3b0 := decide_eq_false c3
   clear c3
   obtain rfl := Option.some.inj H
   go_wp2
   go_ret
   exact ⟨tS, tD⟩
  rw [if_pos c3] at H
  have c3b0 := decide_eq_true c3
  clear c3
  obtain ⟨ji4, hji4⟩ : ∃ j_ : Int, (IntKind.u64.wrap (x6_1)) = j_ := ⟨_, rfl⟩
  first | rw [hji4] at H | simp only [hji4] at H | skip
  by_cases c5 : 0 ≤ (ji4)
  rotate_left
  ·rw [if_neg c5] at H
   exact absurd H (by simp)
  rw [if_pos c5] at H
  have c5b0 := eq_true c5
  have c5b1 := decide_eq_true c5
  clear c5
  obtain ⟨ji6, hji6⟩ : ∃ j_ : Int, (shr .i64 a1 (ji4)) = j_ := ⟨_, rfl⟩
  first | rw [hji6] at H | simp only [hji6] at H | skip
  have hji6_ : (a1 / 2 ^ min (ji4).toNat 64) = ji6 := hji6
  have hji6z : (ji4) ≤ 64 → (a1 / 2 ^ (ji4).toNat) = ji6 := shr_small hji6
  by_cases c7 : (Go.bits .and .i64 (ji6) 1) = 1
  rotate_left
  ·rw [if_neg c7] at H
   have c7b0 := beq_eq_false_iff_ne.mpr c7
   have c7b1 := bne_iff_ne.mpr c7
   replace H' := Aq.mk H
   clear H
   go_wp2
   go_roundg k1
   case measure => have := HK1.out; omega
   case rel => exact ⟨(x5_1), (wrap64 (x6_1 + 1)), tS, tS, H', ⟨by have := HK1.out; omega⟩, tD⟩
  rw [if_pos c7] at H
  have c7b0 := beq_iff_eq.mpr c7
  have c7b1 := bne_eq_false_iff_eq.mpr c7
  clear c7
  by_cases c8 : 0 ≤ x6_1
  rotate_left
  ·rw [if_neg c8] at H
   exact absurd H (by simp)
  rw [if_pos c8] at H
  have c8b0 := decide_eq_true c8
  clear c8
  replace H' := Aq.mk H
  clear H
  have p113 : 0 ≤ (x6_1 : Int) := of_decide_eq_true tA
  have q113 : x6_1 < (l0.length : Int) := of_decide_eq_true tA
  obtain ⟨ad113, e113, hx113_0⟩ := Kd.at_int HR0.out x6_1 p113 q113
  cases e113
  replace p113 := eq_true p113
  replace q113 := eq_true q113
  go_wp2
  go_roundg k1
  case measure => have := HK1.out; omega
  case rel => exact ⟨(Go.bits .xor .i64 x5_1 (rd l0 x6_1)), (wrap64 (x6_1 + 1)), tS, tS, H', ⟨by have := HK1.out; omega⟩, tD⟩
def spec_l01Basis.l0 : Nat → List Int → Int → Int → Int → Option (Bool)
  | 0, _, _, _, _ => none
  | k + 1, x1, x5, x115000, x115001 => (spec_l01Size.f x115000 x115001).bind fun t115 => (if x5 < t115 then ((spec_l01Sum.f k x1 x5).bind fun t116 => (if t116 = 0 then (some false) else (spec_l01Basis.l0 k x1 (wrap64 (x5 + 1)) x115000 x115001))) else (some true))
def spec_l01Basis.f (k : Nat) (a0_0 : Int) (a0_1 : Int) (l1 : List Int) : Option (Bool) := if (l1.length : Int) = a0_0 then (spec_l01Basis.l0 k l1 1 a0_0 a0_1) else (some false)
theorem spec_l01Basis.mono_l : ∀ k, (∀ y0 y1 y2 y3, LeO (spec_l01Basis.l0 k y0 y1 y2 y3) (spec_l01Basis.l0 (k + 1) y0 y1 y2 y3))
 | 0 => fun _ _ _ _ r h => by simp [spec_l01Basis.l0] at h
 | k + 1 => by
  have ih0 := spec_l01Basis.mono_l k
  ·intro y0 y1 y2 y3
   unfold spec_l01Basis.l0
   repeat' first
   | (with_reducible first | apply ih0 | apply spec_l01Sum.mono | exact LeO.refl _ | exact LeO.none _ | refine LeO.ite ?_ ?_ | refine LeO.bind ?_ (fun _ => ?_))
   | exact LeO.none _
   | refine LeO.ite ?_ ?_
   | refine LeO.bind ?_ (fun _ => ?_)
theorem spec_l01Basis.mono : ∀ a0 a1 a2 k, LeO (spec_l01Basis.f k a0 a1 a2) (spec_l01Basis.f (k + 1) a0 a1 a2) := by
 intro a0 a1 a2 k
 have ih0 := spec_l01Basis.mono_l k
 unfold spec_l01Basis.f
 repeat' first
  | (with_reducible first | apply ih0 | apply spec_l01Sum.mono | exact LeO.refl _ | exact LeO.none _ | refine LeO.ite ?_ ?_ | refine LeO.bind ?_ (fun _ => ?_))
  | exact LeO.none _
  | refine LeO.ite ?_ ?_
  | refine LeO.bind ?_ (fun _ => ?_)
theorem spec_l01Basis.calls (k : Nat) (a0_0 : Int) (a0_1 : Int) (A1 : Option Addr) (c1 : Nat) (l1 : List Int) (r : Bool) (w : World) (hr1 : Kd.C (Kd.int .i64) w A1 l1.length l1) (hc1 : l1.length ≤ c1) (h : spec_l01Basis.f k a0_0 a0_1 l1 = some r) :
 Calls Try.prog 30 #[.agg #[.int .i64 a0_0, .int .i64 a0_1], .slice A1 l1.length c1] w fun e w' => e = .returned (.bool r) ∧ Below w.heap.size w w' := by
 have hu26 := Try.underlying26
 have HR1 := Aq.mk hr1
 have HC1 := Aq.mk hc1
 clear hr1 hc1
 have HB := Aq.mk (Below.refl w.heap.size w)
 have H : (if (l1.length : Int) = a0_0 then (spec_l01Basis.l0 k l1 1 a0_0 a0_1) else (some false)) = some r := h
 clear h
 by_cases c3 : (l1.length : Int) = a0_0
 rotate_left
 ·rw [if_neg c3] at H
  have c3b0 := beq_eq_false_iff_ne.mpr c3
  have c3b1 := bne_iff_ne.mpr c3
  obtain rfl := Option.some.inj H
  go_enter Try.func30, Try.ntmps30
  go_wp2_with (first | ((with_reducible refine gQd (N := 2) rfl ?_); refine xQe ?hg (N := 2) ?hd (cs := #[.int .i64 a0_0, .int .i64 a0_1]) (t := 26) ?hr ?_; (case hd => rfl); (case hg => rfl); (case hr => exact tH); intro gb114 hg w16 hbox hb; refine qM4 (bQT tB hb) hbox (tZ w hg) (tZ w hg) ?_; clear HB; intro HB BK114 GW114 GE114; clear hb hbox hg; have hcz17_0 : w16.cell? ⟨gb114, 0, none⟩ = some (.int .i64 a0_0) := (kQC BK114.out 0).trans rfl; have hcz17_1 : w16.cell? ⟨gb114, 1, none⟩ = some (.int .i64 a0_1) := (kQC BK114.out 1).trans rfl; have hfz17_0 := kQF BK114.out 0; have hfz17_1 := kQF BK114.out 1))
  go_ret
  exact ⟨tE, tB⟩
 rw [if_pos c3] at H
 have c3b0 := beq_iff_eq.mpr c3
 have c3b1 := bne_eq_false_iff_eq.mpr c3
 clear c3
 replace H' := Aq.mk H
 clear H
 go_enter Try.func30, Try.ntmps30
 go_wp2_with (first | ((with_reducible refine gQd (N := 2) rfl ?_); refine xQe ?hg (N := 2) ?hd (cs := #[.int .i64 a0_0, .int .i64 a0_1]) (t := 26) ?hr ?_; (case hd => rfl); (case hg => rfl); (case hr => exact tH); intro gb114 hg w4 hbox hb; refine qM4 (bQT tB hb) hbox (tZ w hg) (tZ w hg) ?_; clear HB; intro HB BK114 GW114 GE114; clear hb hbox hg; have hcz5_0 : w4.cell? ⟨gb114, 0, none⟩ = some (.int .i64 a0_0) := (kQC BK114.out 0).trans rfl; have hcz5_1 : w4.cell? ⟨gb114, 1, none⟩ = some (.int .i64 a0_1) := (kQC BK114.out 1).trans rfl; have hfz5_0 := kQF BK114.out 0; have hfz5_1 := kQF BK114.out 1))
 go_loopg [5] k (fun kq v5 w' => ∃ (x5_1 : Int), v5 = .int .i64 x5_1 ∧ Aq (spec_l01Basis.l0 kq l1 x5_1 a0_0 a0_1 = some r) ∧ Aq (kq ≤ k) ∧ Aq (w'.heap[gb114]? = some (.cells #[.int .i64 a0_0, .int .i64 a0_1] 26 (0, 0))) ∧ Aq (Below w.heap.size w w'))
 case atStart => exact ⟨(1), tS, H', ⟨Nat.le_refl _⟩, ⟨tG BK114.out⟩, ⟨tB⟩⟩
 clear H'
 try clear c1
 try clear c3
 try clear c3b0
 try clear c3b1
 try clear hcz5_0
 try clear hcz5_1
 try clear hfz5_0
 try clear hfz5_1
 obtain ⟨x5_1, rfl, HA, HK1, BK114, HB⟩ := hrel
 cases gk with
 | zero => exact absurd HA.out (by simp [spec_l01Basis.l0])
 | succ k1 =>
  have H := HA.out
  clear HA
  simp only [spec_l01Basis.l0] at H
  obtain ⟨t115, A6, H⟩ := qBd H
  by_cases c7 : x5_1 < t115
  rotate_left
  ·rw [if_neg c7] at H
   have c7b0 := decide_eq_false c7
   clear c7
   obtain rfl := Option.some.inj H
   have hcz14_0 : wr.cell? ⟨gb114, 0, none⟩ = some (.int .i64 a0_0) := (kQC BK114.out 0).trans rfl
   have hcz14_1 : wr.cell? ⟨gb114, 1, none⟩ = some (.int .i64 a0_1) := (kQC BK114.out 1).trans rfl
   have hfz14_0 := kQF BK114.out 0
   have hfz14_1 := kQF BK114.out 1
   go_wp2_with (first | ((with_reducible refine gQc (f := 36) rfl ?_); refine goesL_ (some 13) rfl rfl Try.func36 (by kernel_rfl) rfl #[.agg #[.int .i64 a0_0, .int .i64 a0_1]] rfl tL ?_; (with_reducible refine (spec_l01Size.calls a0_0 a0_1 t115 _ A6.out).mono ?_); rintro e w15 ⟨rfl, hb⟩; refine ⟨_, rfl, ?_⟩; refine qM2 (tQ BK114.out hb) (bQT tB hb) ?_; clear BK114 HB; intro BK114 HB; (try clear hb); (try clear hb2); (try clear hk); (try clear hi)))
   go_ret
   exact ⟨tE, tB⟩
  rw [if_pos c7] at H
  have c7b0 := decide_eq_true c7
  clear c7
  obtain ⟨t116, A8, H⟩ := qBd H
  by_cases c9 : t116 = 0
  ·rw [if_pos c9] at H
   have c9b0 := beq_iff_eq.mpr c9
   have c9b1 := bne_eq_false_iff_eq.mpr c9
   clear c9
   obtain rfl := Option.some.inj H
   have hcz10_0 : wr.cell? ⟨gb114, 0, none⟩ = some (.int .i64 a0_0) := (kQC BK114.out 0).trans rfl
   have hcz10_1 : wr.cell? ⟨gb114, 1, none⟩ = some (.int .i64 a0_1) := (kQC BK114.out 1).trans rfl
   have hfz10_0 := kQF BK114.out 0
   have hfz10_1 := kQF BK114.out 1
   go_wp2_with (first | ((with_reducible refine gQc (f := 36) rfl ?_); refine goesL_ (some 13) rfl rfl Try.func36 (by kernel_rfl) rfl #[.agg #[.int .i64 a0_0, .int .i64 a0_1]] rfl tL ?_; (with_reducible refine (spec_l01Size.calls a0_0 a0_1 t115 _ A6.out).mono ?_); rintro e w11 ⟨rfl, hb⟩; refine ⟨_, rfl, ?_⟩; refine qM2 (tQ BK114.out hb) (bQT tB hb) ?_; clear BK114 HB; intro BK114 HB; (try clear hb); (try clear hb2); (try clear hk); (try clear hi)) | ((with_reducible refine gQc (f := 45) rfl ?_); refine goesL_ (some 19) rfl rfl Try.func45 (by kernel_rfl) rfl #[.slice A1 l1.length c1, .int .i64 x5_1] rfl tL ?_; (with_reducible refine (spec_l01Sum.calls k1 _ _ l1 x5_1 t116 _ ?s1 ?s2 A8.out).mono ?_); (case s1 => exact tC ((Kd.C_below HR1.out HB.out))); (case s2 => exact HC1.out); rintro e w' ⟨rfl, ⟨nd, rfl⟩⟩; refine ⟨_, rfl, ?_⟩))
   go_ret
   exact ⟨tE, tB⟩
  rw [if_neg c9] at H
  have c9b0 := beq_eq_false_iff_ne.mpr c9
  have c9b1 := bne_iff_ne.mpr c9
  replace H' := Aq.mk H
  clear H
  have hcz12_0 : wr.cell? ⟨gb114, 0, none⟩ = some (.int .i64 a0_0) := (kQC BK114.out 0).trans rfl
  have hcz12_1 : wr.cell? ⟨gb114, 1, none⟩ = some (.int .i64 a0_1) := (kQC BK114.out 1).trans rfl
  have hfz12_0 := kQF BK114.out 0
  have hfz12_1 := kQF BK114.out 1
  go_wp2_with (first | ((with_reducible refine gQc (f := 36) rfl ?_); refine goesL_ (some 13) rfl rfl Try.func36 (by kernel_rfl) rfl #[.agg #[.int .i64 a0_0, .int .i64 a0_1]] rfl tL ?_; (with_reducible refine (spec_l01Size.calls a0_0 a0_1 t115 _ A6.out).mono ?_); rintro e w13 ⟨rfl, hb⟩; refine ⟨_, rfl, ?_⟩; refine qM2 (tQ BK114.out hb) (bQT tB hb) ?_; clear BK114 HB; intro BK114 HB; (try clear hb); (try clear hb2); (try clear hk); (try clear hi)) | ((with_reducible refine gQc (f := 45) rfl ?_); refine goesL_ (some 19) rfl rfl Try.func45 (by kernel_rfl) rfl #[.slice A1 l1.length c1, .int .i64 x5_1] rfl tL ?_; (with_reducible refine (spec_l01Sum.calls k1 _ _ l1 x5_1 t116 _ ?s1 ?s2 A8.out).mono ?_); (case s1 => exact tC ((Kd.C_below HR1.out HB.out))); (case s2 => exact HC1.out); rintro e w' ⟨rfl, ⟨nd, rfl⟩⟩; refine ⟨_, rfl, ?_⟩))
  go_roundg k1
  case measure => have := HK1.out; omega
  case rel => exact ⟨(wrap64 (x5_1 + 1)), tS, H', ⟨by have := HK1.out; omega⟩, ⟨tG BK114.out⟩, ⟨tB⟩⟩
def impl_size_int64.f (l0 : List Int) : Option (Int) := some (l0.length : Int)
theorem impl_size_int64.calls (A0 : Option Addr) (c0 : Nat) (l0 : List Int) (r : Int) (w : World) (hr0 : Kd.C (Kd.int .i64) w A0 l0.length l0) (hc0 : l0.length ≤ c0) (h : impl_size_int64.f l0 = some r) :
 Calls Try.prog 65 #[.slice A0 l0.length c0] w fun e w' => e = .returned (.int .i64 r) ∧ Dq w w' := by
 have HR0 := Aq.mk hr0
 have HC0 := Aq.mk hc0
 clear hr0 hc0
 have H : (some (l0.length : Int)) = some r := h
 clear h
 obtain rfl := Option.some.inj H
 go_enter Try.func65, Try.ntmps65
 go_wp2
 go_ret
 exact ⟨tS, tD⟩
def impl_sumOf.l0 : Nat → Int → Int → List Int → Int → Int → Option (Int)
  | 0, _, _, _, _, _ => none
  | k + 1, x1, x5, x8, x9, x10 => if x10 < x9 then (if 0 ≤ x10 then (if x10 < (x8.length : Int) then (if (Go.bits .and .i64 (shr .i64 x1 x10) 1) = 1 then (impl_sumOf.l0 k x1 (Go.bits .xor .i64 x5 (rd x8 x10)) x8 x9 (wrap64 (x10 + 1))) else (impl_sumOf.l0 k x1 x5 x8 x9 (wrap64 (x10 + 1)))) else (none)) else (none)) else (some x5)
def impl_sumOf.f (k : Nat) (l0 : List Int) (a1 : Int) : Option (Int) := impl_sumOf.l0 k a1 0 l0 (l0.length : Int) 0
theorem impl_sumOf.mono_l : ∀ k, (∀ y0 y1 y2 y3 y4, LeO (impl_sumOf.l0 k y0 y1 y2 y3 y4) (impl_sumOf.l0 (k + 1) y0 y1 y2 y3 y4))
 | 0 => fun _ _ _ _ _ r h => by simp [impl_sumOf.l0] at h
 | k + 1 => by
  have ih0 := impl_sumOf.mono_l k
  ·intro y0 y1 y2 y3 y4
   unfold impl_sumOf.l0
   repeat' first
   | (with_reducible first | apply ih0 | exact LeO.refl _ | exact LeO.none _ | refine LeO.ite ?_ ?_ | refine LeO.bind ?_ (fun _ => ?_))
   | exact LeO.none _
   | refine LeO.ite ?_ ?_
   | refine LeO.bind ?_ (fun _ => ?_)
theorem impl_sumOf.mono : ∀ a0 a1 k, LeO (impl_sumOf.f k a0 a1) (impl_sumOf.f (k + 1) a0 a1) := by
 intro a0 a1 k
 have ih0 := impl_sumOf.mono_l k
 unfold impl_sumOf.f
 repeat' first
  | (with_reducible first | apply ih0 | exact LeO.refl _ | exact LeO.none _ | refine LeO.ite ?_ ?_ | refine LeO.bind ?_ (fun _ => ?_))
  | exact LeO.none _
  | refine LeO.ite ?_ ?_
  | refine LeO.bind ?_ (fun _ => ?_)
theorem impl_sumOf.calls (k : Nat) (A0 : Option Addr) (c0 : Nat) (l0 : List Int) (a1 : Int) (r : Int) (w : World) (hr0 : Kd.C (Kd.int .i64) w A0 l0.length l0) (hc0 : l0.length ≤ c0) (h : impl_sumOf.f k l0 a1 = some r) :
 Calls Try.prog 67 #[.slice A0 l0.length c0, .int .i64 a1] w fun e w' => e = .returned (.int .i64 r) ∧ Dq w w' := by
 have HR0 := Aq.mk hr0
 have HC0 := Aq.mk hc0
 clear hr0 hc0
 have H : (impl_sumOf.l0 k a1 0 l0 (l0.length : Int) 0) = some r := h
 clear h
 replace H' := Aq.mk H
 clear H
 go_enter Try.func67, Try.ntmps67
 go_wp2
 go_loopg [5, 10] k (fun kq v5 v10 w' => ∃ (x5_1 : Int) (x10_1 : Int), v5 = .int .i64 x5_1 ∧ v10 = .int .i64 x10_1 ∧ Aq (impl_sumOf.l0 kq a1 x5_1 l0 (l0.length : Int) x10_1 = some r) ∧ Aq (kq ≤ k) ∧ Dq w w')
 case atStart => exact ⟨(0), (0), tS, tS, H', ⟨Nat.le_refl _⟩, tD⟩
 clear H'
 obtain ⟨x5_1, x10_1, rfl, rfl, HA, HK1, ⟨m1, rfl⟩⟩ := hrel
 cases gk with
 | zero => exact absurd HA.out (by simp [impl_sumOf.l0])
 | succ k1 =>
  have H := HA.out
  clear HA
  simp only [impl_sumOf.l0] at H
  by_cases c3 : x10_1 < (l0.length : Int)
  rotate_left
  ·rw [if_neg c3] at H
   have c3b0 := decide_eq_false c3
   clear c3
   obtain rfl := Option.some.inj H
   go_wp2
   go_ret
   exact ⟨tS, tD⟩
  rw [if_pos c3] at H
  have c3b0 := decide_eq_true c3
  clear c3
  by_cases c4 : 0 ≤ x10_1
  rotate_left
  ·rw [if_neg c4] at H
   exact absurd H (by simp)
  rw [if_pos c4] at H
  have c4b0 := decide_eq_true c4
  clear c4
  by_cases c5 : x10_1 < (l0.length : Int)
  rotate_left
  ·rw [if_neg c5] at H
   exact absurd H (by simp)
  rw [if_pos c5] at H
  have c5b0 := decide_eq_true c5
  clear c5
  have c6b0 := eq_true (of_decide_eq_true tA : 0 ≤ x10_1)
  obtain ⟨ji7, hji7⟩ : ∃ j_ : Int, (shr .i64 a1 x10_1) = j_ := ⟨_, rfl⟩
  first | rw [hji7] at H | simp only [hji7] at H | skip
  have hji7_ : (a1 / 2 ^ min x10_1.toNat 64) = ji7 := hji7
  have hji7z : x10_1 ≤ 64 → (a1 / 2 ^ x10_1.toNat) = ji7 := shr_small hji7
  by_cases c8 : (Go.bits .and .i64 (ji7) 1) = 1
  ·rw [if_pos c8] at H
   have c8b0 := beq_iff_eq.mpr c8
   have c8b1 := bne_eq_false_iff_eq.mpr c8
   clear c8
   replace H' := Aq.mk H
   clear H
   have p158 : 0 ≤ (x10_1 : Int) := of_decide_eq_true tA
   have q158 : x10_1 < (l0.length : Int) := of_decide_eq_true tA
   obtain ⟨ad158, e158, hx158_0⟩ := Kd.at_int HR0.out x10_1 p158 q158
   cases e158
   replace p158 := eq_true p158
   replace q158 := eq_true q158
   go_wp2
   go_roundg k1
   case measure => have := HK1.out; omega
   case rel => exact ⟨(Go.bits .xor .i64 x5_1 (rd l0 x10_1)), (wrap64 (x10_1 + 1)), tS, tS, H', ⟨by have := HK1.out; omega⟩, tD⟩
  rw [if_neg c8] at H
  have c8b0 := beq_eq_false_iff_ne.mpr c8
  have c8b1 := bne_iff_ne.mpr c8
  replace H' := Aq.mk H
  clear H
  have p158 : 0 ≤ (x10_1 : Int) := of_decide_eq_true tA
  have q158 : x10_1 < (l0.length : Int) := of_decide_eq_true tA
  obtain ⟨ad158, e158, hx158_0⟩ := Kd.at_int HR0.out x10_1 p158 q158
  cases e158
  replace p158 := eq_true p158
  replace q158 := eq_true q158
  go_wp2
  go_roundg k1
  case measure => have := HK1.out; omega
  case rel => exact ⟨(x5_1), (wrap64 (x10_1 + 1)), tS, tS, H', ⟨by have := HK1.out; omega⟩, tD⟩
def SetM (P : Program) (k e : TypeId) (w : World) (b : Nat) (S : List Int) : Prop :=
  ∃ D : DataW Unit, w.ownsMap P k (plainElem P e) b S.length D ∧ Maps.IsMap D ∧ ∀ a : Int, (Lit.int .i64 a).wf = true → D.atKey (.int .i64 a) (.lit (.bool false)) = .lit (.bool (S.contains a))
theorem SetM.made (P : Program) (k e : TypeId) (w : World) : SetM P k e (w.alloc (.map #[] 0)) w.heap.size [] :=
 ⟨.map [], World.ownsMap_made w P k _, Maps.isMap_empty, fun _ _ => rfl⟩
theorem SetM.lt {P : Program} {k e : TypeId} {w : World} {b : Nat} {S : List Int} (h : SetM P k e w b S) : b < w.heap.size := let ⟨_, h, _⟩ := h; h.lt
theorem SetM.below {P : Program} {k e : TypeId} {w W : World} {b : Nat} {S : List Int} (h : SetM P k e w b S) (hb : Below w.heap.size w W) : SetM P k e W b S := by
 obtain ⟨D, hD, h2⟩ := h
 exact ⟨D, hD.kept (row := none) ⟨hb.os, hb.tape, hb.output, hb.size, fun k hk _ => hb.block k hk⟩ (by simp), h2⟩
theorem SetM.grown {P : Program} {k e : TypeId} {w W : World} {b : Nat} {S : List Int} {row : Option Nat} (h : SetM P k e w b S) (hg : w.grownBy W row) (hne : some b ≠ row) : SetM P k e W b S := by
 obtain ⟨D, hD, h2⟩ := h
 exact ⟨D, hD.kept hg hne, h2⟩
theorem SetM.look {P : Program} {ops : Array Oper} {rest : List Oper} {o : Oper} {a : Act} {Q : Exit → Act → World → Prop} {W : World} (hgd : o.guard = none) (m x : Operand) (t : TypeId) (hop : o.op = Op.lookup t m x false) {k e : TypeId}
 (hk : P.underlying k = some (.int .i64)) (ht : P.underlying t = some (.map k e)) (he : P.underlying e = some .bool) (hz : ∀ w, (zeroValue e).run P w = .ok (.bool false) w) {b : Nat} {S : List Int} (hm : a.eval m = .map (some b)) (hs : SetM P k e W b S) {c : Int} (hx : a.eval x = .int .i64 c)
 (hc : (Lit.int .i64 c).wf = true) (h : wpList P ops Q rest (a.put o.dst (.bool (S.contains c))) W) : wpList P ops Q (o :: rest) a W := by
 obtain ⟨D, hD, _, h2⟩ := hs
 have hkey : keyOf P k (.int .i64 c) = some (.int .i64 c) := by simp [keyOf, mapKey, hk, hc]
 obtain ⟨v, ps, hrun, hv⟩ := hD.lookup (Maps.int_keyed hk) ht (hz W) (plainElem_bool he false) hkey
 rw [h2 c hc] at hv
 have hv' : v = .bool (S.contains c) := by
  unfold plainElem at hv
  rw [he] at hv
  cases v <;> simp at hv
  rw [hv.1]; simp
 subst hv'
 refine wpList_plain hgd fun K' hK' => ?_
 unfold Oper.wp
 simp only [execOp, hop, hm, hx]
 simp [hrun, Result.andThen]
 have h' := h
 simp only [List.contains_eq_mem] at h'
 exact hK' _ _ h'
theorem SetM.put {P : Program} {ops : Array Oper} {rest : List Oper} {o : Oper} {a : Act} {Q : Exit → Act → World → Prop} {W : World} (hgd : o.guard = none) (m x v : Operand) (t : TypeId) (hop : o.op = Op.mapUpdate t m x v) {k e : TypeId}
 (hk : P.underlying k = some (.int .i64)) (ht : P.underlying t = some (.map k e)) (he : P.underlying e = some .bool) {b : Nat} {S : List Int} (hm : a.eval m = .map (some b)) (hs : SetM P k e W b S) {c : Int} (hx : a.eval x = .int .i64 c) (hv : a.eval v = .bool true)
 (hc : (Lit.int .i64 c).wf = true) (hl : S.length < 1000000) (h : ∀ w', SetM P k e w' b (c :: S) → W.grownBy w' (some b) → wpList P ops Q rest (a.put o.dst undef) w') : wpList P ops Q (o :: rest) a W := by
 obtain ⟨D, hD, hi, h2⟩ := hs
 have hkey : keyOf P k (.int .i64 c) = some (.int .i64 c) := by simp [keyOf, mapKey, hk, hc]
 refine wpList_mapUpdate_own W hgd m x v t hop k e (Maps.int_keyed hk) ht _ b S.length D hm hD (Nat.lt_trans hl (by decide)) _ _ _ hx hv hkey _ _ (plainElem_bool he true) (fun w' h1 hg => h w' ⟨_, h1, hi.put _ _, fun a ha => ?_⟩ hg)
 by_cases e : a = c
 ·subst e
  rw [Maps.atKey_put_same hi (by simp [WideAt.IsKeyLit])]
  simp
 rw [Maps.atKey_put_other (by intro z; injection z with _ z; exact e z), h2 a ha]
 simp [e]
theorem SetM.drew {P : Program} {k e : TypeId} {w : World} {b : Nat} {S : List Int} (h : SetM P k e w b S) : SetM P k e w.drew b S := h
theorem SetM.drewN {P : Program} {k e : TypeId} {w : World} {b : Nat} {S : List Int} (h : SetM P k e w b S) (n : Nat) : SetM P k e (w.drewN n) b S := h
theorem SetM.alloc {P : Program} {k e : TypeId} {w : World} {b : Nat} {S : List Int} (h : SetM P k e w b S) (o : Obj) : SetM P k e (w.alloc o) b S := let ⟨D, hD, h2⟩ := h; ⟨D, hD.alloc o, h2⟩
theorem SetM.ne {P : Program} {k e : TypeId} {w : World} {b : Nat} {S : List Int} (h : SetM P k e w b S) {e' base : Nat} {ik : IntKind} {ok : Nat → Prop} {v : Value} {xs : List Int} (HO : Kd.R (Kd.int ik) e' w base ok v xs) : some b ≠ v.ownBlock := by
 obtain ⟨D, ⟨es, clock, hb, _⟩, _⟩ := h
 obtain ⟨_, hrow⟩ := Kd.own_of_R HO
 rcases hrow with ⟨rfl, _⟩ | ⟨g, cap, cur, rfl, _, hg2, _⟩
 ·simp [Value.ownBlock]
 intro z
 have z' : b = g := by simpa [Value.ownBlock] using z
 subst z'
 rw [hg2] at hb
 cases hb
theorem R_grown_int {w W : World} {e base : Nat} {ik : IntKind} {ok : Nat → Prop} {v : Value} {xs : List Int} {row : Option Nat} (HO : Kd.R (Kd.int ik) e w base ok v xs) (hg : w.grownBy W row) (hne : row ≠ v.ownBlock) : Kd.R (Kd.int ik) e W base ok v xs :=
 Kd.R_of_own (h1 := fun _ => rfl) ((Kd.own_of_R HO).kept hg (.inr (fun z => hne z.symm))) HO.1
theorem zero_of {P : Program} {e : TypeId} {z : Value} {s b : Nat} (h : (P.info? e).map (fun i => (i.zero, i.size, i.bytes)) = some (some z, s, b)) : ∀ w, (zeroValue e).run P w = .ok z w := by
 intro w
 cases hq : P.info? e with
 | none => simp [hq] at h
 | some i =>
  simp [hq] at h
  simp [zeroValue, typeInfo, hq, h.1]
theorem wf_small {c : Int} {n : Nat} (h0 : 0 ≤ c) (h1 : c < (n : Int)) (hn : n ≤ 35184372088832) : (Lit.int .i64 c).wf = true := by
 have e1 : IntKind.i64.min = -9223372036854775808 := by decide
 have e2 : IntKind.i64.max = 9223372036854775807 := by decide
 simp [Lit.wf, e1, e2]
 omega
theorem nil_q {P : Program} {t e : Nat} (ht : P.underlying t = some (.slice e)) {v : Value} {r : List Int} {e' base : Nat} {ok : Nat → Prop} {w : World} (ho : Kd.R (Kd.int .i64) e' w base ok v r) (hn : r = [] → v = .slice none 0 0) : ∀ (W : World) (n' c' : Nat), (binOp .eql t v (.slice none n' c')).run P W = .ok (.bool ((r.length : Int) == 0)) W := by
 intro W n' c'
 by_cases h : r = []
 ·rw [hn h, h]; exact Lib.run_eql_slice_nil W t e none 0 0 n' c' ht
 have hl : 0 < r.length := List.length_pos_iff.mpr h
 obtain ⟨g, c, rfl, _⟩ := Kd.R_form ho hl
 have e1 : ((r.length : Int) == 0) = false := beq_eq_false_iff_ne.mpr (by omega)
 rw [e1]; exact Lib.run_eql_slice_nil W t e _ _ _ n' c' ht
theorem nil_g {P : Program} {t : Nat} {v : Value} {r : List Int} {e' base : Nat} {ok : Nat → Prop} {w : World} (ho : Kd.R (Kd.int .i64) e' w base ok v r) : ∀ (x y : Operand) (n' c' : Nat) (W : World), (eqGuard .eql t x y v (.slice none n' c')).run P W = .ok () W := by
  obtain ⟨A, c, rfl⟩ := Kd.R_slice ho
  intro x y n' c' W
  simp [eqGuard]
def impl_Field_coordinates.l0 : Nat → List Int → List Int → List Int → Int → Int → Option (List Int)
  | 0, _, _, _, _, _ => none
  | k + 1, x1, x5, x6, x19, x20 => if x20 < x19 then ((impl_sumOf.f k x1 x20).bind fun t25 => (if 0 ≤ t25 then (if t25 < (x5.length : Int) then (if (x6.contains t25) = true then (some ([] : List Int)) else (if x6.length < 1000000 then (impl_Field_coordinates.l0 k x1 (x5.set (t25 : Int).toNat x20) (t25 :: x6) x19 (wrap64 (x20 + 1))) else (none))) else (none)) else (none))) else (some x5)
def impl_Field_coordinates.f (k : Nat) (a0_0 : Int) (a0_1 : Int) (l1 : List Int) : Option (List Int) := if (l1.length : Int) = a0_0 then ((impl_Field_count.f a0_0 a0_1).bind fun t15 => (if 0 < t15 then (if (t15 : Int).toNat ≤ 35184372088832 then (impl_Field_coordinates.l0 k l1 (List.replicate (t15 : Int).toNat 0) [] t15 0) else (none)) else (none))) else (some ([] : List Int))
theorem impl_Field_coordinates.mono_l : ∀ k, (∀ y0 y1 y2 y3 y4, LeO (impl_Field_coordinates.l0 k y0 y1 y2 y3 y4) (impl_Field_coordinates.l0 (k + 1) y0 y1 y2 y3 y4))
 | 0 => fun _ _ _ _ _ r h => by simp [impl_Field_coordinates.l0] at h
 | k + 1 => by
  have ih0 := impl_Field_coordinates.mono_l k
  intro y0 y1 y2 y3 y4
  unfold impl_Field_coordinates.l0
  repeat' first
   | (with_reducible first | first | apply ih0 | apply impl_sumOf.mono | exact LeO.refl _ | exact LeO.none _ | refine LeO.ite ?_ ?_ | refine LeO.bind ?_ (fun _ => ?_))
   | exact LeO.none _
   | refine LeO.ite ?_ ?_
   | refine LeO.bind ?_ (fun _ => ?_)
theorem impl_Field_coordinates.mono : ∀ a0 a1 a2 k, LeO (impl_Field_coordinates.f k a0 a1 a2) (impl_Field_coordinates.f (k + 1) a0 a1 a2) := by
 intro a0 a1 a2 k
 have ih0 := impl_Field_coordinates.mono_l k
 unfold impl_Field_coordinates.f
 repeat' first
  | (with_reducible first | first | apply ih0 | exact LeO.refl _ | exact LeO.none _ | refine LeO.ite ?_ ?_ | refine LeO.bind ?_ (fun _ => ?_))
  | exact LeO.none _
  | refine LeO.ite ?_ ?_
  | refine LeO.bind ?_ (fun _ => ?_)
theorem impl_Field_coordinates.calls_nil (k : Nat) (a0_0 : Int) (a0_1 : Int) (A1 : Option Addr) (c1 : Nat) (l1 : List Int) (r : List Int) (w : World) (hr1 : Kd.C (Kd.int .i64) w A1 l1.length l1) (hc1 : l1.length ≤ c1) (h : impl_Field_coordinates.f k a0_0 a0_1 l1 = some r) :
 Calls Try.prog 33 #[.agg #[.int .i64 a0_0, .int .i64 a0_1], .slice A1 l1.length c1] w fun e w' => ∃ v0_ : Value, e = .returned (v0_) ∧ (r = [] → v0_ = .slice none 0 0) ∧ Kd.R (Kd.int .i64) 2 w' w.heap.size (fun _ => True) v0_ r ∧ Below w.heap.size w w' := by
 have hu26 := Try.underlying26
 have HR1 := Aq.mk hr1
 have HC1 := Aq.mk hc1
 clear hr1 hc1
 have HB := Aq.mk (Below.refl w.heap.size w)
 have hs : impl_size_int64.f l1 = some (l1.length : Int) := rfl
 have HS := Aq.mk hs
 clear hs
 have H : (if (l1.length : Int) = a0_0 then ((impl_Field_count.f a0_0 a0_1).bind fun t15 => (if 0 < t15 then (if (t15 : Int).toNat ≤ 35184372088832 then (impl_Field_coordinates.l0 k l1 (List.replicate (t15 : Int).toNat 0) [] t15 0) else (none)) else (none))) else (some ([] : List Int))) = some r := h
 clear h
 by_cases c2 : (l1.length : Int) = a0_0
 rotate_left
 ·rw [if_neg c2] at H
  have c2b0 := beq_eq_false_iff_ne.mpr c2
  have c2b1 := bne_iff_ne.mpr c2
  clear c2
  obtain rfl := Option.some.inj H
  clear H
  go_enter Try.func33, Try.ntmps33
  go_wp2_with (first | ((with_reducible refine gQd (N := 2) rfl ?_); refine xQe ?hg (N := 2) ?hd (cs := #[.int .i64 a0_0, .int .i64 a0_1]) (t := 26) ?hr ?_; (case hd => rfl); (case hg => rfl); (case hr => exact tH); intro gb208 hg w3 hbox hb; refine qM3 (bQT tB hb) hbox (tZ w hg) ?_; clear HB; intro HB BK208 GW208; clear hb hbox hg; have hcz6_0 : w3.cell? ⟨gb208, 0, none⟩ = some (.int .i64 a0_0) := (kQC BK208.out 0).trans rfl; have hcz6_1 : w3.cell? ⟨gb208, 1, none⟩ = some (.int .i64 a0_1) := (kQC BK208.out 1).trans rfl; have hfz6_0 := kQF BK208.out 0; have hfz6_1 := kQF BK208.out 1))
  go_quiet (first | (go_at_call 65; (with_reducible refine (impl_size_int64.calls _ _ l1 _ _ ?s1 ?s2 HS.out).mono ?_); (case s1 => (exact tC ((Kd.C_below HR1.out HB.out)))); (case s2 => exact HC1.out); rintro e w' ⟨rfl, ⟨nd, rfl⟩⟩; (try exact tW)))
  go_wp2
  go_ret
  exact ⟨.slice none 0 0, by first | rfl | (simp; done), by first | exact fun _ => rfl | exact rfl, Kd.R_nil _ _ _ _ _, tB⟩
 rw [if_pos c2] at H
 have c2b0 := beq_iff_eq.mpr c2
 have c2b1 := bne_eq_false_iff_eq.mpr c2
 clear c2
 obtain ⟨t15, A2, H⟩ := qBd H
 by_cases c3 : 0 < t15
 rotate_left
 ·rw [if_neg c3] at H
  exact absurd H (by simp)
 rw [if_pos c3] at H
 have c3b1 : decide (0 ≤ t15) = true := decide_eq_true (by omega)
 have HP15 := Aq.mk c3
 clear c3
 by_cases c4 : (t15 : Int).toNat ≤ 35184372088832
 rotate_left
 ·rw [if_neg c4] at H
  exact absurd H (by simp)
 rw [if_pos c4] at H
 have c4b1 := decide_eq_true c4
 clear c4
 replace H' := Aq.mk H
 clear H
 go_enter Try.func33, Try.ntmps33
 go_wp2_with (first | ((with_reducible refine gQd (N := 2) rfl ?_); refine xQe ?hg (N := 2) ?hd (cs := #[.int .i64 a0_0, .int .i64 a0_1]) (t := 26) ?hr ?_; (case hd => rfl); (case hg => rfl); (case hr => exact tH); intro gb208 hg w3 hbox hb; refine qM3 (bQT tB hb) hbox (tZ w hg) ?_; clear HB; intro HB BK208 GW208; clear hb hbox hg; have hcz6_0 : w3.cell? ⟨gb208, 0, none⟩ = some (.int .i64 a0_0) := (kQC BK208.out 0).trans rfl; have hcz6_1 : w3.cell? ⟨gb208, 1, none⟩ = some (.int .i64 a0_1) := (kQC BK208.out 1).trans rfl; have hfz6_0 := kQF BK208.out 0; have hfz6_1 := kQF BK208.out 1))
 go_quiet (first | (go_at_call 65; (with_reducible refine (impl_size_int64.calls _ _ l1 _ _ ?s1 ?s2 HS.out).mono ?_); (case s1 => (exact tC ((Kd.C_below HR1.out HB.out)))); (case s2 => exact HC1.out); rintro e w' ⟨rfl, ⟨nd, rfl⟩⟩; (try exact tW)))
 obtain ⟨y5, hy5⟩ : ∃ y_ : List Int, y_ = List.replicate (t15 : Int).toNat 0 := ⟨_, rfl⟩
 have H1 := H'.out
 clear H'
 rw [← hy5] at H1
 have H' := Aq.mk H1
 clear H1
 have Ny5 := Aq.mk hy5
 clear hy5
 have hmm := @run_makeMap Try.prog
 go_wp2_with (first | ((with_reducible refine gQc (f := 66) rfl ?_); refine goesL_ (some 15) rfl rfl Try.func66 (by kernel_rfl) rfl #[.agg #[.int .i64 a0_0, .int .i64 a0_1]] rfl tL ?_; (with_reducible refine (impl_Field_count.calls a0_0 a0_1 t15 _ A2.out).mono ?_); rintro e w7 ⟨rfl, hb⟩; refine ⟨_, rfl, ?_⟩; have n1_ := Aq.mk (tQ BK208.out hb); have n2_ := Aq.mk (bQT tB hb); clear BK208; clear HB; have BK208 := n1_; have HB := n2_; clear n1_ n2_; (try clear hb)) | ((with_reducible refine gQd (N := 16) rfl ?_); refine Kd.R_make (Kd.int .i64) _ 2 rfl (N := 16) rfl 29 _ _ rfl t15 rfl rfl Try.underlying29 (.int .i64 0) 8 info2 rfl (by decide) (by omega) 0 (ok := fun _ => True) (okp := fun _ => True) rfl (fun _ hk => hk) trivial (of_decide_eq_true tA) (Nat.le_trans (Nat.mul_le_mul_right _ (of_decide_eq_true tA : (t15 : Int).toNat ≤ 35184372088832)) (by omega)) (Below.refl _ _) (Nat.le_refl _) ?_; intro v16 w8 ho5 hb hg_ hnew_; clear hg_ hnew_; (first | rw [← Ny5.out] at ho5 | (simp only [Int.reduceToNat] at ho5; rw [← Ny5.out] at ho5)); refine qM3 (Kd.R_lower ho5 (bQZ tB)) (tQ BK208.out hb) (bQT tB hb) ?_; clear BK208 HB; intro HO5 BK208 HB; clear hb ho5; have hcm_0 : (w8.alloc (Obj.map #[] 0)).cell? ⟨gb208, 0, none⟩ = some (.int .i64 a0_0) := (kQC (kQA BK208.out _) 0).trans rfl; have hcm_1 : (w8.alloc (Obj.map #[] 0)).cell? ⟨gb208, 1, none⟩ = some (.int .i64 a0_1) := (kQC (kQA BK208.out _) 1).trans rfl) | ((with_reducible refine gQc (f := 66) rfl ?_); refine goesL_ (some 19) rfl rfl Try.func66 (by kernel_rfl) rfl #[.agg #[.int .i64 a0_0, .int .i64 a0_1]] rfl tL ?_; (with_reducible refine (impl_Field_count.calls a0_0 a0_1 t15 _ A2.out).mono ?_); rintro e w9 ⟨rfl, hb⟩; refine ⟨_, rfl, ?_⟩; refine qM5 (Kd.R_below (tR HO5.out) hb) (tQ BK208.out hb) (bQT tB hb) (SetM.below (by (with_reducible repeat (first | apply SetM.drewN | apply SetM.drew)); exact SetM.made Try.prog 2 4 w8) hb) (Nat.le_trans HB.out.size (Nat.le_refl w8.heap.size)) ?_; clear HO5 BK208 HB; intro HO5 BK208 HB HM GM; (try clear hb)))
 have HZ := Aq.mk (show 0 < y5.length by rw [Ny5.out, List.length_replicate]; have := HP15.out; omega)
 go_loopg [20] k (fun kq v20 w' => ∃ (x5_1 : List Int) (x6_1 : List Int) (x20_1 : Int), v20 = .int .i64 x20_1 ∧ Aq (impl_Field_coordinates.l0 kq l1 x5_1 x6_1 t15 x20_1 = some r) ∧ Aq (kq ≤ k) ∧ Aq (Kd.R (Kd.int .i64) 2 w' w.heap.size (fun _ => True) v16 x5_1) ∧ Aq (SetM Try.prog 2 4 w' w8.heap.size x6_1) ∧ Aq (0 < x5_1.length ∧ x5_1.length ≤ 35184372088832) ∧ Aq (Below w.heap.size w w'))
 case atStart => exact ⟨y5, [], 0, tS, H', ⟨Nat.le_refl _⟩, ⟨(tR HO5.out)⟩, ⟨(by (with_reducible repeat (first | apply SetM.drewN | apply SetM.drew)); exact HM.out)⟩, ⟨HZ.out, by rw [Ny5.out, List.length_replicate]; exact of_decide_eq_true c4b1⟩, ⟨tB⟩⟩
 clear H'
 try clear hcz6_0 hcz6_1 hfz6_0 hfz6_1
 try clear hcm_0 hcm_1
 try clear hmm
 clear HO5 HM HB
 obtain ⟨x5_1, x6_1, x20_1, rfl, HA, HK1, HO5, HM, HL5, HB⟩ := hrel
 cases gk with
 | zero => exact absurd HA.out (by simp [impl_Field_coordinates.l0])
 | succ k1 =>
  have H := HA.out
  clear HA
  simp only [impl_Field_coordinates.l0] at H
  by_cases c6 : x20_1 < t15
  rotate_left
  ·rw [if_neg c6] at H
   have c6b0 := decide_eq_false c6
   clear c6
   obtain rfl := Option.some.inj H
   have HN := Aq.mk (show ¬ x5_1 = [] from fun z => by have := HL5.out.1; rw [z] at this; exact Nat.lt_irrefl 0 this)
   go_wp2
   go_ret
   exact ⟨_, rfl, fun z => absurd z HN.out, (tR HO5.out), tB⟩
  rw [if_pos c6] at H
  have c6b0 := decide_eq_true c6
  clear c6
  obtain ⟨t25, A7, H⟩ := qBd H
  by_cases c7 : 0 ≤ t25
  rotate_left
  ·rw [if_neg c7] at H
   exact absurd H (by simp)
  rw [if_pos c7] at H
  have c7b0 := decide_eq_true c7
  by_cases c8 : t25 < (x5_1.length : Int)
  rotate_left
  ·rw [if_neg c8] at H
   exact absurd H (by simp)
  rw [if_pos c8] at H
  have c8b0 := decide_eq_true c8
  have HW := Aq.mk (wf_small c7 c8 HL5.out.2)
  clear c7 c8
  by_cases c9 : x6_1.contains t25 = true
  ·rw [if_pos c9] at H
   have HK := Aq.mk c9
   clear c9
   obtain rfl := Option.some.inj H
   clear H
   go_wp2_with (first | ((with_reducible refine gQc (f := 67) rfl ?_); refine goesL_ (some 25) rfl rfl Try.func67 (by kernel_rfl) rfl #[.slice A1 l1.length c1, .int .i64 x20_1] rfl tL ?_; (with_reducible refine (impl_sumOf.calls k1 _ _ l1 x20_1 t25 _ ?s1 ?s2 A7.out).mono ?_); (case s1 => (exact tC ((Kd.C_below HR1.out HB.out)))); (case s2 => exact HC1.out); rintro e w' ⟨rfl, ⟨nd, rfl⟩⟩; refine ⟨_, rfl, ?_⟩) | (at_lookup; refine SetM.look rfl (.tmp 26) (.tmp 27) 71 rfl Try.underlying2 Try.underlying71 Try.underlying4 (zero_of (show (Try.prog.info? 4).map (fun i => (i.zero, i.size, i.bytes)) = some (some (.bool false), 1, 1) by kernel_rfl)) rfl (by (with_reducible repeat (first | apply SetM.drewN | apply SetM.drew)); exact HM.out) rfl HW.out ?_; rw [HK.out]))
   go_ret
   exact ⟨.slice none 0 0, by first | rfl | (simp; done), by first | exact fun _ => rfl | exact rfl, Kd.R_nil _ _ _ _ _, tB⟩
  rw [if_neg c9] at H
  have HK := Aq.mk (Bool.eq_false_iff.mpr c9)
  clear c9
  by_cases c10 : x6_1.length < 1000000
  rotate_left
  ·rw [if_neg c10] at H
   exact absurd H (by simp)
  rw [if_pos c10] at H
  have HL9 := Aq.mk c10
  clear c10
  obtain ⟨y292, hy292⟩ : ∃ y_ : List Int, y_ = (x5_1.set (t25 : Int).toNat x20_1) := ⟨_, rfl⟩
  rw [← hy292] at H
  have Ny292 := Aq.mk hy292
  clear hy292
  replace H' := Aq.mk H
  clear H
  have hpos := HL5.out.1
  obtain ⟨go9, co9, eo9, gb9, gl9, cl9, HG9⟩ := Kd.R_form HO5.out (by omega)
  (first | cases eo9 | (injection eo9 with ea_ en_ ec_; (first | subst ea_ | (injection ea_ with ea_; subst ea_)); subst ec_; clear en_))
  have GB9 := Aq.mk gb9
  clear gb9 gl9 HG9 hpos
  go_wp2_with (first | ((with_reducible refine gQc (f := 67) rfl ?_); refine goesL_ (some 25) rfl rfl Try.func67 (by kernel_rfl) rfl #[.slice A1 l1.length c1, .int .i64 x20_1] rfl tL ?_; (with_reducible refine (impl_sumOf.calls k1 _ _ l1 x20_1 t25 _ ?s1 ?s2 A7.out).mono ?_); (case s1 => (exact tC ((Kd.C_below HR1.out HB.out)))); (case s2 => exact HC1.out); rintro e w' ⟨rfl, ⟨nd, rfl⟩⟩; refine ⟨_, rfl, ?_⟩) | (at_lookup; refine SetM.look rfl (.tmp 26) (.tmp 27) 71 rfl Try.underlying2 Try.underlying71 Try.underlying4 (zero_of (show (Try.prog.info? 4).map (fun i => (i.zero, i.size, i.bytes)) = some (some (.bool false), 1, 1) by kernel_rfl)) rfl (by (with_reducible repeat (first | apply SetM.drewN | apply SetM.drew)); exact HM.out) rfl HW.out ?_; rw [HK.out]) | (at_mapUpdate; refine SetM.put rfl (.tmp 29) (.tmp 30) (.const (.bool true)) 71 rfl Try.underlying2 Try.underlying71 Try.underlying4 rfl (by (with_reducible repeat (first | apply SetM.drewN | apply SetM.drew)); exact HM.out) rfl rfl HW.out HL9.out ?_; intro w10 hm hg; refine qM3 (R_grown_int (Kd.RqN HO5.out nd) hg (SetM.ne HM.out HO5.out)) hm (Below.grown tB hg (bQZ tB) (fun k_ hk_ => by injection hk_ with hk_; subst hk_; exact GM.out)) ?_; clear HO5 HM HB; intro HO5 HM HB; clear hm hg; have p9 : 0 ≤ (t25 : Int) := of_decide_eq_true tA; have q9 : (t25 : Int) < ((x5_1.length : Int) : Int) := of_decide_eq_true tA; obtain ⟨hx9_0, hf9_0⟩ := Kd.R_celln 0 HO5.out (t25 : Int) p9 q9; replace p9 := eq_true p9; replace q9 := eq_true q9; have HP10 := Kd.R_putg HO5.out (t25 : Int) x20_1) | ((with_reducible refine gate_store (t := 2) (p := 34) rfl ?_); refine store_event (t := 2) (p := 34) (v := ?vo_w11) (w1 := (w10.setCell ⟨go9, (t25 : Int).toNat, none⟩ (.int .i64 x20_1))) ?hg ?ho ?hn ?hr ?_; (case ho => rfl); (case hg => rfl); (case hn => rfl); (case hr => exact tH); intro w11 hw; have hg : w10.grownBy w11 (some go9) := (by rw [hw]; exact HP10.2); have hp_ : Kd.R (Kd.int .i64) 2 w11 w.heap.size (fun _ => True) (.slice (some ⟨go9, 0, none⟩) x5_1.length co9) y292 := (by rw [hw, Ny292.out]; exact HP10.1); clear HP10; refine qM3 hp_ ((by rw [hw]; exact bQS (HB.out) GB9.out : Below w.heap.size w w11)) (SetM.grown HM.out hg (SetM.ne HM.out HO5.out)) ?_; clear HO5 HB HM; intro HO5 HB HM; clear hg hw hp_))
  go_roundg k1
  case measure => have := HK1.out; omega
  case rel => exact ⟨(y292), (t25 :: x6_1), (wrap64 (x20_1 + 1)), tS, H', ⟨by have := HK1.out; omega⟩, ⟨(tR HO5.out)⟩, ⟨(by (with_reducible repeat (first | apply SetM.drewN | apply SetM.drew)); exact HM.out)⟩, ⟨by rw [Ny292.out, List.length_set]; exact HL5.out⟩, ⟨tB⟩⟩
theorem impl_Field_coordinates.calls (k : Nat) (a0_0 : Int) (a0_1 : Int) (A1 : Option Addr) (c1 : Nat) (l1 : List Int) (r : List Int) (w : World) (hr1 : Kd.C (Kd.int .i64) w A1 l1.length l1) (hc1 : l1.length ≤ c1) (h : impl_Field_coordinates.f k a0_0 a0_1 l1 = some r) :
 Calls Try.prog 33 #[.agg #[.int .i64 a0_0, .int .i64 a0_1], .slice A1 l1.length c1] w fun e w' => ∃ v0_ : Value, e = .returned (v0_) ∧ Kd.R (Kd.int .i64) 2 w' w.heap.size (fun _ => True) v0_ r ∧ Below w.heap.size w w' :=
 (impl_Field_coordinates.calls_nil k a0_0 a0_1 A1 c1 l1 r w hr1 hc1 h).mono fun e w' ⟨v, h1, _, h3⟩ => ⟨v, h1, h3⟩
end Go.Proofs.Ytbgbblgdbcjibaa.P
