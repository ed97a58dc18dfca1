/- Functions of the program and what they tell, as the printing program wrote it. -/
import Derived.Test.YtbalkaphibnpcaaPx0
import Derived.Test.YtbalkaphibnpcaaPx1
import Derived.Test.YtbalkaphibnpcaaPx6
import Derived.Test.YtbalkaphibnpcaaPx7
import Derived.Test.YtbalkaphibnpcaaPx12
namespace Go.Proofs.Ytbalkaphibnpcaa.P
open Go.Shelf Go.RowKit Go.Proofs.YtbalkaphibnpcaaW.PrintWords Go.Proofs.YtbalkaphibnpcaaW.PrintLast Go.Proofs.YtbalkaphibnpcaaW.PrintMore
attribute [local go_sem] max2_int min2_int max_two min_two max_three min_three max_four min_four
set_option linter.unusedVariables false
set_option linter.unusedSimpArgs false
set_option maxHeartbeats 8000000
set_option maxRecDepth 100000
def impl_Field_rowsCode.f (k : Nat) (a0_0 : Int) (a0_1 : Int) (a1 : Int) (l2 : List (List Int)) : Option (Int) := (impl_ValidField.f k a0_0 a0_1).bind fun t232 => (if t232 = true then ((impl_within.f a1 1 5).bind fun t233 => (if t233 = true then (if (l2.length : Int) > 10 then (some 2) else ((slices_ContainsFunc_int64_int64_AT_impl_Field_rowsCode_1.f k l2 a1 a0_0 a0_1).bind fun t234 => (if t234 = true then (some 2) else (some 0)))) else (some 2))) else (some 1))
theorem impl_Field_rowsCode.mono : ∀ a0 a1 a2 a3 k, LeO (impl_Field_rowsCode.f k a0 a1 a2 a3) (impl_Field_rowsCode.f (k + 1) a0 a1 a2 a3) := by
 intro a0 a1 a2 a3 k
 unfold impl_Field_rowsCode.f
 repeat' first
  | (with_reducible first | apply impl_ValidField.mono | apply slices_ContainsFunc_int64_int64_AT_impl_Field_rowsCode_1.mono | exact LeO.refl _ | exact LeO.none _ | refine LeO.ite ?_ ?_ | refine LeO.bind ?_ (fun _ => ?_))
  | exact LeO.none _
  | refine LeO.ite ?_ ?_
  | refine LeO.bind ?_ (fun _ => ?_)
theorem impl_Field_rowsCode.calls (k : Nat) (a0_0 : Int) (a0_1 : Int) (a1 : Int) (A2 : Option Addr) (c2 : Nat) (l2 : List (List Int)) (r : Int) (w : World) (hr2 : Kd.C (Kd.slice 2 (Kd.int .i64)) w A2 l2.length l2) (hc2 : l2.length ≤ c2) (h : impl_Field_rowsCode.f k a0_0 a0_1 a1 l2 = some r) :
 Calls Try.prog 45 #[.agg #[.int .i64 a0_0, .int .i64 a0_1], .int .i64 a1, .slice A2 l2.length c2] w fun e w' => e = .returned (.int .i64 r) ∧ Below w.heap.size w w' := by
 have hu28 := Try.underlying28
 have HR2 := Aq.mk hr2
 have HC2 := Aq.mk hc2
 clear hr2 hc2
 have HB := Aq.mk (Below.refl w.heap.size w)
 have H : ((impl_ValidField.f k a0_0 a0_1).bind fun t232 => (if t232 = true then ((impl_within.f a1 1 5).bind fun t233 => (if t233 = true then (if (l2.length : Int) > 10 then (some 2) else ((slices_ContainsFunc_int64_int64_AT_impl_Field_rowsCode_1.f k l2 a1 a0_0 a0_1).bind fun t234 => (if t234 = true then (some 2) else (some 0)))) else (some 2))) else (some 1))) = some r := h
 clear h
 obtain ⟨t232, A4, H⟩ := qBd H
 by_cases c5 : t232 = true
 rotate_left
 ·replace c5 := Bool.eq_false_iff.mpr c5
  subst c5
  rw [if_neg (show ¬ (false = true) by decide)] at H
  obtain rfl := Option.some.inj H
  go_enter Try.func45, Try.ntmps45
  go_wp2_with (first | ((with_reducible refine gQd (N := 3) rfl ?_); (try (refine gate_guard (by rfl) ?_; dsimp only)); refine xQe ?hg (N := 3) ?hd (cs := #[.int .i64 a0_0, .int .i64 a0_1]) (t := 28) ?hr ?_; (case hd => rfl); (case hg => rfl); (case hr => exact tH); intro gb230 hg w37 hbox hb; refine qM4 (bQT tB hb) hbox (tZ w hg) (tZ w hg) ?_; clear HB; intro HB BK230 GW230 GE230; clear hb hbox hg) | ((with_reducible refine gQd (N := 4) rfl ?_); (try (refine gate_guard (by rfl) ?_; dsimp only)); refine xQe ?hg (N := 4) ?hd (cs := #[.int .i64 a1]) (t := 2) ?hr ?_; (case hd => rfl); (case hg => rfl); (case hr => exact tH); intro gb231 hg w38 hbox hb; refine qM7 (tQ BK230.out hb) (bQT tB hb) hbox (tZ w hg) (tZ w hg) ((by rw [hg]; exact Nat.ne_of_lt (blk_lt (g := gb230) (o := .cells #[.int .i64 a0_0, .int .i64 a0_1] 28 (0, 0)) (tG BK230.out)) : gb230 ≠ gb231)) ((by rw [hg]; exact Nat.ne_of_gt (blk_lt (g := gb230) (o := .cells #[.int .i64 a0_0, .int .i64 a0_1] 28 (0, 0)) (tG BK230.out)) : gb231 ≠ gb230)) ?_; clear BK230 HB; intro BK230 HB BK231 GW231 GE231 NB230_231 NB231_230; clear hb hbox hg; have hnb39 := NB230_231.out; have hnc39 := NB231_230.out; have hcz40_0 : w38.cell? ⟨gb230, 0, none⟩ = some (.int .i64 a0_0) := (kQC BK230.out 0).trans rfl; have hcz40_1 : w38.cell? ⟨gb230, 1, none⟩ = some (.int .i64 a0_1) := (kQC BK230.out 1).trans rfl; have hfz40_0 := kQF BK230.out 0; have hfz40_1 := kQF BK230.out 1) | ((with_reducible refine gQc (f := 67) rfl ?_); refine goesL_ (some 9) rfl rfl Try.func67 (by kernel_rfl) rfl #[.agg #[.int .i64 a0_0, .int .i64 a0_1]] rfl tL ?_; (with_reducible refine (impl_ValidField.calls k a0_0 a0_1 false _ A4.out).mono ?_); rintro e w41 ⟨rfl, hb⟩; refine ⟨_, rfl, ?_⟩; refine qM3 (tQ BK230.out hb) (tQ BK231.out hb) (bQT tB hb) ?_; clear BK230 BK231 HB; intro BK230 BK231 HB; (try clear hb); (try clear hb2); (try clear hk); (try clear hi)))
  go_ret
  exact ⟨tE, tB⟩
 subst c5
 rw [if_pos rfl] at H
 obtain ⟨t233, A6, H⟩ := qBd H
 by_cases c7 : t233 = true
 rotate_left
 ·replace c7 := Bool.eq_false_iff.mpr c7
  subst c7
  rw [if_neg (show ¬ (false = true) by decide)] at H
  obtain rfl := Option.some.inj H
  go_enter Try.func45, Try.ntmps45
  go_wp2_with (first | ((with_reducible refine gQd (N := 3) rfl ?_); (try (refine gate_guard (by rfl) ?_; dsimp only)); refine xQe ?hg (N := 3) ?hd (cs := #[.int .i64 a0_0, .int .i64 a0_1]) (t := 28) ?hr ?_; (case hd => rfl); (case hg => rfl); (case hr => exact tH); intro gb230 hg w31 hbox hb; refine qM4 (bQT tB hb) hbox (tZ w hg) (tZ w hg) ?_; clear HB; intro HB BK230 GW230 GE230; clear hb hbox hg) | ((with_reducible refine gQd (N := 4) rfl ?_); (try (refine gate_guard (by rfl) ?_; dsimp only)); refine xQe ?hg (N := 4) ?hd (cs := #[.int .i64 a1]) (t := 2) ?hr ?_; (case hd => rfl); (case hg => rfl); (case hr => exact tH); intro gb231 hg w32 hbox hb; refine qM7 (tQ BK230.out hb) (bQT tB hb) hbox (tZ w hg) (tZ w hg) ((by rw [hg]; exact Nat.ne_of_lt (blk_lt (g := gb230) (o := .cells #[.int .i64 a0_0, .int .i64 a0_1] 28 (0, 0)) (tG BK230.out)) : gb230 ≠ gb231)) ((by rw [hg]; exact Nat.ne_of_gt (blk_lt (g := gb230) (o := .cells #[.int .i64 a0_0, .int .i64 a0_1] 28 (0, 0)) (tG BK230.out)) : gb231 ≠ gb230)) ?_; clear BK230 HB; intro BK230 HB BK231 GW231 GE231 NB230_231 NB231_230; clear hb hbox hg; have hnb33 := NB230_231.out; have hnc33 := NB231_230.out; have hcz34_0 : w32.cell? ⟨gb230, 0, none⟩ = some (.int .i64 a0_0) := (kQC BK230.out 0).trans rfl; have hcz34_1 : w32.cell? ⟨gb230, 1, none⟩ = some (.int .i64 a0_1) := (kQC BK230.out 1).trans rfl; have hfz34_0 := kQF BK230.out 0; have hfz34_1 := kQF BK230.out 1) | ((with_reducible refine gQc (f := 67) rfl ?_); refine goesL_ (some 9) rfl rfl Try.func67 (by kernel_rfl) rfl #[.agg #[.int .i64 a0_0, .int .i64 a0_1]] rfl tL ?_; (with_reducible refine (impl_ValidField.calls k a0_0 a0_1 true _ A4.out).mono ?_); rintro e w35 ⟨rfl, hb⟩; refine ⟨_, rfl, ?_⟩; refine qM3 (tQ BK230.out hb) (tQ BK231.out hb) (bQT tB hb) ?_; clear BK230 BK231 HB; intro BK230 BK231 HB; (try clear hb); (try clear hb2); (try clear hk); (try clear hi); have hcz36_0 : w35.cell? ⟨gb231, 0, none⟩ = some (.int .i64 a1) := (kQC BK231.out 0).trans rfl; have hfz36_0 := kQF BK231.out 0) | ((with_reducible refine gQc (f := 68) rfl ?_); refine goesL_ (some 13) rfl rfl Try.func68 (by kernel_rfl) rfl #[.int .i64 a1, .int .i64 1, .int .i64 5] rfl tL ?_; (with_reducible refine (impl_within.calls a1 1 5 false _ A6.out).mono ?_); rintro e w' ⟨rfl, ⟨nd, rfl⟩⟩; refine ⟨_, rfl, ?_⟩))
  go_ret
  exact ⟨tE, tB⟩
 subst c7
 rw [if_pos rfl] at H
 by_cases c8 : (l2.length : Int) > 10
 ·rw [if_pos c8] at H
  have c8b0 := decide_eq_true c8
  have c8b1 : decide (10 < l2.length) = true := decide_eq_true (by omega)
  clear c8
  obtain rfl := Option.some.inj H
  go_enter Try.func45, Try.ntmps45
  go_wp2_with (first | ((with_reducible refine gQd (N := 3) rfl ?_); (try (refine gate_guard (by rfl) ?_; dsimp only)); refine xQe ?hg (N := 3) ?hd (cs := #[.int .i64 a0_0, .int .i64 a0_1]) (t := 28) ?hr ?_; (case hd => rfl); (case hg => rfl); (case hr => exact tH); intro gb230 hg w9 hbox hb; refine qM4 (bQT tB hb) hbox (tZ w hg) (tZ w hg) ?_; clear HB; intro HB BK230 GW230 GE230; clear hb hbox hg) | ((with_reducible refine gQd (N := 4) rfl ?_); (try (refine gate_guard (by rfl) ?_; dsimp only)); refine xQe ?hg (N := 4) ?hd (cs := #[.int .i64 a1]) (t := 2) ?hr ?_; (case hd => rfl); (case hg => rfl); (case hr => exact tH); intro gb231 hg w10 hbox hb; refine qM7 (tQ BK230.out hb) (bQT tB hb) hbox (tZ w hg) (tZ w hg) ((by rw [hg]; exact Nat.ne_of_lt (blk_lt (g := gb230) (o := .cells #[.int .i64 a0_0, .int .i64 a0_1] 28 (0, 0)) (tG BK230.out)) : gb230 ≠ gb231)) ((by rw [hg]; exact Nat.ne_of_gt (blk_lt (g := gb230) (o := .cells #[.int .i64 a0_0, .int .i64 a0_1] 28 (0, 0)) (tG BK230.out)) : gb231 ≠ gb230)) ?_; clear BK230 HB; intro BK230 HB BK231 GW231 GE231 NB230_231 NB231_230; clear hb hbox hg; have hnb11 := NB230_231.out; have hnc11 := NB231_230.out; have hcz12_0 : w10.cell? ⟨gb230, 0, none⟩ = some (.int .i64 a0_0) := (kQC BK230.out 0).trans rfl; have hcz12_1 : w10.cell? ⟨gb230, 1, none⟩ = some (.int .i64 a0_1) := (kQC BK230.out 1).trans rfl; have hfz12_0 := kQF BK230.out 0; have hfz12_1 := kQF BK230.out 1) | ((with_reducible refine gQc (f := 67) rfl ?_); refine goesL_ (some 9) rfl rfl Try.func67 (by kernel_rfl) rfl #[.agg #[.int .i64 a0_0, .int .i64 a0_1]] rfl tL ?_; (with_reducible refine (impl_ValidField.calls k a0_0 a0_1 true _ A4.out).mono ?_); rintro e w13 ⟨rfl, hb⟩; refine ⟨_, rfl, ?_⟩; refine qM3 (tQ BK230.out hb) (tQ BK231.out hb) (bQT tB hb) ?_; clear BK230 BK231 HB; intro BK230 BK231 HB; (try clear hb); (try clear hb2); (try clear hk); (try clear hi); have hcz14_0 : w13.cell? ⟨gb231, 0, none⟩ = some (.int .i64 a1) := (kQC BK231.out 0).trans rfl; have hfz14_0 := kQF BK231.out 0) | ((with_reducible refine gQc (f := 68) rfl ?_); refine goesL_ (some 13) rfl rfl Try.func68 (by kernel_rfl) rfl #[.int .i64 a1, .int .i64 1, .int .i64 5] rfl tL ?_; (with_reducible refine (impl_within.calls a1 1 5 true _ A6.out).mono ?_); rintro e w' ⟨rfl, ⟨nd, rfl⟩⟩; refine ⟨_, rfl, ?_⟩))
  go_ret
  exact ⟨tE, tB⟩
 rw [if_neg c8] at H
 have c8b0 := decide_eq_false c8
 have c8b1 : decide (10 < l2.length) = false := decide_eq_false (by omega)
 clear c8
 obtain ⟨t234, A15, H⟩ := qBd H
 by_cases c16 : t234 = true
 ·subst c16
  rw [if_pos rfl] at H
  obtain rfl := Option.some.inj H
  go_enter Try.func45, Try.ntmps45
  go_wp2_with (first | ((with_reducible refine gQd (N := 3) rfl ?_); (try (refine gate_guard (by rfl) ?_; dsimp only)); refine xQe ?hg (N := 3) ?hd (cs := #[.int .i64 a0_0, .int .i64 a0_1]) (t := 28) ?hr ?_; (case hd => rfl); (case hg => rfl); (case hr => exact tH); intro gb230 hg w17 hbox hb; refine qM4 (bQT tB hb) hbox (tZ w hg) (tZ w hg) ?_; clear HB; intro HB BK230 GW230 GE230; clear hb hbox hg) | ((with_reducible refine gQd (N := 4) rfl ?_); (try (refine gate_guard (by rfl) ?_; dsimp only)); refine xQe ?hg (N := 4) ?hd (cs := #[.int .i64 a1]) (t := 2) ?hr ?_; (case hd => rfl); (case hg => rfl); (case hr => exact tH); intro gb231 hg w18 hbox hb; refine qM7 (tQ BK230.out hb) (bQT tB hb) hbox (tZ w hg) (tZ w hg) ((by rw [hg]; exact Nat.ne_of_lt (blk_lt (g := gb230) (o := .cells #[.int .i64 a0_0, .int .i64 a0_1] 28 (0, 0)) (tG BK230.out)) : gb230 ≠ gb231)) ((by rw [hg]; exact Nat.ne_of_gt (blk_lt (g := gb230) (o := .cells #[.int .i64 a0_0, .int .i64 a0_1] 28 (0, 0)) (tG BK230.out)) : gb231 ≠ gb230)) ?_; clear BK230 HB; intro BK230 HB BK231 GW231 GE231 NB230_231 NB231_230; clear hb hbox hg; have hnb19 := NB230_231.out; have hnc19 := NB231_230.out; have hcz20_0 : w18.cell? ⟨gb230, 0, none⟩ = some (.int .i64 a0_0) := (kQC BK230.out 0).trans rfl; have hcz20_1 : w18.cell? ⟨gb230, 1, none⟩ = some (.int .i64 a0_1) := (kQC BK230.out 1).trans rfl; have hfz20_0 := kQF BK230.out 0; have hfz20_1 := kQF BK230.out 1) | ((with_reducible refine gQc (f := 67) rfl ?_); refine goesL_ (some 9) rfl rfl Try.func67 (by kernel_rfl) rfl #[.agg #[.int .i64 a0_0, .int .i64 a0_1]] rfl tL ?_; (with_reducible refine (impl_ValidField.calls k a0_0 a0_1 true _ A4.out).mono ?_); rintro e w21 ⟨rfl, hb⟩; refine ⟨_, rfl, ?_⟩; refine qM3 (tQ BK230.out hb) (tQ BK231.out hb) (bQT tB hb) ?_; clear BK230 BK231 HB; intro BK230 BK231 HB; (try clear hb); (try clear hb2); (try clear hk); (try clear hi); have hcz22_0 : w21.cell? ⟨gb231, 0, none⟩ = some (.int .i64 a1) := (kQC BK231.out 0).trans rfl; have hfz22_0 := kQF BK231.out 0) | ((with_reducible refine gQc (f := 68) rfl ?_); refine goesL_ (some 13) rfl rfl Try.func68 (by kernel_rfl) rfl #[.int .i64 a1, .int .i64 1, .int .i64 5] rfl tL ?_; (with_reducible refine (impl_within.calls a1 1 5 true _ A6.out).mono ?_); rintro e w' ⟨rfl, ⟨nd, rfl⟩⟩; refine ⟨_, rfl, ?_⟩) | (go_at_call 69; (with_reducible refine (slices_ContainsFunc_int64_int64_AT_impl_Field_rowsCode_1.calls k _ _ l2 (⟨gb231, 0, none⟩ : Addr) (⟨gb230, 0, none⟩ : Addr) a1 a0_0 a0_1 true _ ?s1 ?s2 ?s3 ?s4 A15.out).mono ?_); (case s1 => exact tC ((Kd.C_below HR2.out tB))); (case s2 => exact HC2.out); (case s3 => exact AtC.of_blk (g := gb231) (t := 2) (cs := #[.int .i64 a1]) (tG BK231.out) rfl); (case s4 => exact AtC.of_blk (g := gb230) (t := 28) (cs := #[.int .i64 a0_0, .int .i64 a0_1]) (tG BK230.out) rfl); rintro e w23 ⟨rfl, hb⟩; refine qM3 (tQ BK230.out hb) (tQ BK231.out hb) (bQT tB hb) ?_; clear BK230 BK231 HB; intro BK230 BK231 HB; (try clear hb); (try clear hb2); (try clear hk); (try clear hi)))
  go_ret
  exact ⟨tE, tB⟩
 replace c16 := Bool.eq_false_iff.mpr c16
 subst c16
 rw [if_neg (show ¬ (false = true) by decide)] at H
 obtain rfl := Option.some.inj H
 go_enter Try.func45, Try.ntmps45
 go_wp2_with (first | ((with_reducible refine gQd (N := 3) rfl ?_); (try (refine gate_guard (by rfl) ?_; dsimp only)); refine xQe ?hg (N := 3) ?hd (cs := #[.int .i64 a0_0, .int .i64 a0_1]) (t := 28) ?hr ?_; (case hd => rfl); (case hg => rfl); (case hr => exact tH); intro gb230 hg w24 hbox hb; refine qM4 (bQT tB hb) hbox (tZ w hg) (tZ w hg) ?_; clear HB; intro HB BK230 GW230 GE230; clear hb hbox hg) | ((with_reducible refine gQd (N := 4) rfl ?_); (try (refine gate_guard (by rfl) ?_; dsimp only)); refine xQe ?hg (N := 4) ?hd (cs := #[.int .i64 a1]) (t := 2) ?hr ?_; (case hd => rfl); (case hg => rfl); (case hr => exact tH); intro gb231 hg w25 hbox hb; refine qM7 (tQ BK230.out hb) (bQT tB hb) hbox (tZ w hg) (tZ w hg) ((by rw [hg]; exact Nat.ne_of_lt (blk_lt (g := gb230) (o := .cells #[.int .i64 a0_0, .int .i64 a0_1] 28 (0, 0)) (tG BK230.out)) : gb230 ≠ gb231)) ((by rw [hg]; exact Nat.ne_of_gt (blk_lt (g := gb230) (o := .cells #[.int .i64 a0_0, .int .i64 a0_1] 28 (0, 0)) (tG BK230.out)) : gb231 ≠ gb230)) ?_; clear BK230 HB; intro BK230 HB BK231 GW231 GE231 NB230_231 NB231_230; clear hb hbox hg; have hnb26 := NB230_231.out; have hnc26 := NB231_230.out; have hcz27_0 : w25.cell? ⟨gb230, 0, none⟩ = some (.int .i64 a0_0) := (kQC BK230.out 0).trans rfl; have hcz27_1 : w25.cell? ⟨gb230, 1, none⟩ = some (.int .i64 a0_1) := (kQC BK230.out 1).trans rfl; have hfz27_0 := kQF BK230.out 0; have hfz27_1 := kQF BK230.out 1) | ((with_reducible refine gQc (f := 67) rfl ?_); refine goesL_ (some 9) rfl rfl Try.func67 (by kernel_rfl) rfl #[.agg #[.int .i64 a0_0, .int .i64 a0_1]] rfl tL ?_; (with_reducible refine (impl_ValidField.calls k a0_0 a0_1 true _ A4.out).mono ?_); rintro e w28 ⟨rfl, hb⟩; refine ⟨_, rfl, ?_⟩; refine qM3 (tQ BK230.out hb) (tQ BK231.out hb) (bQT tB hb) ?_; clear BK230 BK231 HB; intro BK230 BK231 HB; (try clear hb); (try clear hb2); (try clear hk); (try clear hi); have hcz29_0 : w28.cell? ⟨gb231, 0, none⟩ = some (.int .i64 a1) := (kQC BK231.out 0).trans rfl; have hfz29_0 := kQF BK231.out 0) | ((with_reducible refine gQc (f := 68) rfl ?_); refine goesL_ (some 13) rfl rfl Try.func68 (by kernel_rfl) rfl #[.int .i64 a1, .int .i64 1, .int .i64 5] rfl tL ?_; (with_reducible refine (impl_within.calls a1 1 5 true _ A6.out).mono ?_); rintro e w' ⟨rfl, ⟨nd, rfl⟩⟩; refine ⟨_, rfl, ?_⟩) | (go_at_call 69; (with_reducible refine (slices_ContainsFunc_int64_int64_AT_impl_Field_rowsCode_1.calls k _ _ l2 (⟨gb231, 0, none⟩ : Addr) (⟨gb230, 0, none⟩ : Addr) a1 a0_0 a0_1 false _ ?s1 ?s2 ?s3 ?s4 A15.out).mono ?_); (case s1 => exact tC ((Kd.C_below HR2.out tB))); (case s2 => exact HC2.out); (case s3 => exact AtC.of_blk (g := gb231) (t := 2) (cs := #[.int .i64 a1]) (tG BK231.out) rfl); (case s4 => exact AtC.of_blk (g := gb230) (t := 28) (cs := #[.int .i64 a0_0, .int .i64 a0_1]) (tG BK230.out) rfl); rintro e w30 ⟨rfl, hb⟩; refine qM3 (tQ BK230.out hb) (tQ BK231.out hb) (bQT tB hb) ?_; clear BK230 BK231 HB; intro BK230 BK231 HB; (try clear hb); (try clear hb2); (try clear hk); (try clear hi)))
 go_ret
 exact ⟨tE, tB⟩
def impl_product.l0 : Nat → Int → Int → Int → Option (Int)
  | 0, _, _, _ => none
  | k + 1, x0, x1, x5 => if x1 > 0 then (if (Go.bits .and .i64 x1 1) = 1 then (impl_product.l0 k (wrap64 (x0 * 2)) (x1 / 2) (Go.bits .xor .i64 x5 x0)) else (impl_product.l0 k (wrap64 (x0 * 2)) (x1 / 2) x5)) else (some x5)
def impl_product.f (k : Nat) (a0 : Int) (a1 : Int) : Option (Int) := impl_product.l0 k a0 a1 0
theorem impl_product.mono_l : ∀ k, (∀ y0 y1 y2, LeO (impl_product.l0 k y0 y1 y2) (impl_product.l0 (k + 1) y0 y1 y2))
 | 0 => fun _ _ _ r h => by simp [impl_product.l0] at h
 | k + 1 => by
  have ih0 := impl_product.mono_l k
  ·intro y0 y1 y2
   unfold impl_product.l0
   repeat' first
   | (with_reducible first | apply ih0 | exact LeO.refl _ | exact LeO.none _ | refine LeO.ite ?_ ?_ | refine LeO.bind ?_ (fun _ => ?_))
   | exact LeO.none _
   | refine LeO.ite ?_ ?_
   | refine LeO.bind ?_ (fun _ => ?_)
theorem impl_product.mono : ∀ a0 a1 k, LeO (impl_product.f k a0 a1) (impl_product.f (k + 1) a0 a1) := by
 intro a0 a1 k
 have ih0 := impl_product.mono_l k
 unfold impl_product.f
 repeat' first
  | (with_reducible first | apply ih0 | exact LeO.refl _ | exact LeO.none _ | refine LeO.ite ?_ ?_ | refine LeO.bind ?_ (fun _ => ?_))
  | exact LeO.none _
  | refine LeO.ite ?_ ?_
  | refine LeO.bind ?_ (fun _ => ?_)
theorem impl_product.calls (k : Nat) (a0 : Int) (a1 : Int) (r : Int) (w : World) (h : impl_product.f k a0 a1 = some r) :
 Calls Try.prog 106 #[.int .i64 a0, .int .i64 a1] w fun e w' => e = .returned (.int .i64 r) ∧ Dq w w' := by
 have H : (impl_product.l0 k a0 a1 0) = some r := h
 clear h
 replace H' := Aq.mk H
 clear H
 go_enter Try.func106, Try.ntmps106
 go_wp2
 go_loopg [0, 1, 5] k (fun kq v0 v1 v5 w' => ∃ (x0_1 : Int) (x1_1 : Int) (x5_1 : Int), v0 = .int .i64 x0_1 ∧ v1 = .int .i64 x1_1 ∧ v5 = .int .i64 x5_1 ∧ Aq (impl_product.l0 kq x0_1 x1_1 x5_1 = some r) ∧ Aq (kq ≤ k) ∧ Dq w w')
 case atStart => exact ⟨(a0), (a1), (0), tS, tS, tS, H', ⟨Nat.le_refl _⟩, tD⟩
 clear H'
 obtain ⟨x0_1, x1_1, x5_1, rfl, rfl, rfl, HA, HK1, ⟨m1, rfl⟩⟩ := hrel
 cases gk with
 | zero => exact absurd HA.out (by simp [impl_product.l0])
 | succ k1 =>
  have H := HA.out
  clear HA
  simp only [impl_product.l0] at H
  by_cases c3 : x1_1 > 0
  rotate_left
  ·rw [if_neg c3] at H
   have c3b0 := decide_eq_false c3
   clear c3
   obtain rfl := Option.some.inj H
   go_wp2
   go_ret
   exact ⟨tS, tD⟩
  rw [if_pos c3] at H
  have c3b0 := decide_eq_true c3
  clear c3
  by_cases c4 : (Go.bits .and .i64 x1_1 1) = 1
  ·rw [if_pos c4] at H
   have c4b0 := beq_iff_eq.mpr c4
   have c4b1 := bne_eq_false_iff_eq.mpr c4
   clear c4
   replace H' := Aq.mk H
   clear H
   go_wp2
   go_roundg k1
   case measure => have := HK1.out; omega
   case rel => exact ⟨(wrap64 (x0_1 * 2)), (x1_1 / 2), (Go.bits .xor .i64 x5_1 x0_1), tS, tS, tS, H', ⟨by have := HK1.out; omega⟩, tD⟩
  rw [if_neg c4] at H
  have c4b0 := beq_eq_false_iff_ne.mpr c4
  have c4b1 := bne_iff_ne.mpr c4
  replace H' := Aq.mk H
  clear H
  go_wp2
  go_roundg k1
  case measure => have := HK1.out; omega
  case rel => exact ⟨(wrap64 (x0_1 * 2)), (x1_1 / 2), (x5_1), tS, tS, tS, H', ⟨by have := HK1.out; omega⟩, tD⟩
def impl_Field_mul.f (k : Nat) (a0_0 : Int) (a0_1 : Int) (a1 : Int) (a2 : Int) : Option (Int) := (impl_product.f k a1 a2).bind fun t236 => ((impl_restOf.f k t236 a0_1).bind fun t237 => (some t237))
theorem impl_Field_mul.mono : ∀ a0 a1 a2 a3 k, LeO (impl_Field_mul.f k a0 a1 a2 a3) (impl_Field_mul.f (k + 1) a0 a1 a2 a3) := by
 intro a0 a1 a2 a3 k
 unfold impl_Field_mul.f
 repeat' first
  | (with_reducible first | apply impl_product.mono | apply impl_restOf.mono | exact LeO.refl _ | exact LeO.none _ | refine LeO.ite ?_ ?_ | refine LeO.bind ?_ (fun _ => ?_))
  | exact LeO.none _
  | refine LeO.ite ?_ ?_
  | refine LeO.bind ?_ (fun _ => ?_)
theorem impl_Field_mul.calls (k : Nat) (a0_0 : Int) (a0_1 : Int) (a1 : Int) (a2 : Int) (r : Int) (w : World) (h : impl_Field_mul.f k a0_0 a0_1 a1 a2 = some r) :
 Calls Try.prog 77 #[.agg #[.int .i64 a0_0, .int .i64 a0_1], .int .i64 a1, .int .i64 a2] w fun e w' => e = .returned (.int .i64 r) ∧ Below w.heap.size w w' := by
 have hu28 := Try.underlying28
 have HB := Aq.mk (Below.refl w.heap.size w)
 have H : ((impl_product.f k a1 a2).bind fun t236 => ((impl_restOf.f k t236 a0_1).bind fun t237 => (some t237))) = some r := h
 clear h
 obtain ⟨t236, A4, H⟩ := qBd H
 obtain ⟨t237, A5, H⟩ := qBd H
 obtain rfl := Option.some.inj H
 go_enter Try.func77, Try.ntmps77
 go_wp2_with (first | ((with_reducible refine gQd (N := 3) rfl ?_); refine xQe ?hg (N := 3) ?hd (cs := #[.int .i64 a0_0, .int .i64 a0_1]) (t := 28) ?hr ?_; (case hd => rfl); (case hg => rfl); (case hr => exact tH); intro gb235 hg w6 hbox hb; refine qM4 (bQT tB hb) hbox (tZ w hg) (tZ w hg) ?_; clear HB; intro HB BK235 GW235 GE235; clear hb hbox hg) | (go_at_call 106; (with_reducible refine (impl_product.calls k a1 a2 t236 _ A4.out).mono ?_); rintro e w' ⟨rfl, ⟨nd, rfl⟩⟩; (try exact tW); have hcz7_0 : w6.cell? ⟨gb235, 0, none⟩ = some (.int .i64 a0_0) := (kQC BK235.out 0).trans rfl; have hcz7_1 : w6.cell? ⟨gb235, 1, none⟩ = some (.int .i64 a0_1) := (kQC BK235.out 1).trans rfl; have hfz7_0 := kQF BK235.out 0; have hfz7_1 := kQF BK235.out 1) | (go_at_call 105; (with_reducible refine (impl_restOf.calls k t236 a0_1 t237 _ A5.out).mono ?_); rintro e w' ⟨rfl, ⟨nd, rfl⟩⟩; (try exact tW)))
 repeat (go_quiet (first | ((with_reducible refine gQd (N := 3) rfl ?_); refine xQe ?hg (N := 3) ?hd (cs := #[.int .i64 a0_0, .int .i64 a0_1]) (t := 28) ?hr ?_; (case hd => rfl); (case hg => rfl); (case hr => exact tH); intro gb235 hg w6 hbox hb; refine qM4 (bQT tB hb) hbox (tZ w hg) (tZ w hg) ?_; clear HB; intro HB BK235 GW235 GE235; clear hb hbox hg) | (go_at_call 106; (with_reducible refine (impl_product.calls k a1 a2 t236 _ A4.out).mono ?_); rintro e w' ⟨rfl, ⟨nd, rfl⟩⟩; (try exact tW); have hcz7_0 : w6.cell? ⟨gb235, 0, none⟩ = some (.int .i64 a0_0) := (kQC BK235.out 0).trans rfl; have hcz7_1 : w6.cell? ⟨gb235, 1, none⟩ = some (.int .i64 a0_1) := (kQC BK235.out 1).trans rfl; have hfz7_0 := kQF BK235.out 0; have hfz7_1 := kQF BK235.out 1) | (go_at_call 105; (with_reducible refine (impl_restOf.calls k t236 a0_1 t237 _ A5.out).mono ?_); rintro e w' ⟨rfl, ⟨nd, rfl⟩⟩; (try exact tW))); try go_wp2_with (first | ((with_reducible refine gQd (N := 3) rfl ?_); refine xQe ?hg (N := 3) ?hd (cs := #[.int .i64 a0_0, .int .i64 a0_1]) (t := 28) ?hr ?_; (case hd => rfl); (case hg => rfl); (case hr => exact tH); intro gb235 hg w6 hbox hb; refine qM4 (bQT tB hb) hbox (tZ w hg) (tZ w hg) ?_; clear HB; intro HB BK235 GW235 GE235; clear hb hbox hg) | (go_at_call 106; (with_reducible refine (impl_product.calls k a1 a2 t236 _ A4.out).mono ?_); rintro e w' ⟨rfl, ⟨nd, rfl⟩⟩; (try exact tW); have hcz7_0 : w6.cell? ⟨gb235, 0, none⟩ = some (.int .i64 a0_0) := (kQC BK235.out 0).trans rfl; have hcz7_1 : w6.cell? ⟨gb235, 1, none⟩ = some (.int .i64 a0_1) := (kQC BK235.out 1).trans rfl; have hfz7_0 := kQF BK235.out 0; have hfz7_1 := kQF BK235.out 1) | (go_at_call 105; (with_reducible refine (impl_restOf.calls k t236 a0_1 t237 _ A5.out).mono ?_); rintro e w' ⟨rfl, ⟨nd, rfl⟩⟩; (try exact tW))))
 go_ret
 exact ⟨tE, tB⟩
def impl_Field_power.l0 : Nat → Int → Int → Int → Int → Int → Option (Int)
  | 0, _, _, _, _, _ => none
  | k + 1, x1, x2, x7, x239000, x239001 => if x2 > 0 then (if (Go.bits .and .i64 x2 1) = 1 then ((impl_Field_mul.f k x239000 x239001 x7 x1).bind fun t239 => ((impl_Field_mul.f k x239000 x239001 x1 x1).bind fun t240 => (impl_Field_power.l0 k t240 (x2 / 2) t239 x239000 x239001))) else ((impl_Field_mul.f k x239000 x239001 x1 x1).bind fun t241 => (impl_Field_power.l0 k t241 (x2 / 2) x7 x239000 x239001))) else (some x7)
def impl_Field_power.f (k : Nat) (a0_0 : Int) (a0_1 : Int) (a1 : Int) (a2 : Int) : Option (Int) := impl_Field_power.l0 k a1 a2 1 a0_0 a0_1
theorem impl_Field_power.mono_l : ∀ k, (∀ y0 y1 y2 y3 y4, LeO (impl_Field_power.l0 k y0 y1 y2 y3 y4) (impl_Field_power.l0 (k + 1) y0 y1 y2 y3 y4))
 | 0 => fun _ _ _ _ _ r h => by simp [impl_Field_power.l0] at h
 | k + 1 => by
  have ih0 := impl_Field_power.mono_l k
  ·intro y0 y1 y2 y3 y4
   unfold impl_Field_power.l0
   repeat' first
   | (with_reducible first | apply ih0 | apply impl_Field_mul.mono | exact LeO.refl _ | exact LeO.none _ | refine LeO.ite ?_ ?_ | refine LeO.bind ?_ (fun _ => ?_))
   | exact LeO.none _
   | refine LeO.ite ?_ ?_
   | refine LeO.bind ?_ (fun _ => ?_)
theorem impl_Field_power.mono : ∀ a0 a1 a2 a3 k, LeO (impl_Field_power.f k a0 a1 a2 a3) (impl_Field_power.f (k + 1) a0 a1 a2 a3) := by
 intro a0 a1 a2 a3 k
 have ih0 := impl_Field_power.mono_l k
 unfold impl_Field_power.f
 repeat' first
  | (with_reducible first | apply ih0 | apply impl_Field_mul.mono | exact LeO.refl _ | exact LeO.none _ | refine LeO.ite ?_ ?_ | refine LeO.bind ?_ (fun _ => ?_))
  | exact LeO.none _
  | refine LeO.ite ?_ ?_
  | refine LeO.bind ?_ (fun _ => ?_)
theorem impl_Field_power.calls (k : Nat) (a0_0 : Int) (a0_1 : Int) (a1 : Int) (a2 : Int) (r : Int) (w : World) (h : impl_Field_power.f k a0_0 a0_1 a1 a2 = some r) :
 Calls Try.prog 104 #[.agg #[.int .i64 a0_0, .int .i64 a0_1], .int .i64 a1, .int .i64 a2] w fun e w' => e = .returned (.int .i64 r) ∧ Below w.heap.size w w' := by
 have hu28 := Try.underlying28
 have HB := Aq.mk (Below.refl w.heap.size w)
 have H : (impl_Field_power.l0 k a1 a2 1 a0_0 a0_1) = some r := h
 clear h
 replace H' := Aq.mk H
 clear H
 go_enter Try.func104, Try.ntmps104
 go_wp2_with (first | ((with_reducible refine gQd (N := 3) rfl ?_); refine xQe ?hg (N := 3) ?hd (cs := #[.int .i64 a0_0, .int .i64 a0_1]) (t := 28) ?hr ?_; (case hd => rfl); (case hg => rfl); (case hr => exact tH); intro gb238 hg w4 hbox hb; refine qM4 (bQT tB hb) hbox (tZ w hg) (tZ w hg) ?_; clear HB; intro HB BK238 GW238 GE238; clear hb hbox hg))
 go_loopg [1, 2, 7] k (fun kq v1 v2 v7 w' => ∃ (x1_1 : Int) (x2_1 : Int) (x7_1 : Int), v1 = .int .i64 x1_1 ∧ v2 = .int .i64 x2_1 ∧ v7 = .int .i64 x7_1 ∧ Aq (impl_Field_power.l0 kq x1_1 x2_1 x7_1 a0_0 a0_1 = some r) ∧ Aq (kq ≤ k) ∧ Aq (w'.heap[gb238]? = some (.cells #[.int .i64 a0_0, .int .i64 a0_1] 28 (0, 0))) ∧ Aq (Below w.heap.size w w'))
 case atStart => exact ⟨(a1), (a2), (1), tS, tS, tS, H', ⟨Nat.le_refl _⟩, ⟨tG BK238.out⟩, ⟨tB⟩⟩
 clear H'
 obtain ⟨x1_1, x2_1, x7_1, rfl, rfl, rfl, HA, HK1, BK238, HB⟩ := hrel
 cases gk with
 | zero => exact absurd HA.out (by simp [impl_Field_power.l0])
 | succ k1 =>
  have H := HA.out
  clear HA
  simp only [impl_Field_power.l0] at H
  by_cases c5 : x2_1 > 0
  rotate_left
  ·rw [if_neg c5] at H
   have c5b0 := decide_eq_false c5
   clear c5
   obtain rfl := Option.some.inj H
   go_wp2
   go_ret
   exact ⟨tE, tB⟩
  rw [if_pos c5] at H
  have c5b0 := decide_eq_true c5
  clear c5
  by_cases c6 : (Go.bits .and .i64 x2_1 1) = 1
  rotate_left
  ·rw [if_neg c6] at H
   have c6b0 := beq_eq_false_iff_ne.mpr c6
   have c6b1 := bne_iff_ne.mpr c6
   obtain ⟨t241, A13, H⟩ := qBd H
   replace H' := Aq.mk H
   clear H
   have hcz14_0 : wr.cell? ⟨gb238, 0, none⟩ = some (.int .i64 a0_0) := (kQC BK238.out 0).trans rfl
   have hcz14_1 : wr.cell? ⟨gb238, 1, none⟩ = some (.int .i64 a0_1) := (kQC BK238.out 1).trans rfl
   have hfz14_0 := kQF BK238.out 0
   have hfz14_1 := kQF BK238.out 1
   go_wp2_with (first | ((with_reducible refine gQc (f := 77) rfl ?_); refine goesL_ (some 22) rfl rfl Try.func77 (by kernel_rfl) rfl #[.agg #[.int .i64 a0_0, .int .i64 a0_1], .int .i64 x1_1, .int .i64 x1_1] rfl tL ?_; (with_reducible refine (impl_Field_mul.calls k1 a0_0 a0_1 x1_1 x1_1 t241 _ A13.out).mono ?_); rintro e w15 ⟨rfl, hb⟩; refine ⟨_, rfl, ?_⟩; refine qM2 (tQ BK238.out hb) (bQT tB hb) ?_; clear BK238 HB; intro BK238 HB; (try clear hb); (try clear hb2); (try clear hk); (try clear hi)))
   go_roundg k1
   case measure => have := HK1.out; omega
   case rel => exact ⟨(t241), (x2_1 / 2), (x7_1), tS, tS, tS, H', ⟨by have := HK1.out; omega⟩, ⟨tG BK238.out⟩, ⟨tB⟩⟩
  rw [if_pos c6] at H
  have c6b0 := beq_iff_eq.mpr c6
  have c6b1 := bne_eq_false_iff_eq.mpr c6
  clear c6
  obtain ⟨t239, A7, H⟩ := qBd H
  obtain ⟨t240, A8, H⟩ := qBd H
  replace H' := Aq.mk H
  clear H
  have hcz9_0 : wr.cell? ⟨gb238, 0, none⟩ = some (.int .i64 a0_0) := (kQC BK238.out 0).trans rfl
  have hcz9_1 : wr.cell? ⟨gb238, 1, none⟩ = some (.int .i64 a0_1) := (kQC BK238.out 1).trans rfl
  have hfz9_0 := kQF BK238.out 0
  have hfz9_1 := kQF BK238.out 1
  go_wp2_with (first | ((with_reducible refine gQc (f := 77) rfl ?_); refine goesL_ (some 18) rfl rfl Try.func77 (by kernel_rfl) rfl #[.agg #[.int .i64 a0_0, .int .i64 a0_1], .int .i64 x7_1, .int .i64 x1_1] rfl tL ?_; (with_reducible refine (impl_Field_mul.calls k1 a0_0 a0_1 x7_1 x1_1 t239 _ A7.out).mono ?_); rintro e w10 ⟨rfl, hb⟩; refine ⟨_, rfl, ?_⟩; refine qM2 (tQ BK238.out hb) (bQT tB hb) ?_; clear BK238 HB; intro BK238 HB; (try clear hb); (try clear hb2); (try clear hk); (try clear hi); have hcz11_0 : w10.cell? ⟨gb238, 0, none⟩ = some (.int .i64 a0_0) := (kQC BK238.out 0).trans rfl; have hcz11_1 : w10.cell? ⟨gb238, 1, none⟩ = some (.int .i64 a0_1) := (kQC BK238.out 1).trans rfl; have hfz11_0 := kQF BK238.out 0; have hfz11_1 := kQF BK238.out 1) | ((with_reducible refine gQc (f := 77) rfl ?_); refine goesL_ (some 22) rfl rfl Try.func77 (by kernel_rfl) rfl #[.agg #[.int .i64 a0_0, .int .i64 a0_1], .int .i64 x1_1, .int .i64 x1_1] rfl tL ?_; (with_reducible refine (impl_Field_mul.calls k1 a0_0 a0_1 x1_1 x1_1 t240 _ A8.out).mono ?_); rintro e w12 ⟨rfl, hb⟩; refine ⟨_, rfl, ?_⟩; refine qM2 (tQ BK238.out hb) (bQT tB hb) ?_; clear BK238 HB; intro BK238 HB; (try clear hb); (try clear hb2); (try clear hk); (try clear hi)))
  go_roundg k1
  case measure => have := HK1.out; omega
  case rel => exact ⟨(t240), (x2_1 / 2), (t239), tS, tS, tS, H', ⟨by have := HK1.out; omega⟩, ⟨tG BK238.out⟩, ⟨tB⟩⟩
end Go.Proofs.Ytbalkaphibnpcaa.P
