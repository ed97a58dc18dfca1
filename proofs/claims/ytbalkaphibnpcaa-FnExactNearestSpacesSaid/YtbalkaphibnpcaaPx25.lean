/- Functions of the program and what they tell, as the printing program wrote it. -/
import Derived.Test.YtbalkaphibnpcaaPx0
import Derived.Test.YtbalkaphibnpcaaPx24
namespace Go.Proofs.Ytbalkaphibnpcaa.P
open Go.Shelf Go.RowKit Go.Proofs.YtbalkaphibnpcaaW.PrintWords Go.Proofs.YtbalkaphibnpcaaW.PrintLast Go.Proofs.YtbalkaphibnpcaaW.PrintMore
attribute [local go_sem] max2_int min2_int max_two min_two max_three min_three max_four min_four
set_option linter.unusedVariables false
set_option linter.unusedSimpArgs false
set_option maxHeartbeats 8000000
set_option maxRecDepth 100000
def impl_SameMatrix.f (k : Nat) (a0_0 : Int) (l0_1 : List Int) (a1_0 : Int) (l1_1 : List Int) : Option (Bool) := if a0_0 = a1_0 then ((slices_Equal_int64_int64.f k l0_1 l1_1).bind fun t662 => (some t662)) else (some false)
theorem impl_SameMatrix.mono : ∀ a0 a1 a2 a3 k, LeO (impl_SameMatrix.f k a0 a1 a2 a3) (impl_SameMatrix.f (k + 1) a0 a1 a2 a3) := by
 intro a0 a1 a2 a3 k
 unfold impl_SameMatrix.f
 repeat' first
  | (with_reducible first | apply slices_Equal_int64_int64.mono | exact LeO.refl _ | exact LeO.none _ | refine LeO.ite ?_ ?_ | refine LeO.bind ?_ (fun _ => ?_))
  | exact LeO.none _
  | refine LeO.ite ?_ ?_
  | refine LeO.bind ?_ (fun _ => ?_)
theorem impl_SameMatrix.calls (k : Nat) (a0_0 : Int) (A0_1 : Option Addr) (c0_1 : Nat) (l0_1 : List Int) (a1_0 : Int) (A1_1 : Option Addr) (c1_1 : Nat) (l1_1 : List Int) (r : Bool) (w : World) (hr0_1 : Kd.C (Kd.int .i64) w A0_1 l0_1.length l0_1) (hc0_1 : l0_1.length ≤ c0_1) (hr1_1 : Kd.C (Kd.int .i64) w A1_1 l1_1.length l1_1) (hc1_1 : l1_1.length ≤ c1_1) (h : impl_SameMatrix.f k a0_0 l0_1 a1_0 l1_1 = some r) :
 Calls Try.prog 85 #[.agg #[.int .i64 a0_0, .slice A0_1 l0_1.length c0_1], .agg #[.int .i64 a1_0, .slice A1_1 l1_1.length c1_1]] w fun e w' => e = .returned (.bool r) ∧ Below w.heap.size w w' := by
 have hu63 := Try.underlying63
 have HR0_1 := Aq.mk hr0_1
 have HC0_1 := Aq.mk hc0_1
 clear hr0_1 hc0_1
 have HR1_1 := Aq.mk hr1_1
 have HC1_1 := Aq.mk hc1_1
 clear hr1_1 hc1_1
 have HB := Aq.mk (Below.refl w.heap.size w)
 have H : (if a0_0 = a1_0 then ((slices_Equal_int64_int64.f k l0_1 l1_1).bind fun t662 => (some t662)) else (some false)) = some r := h
 clear h
 by_cases c3 : a0_0 = a1_0
 rotate_left
 ·rw [if_neg c3] at H
  have c3b0 := beq_eq_false_iff_ne.mpr c3
  have c3b1 := bne_iff_ne.mpr c3
  obtain rfl := Option.some.inj H
  go_enter Try.func85, Try.ntmps85
  go_wp2_with (first | ((with_reducible refine gQd (N := 2) rfl ?_); refine xQe ?hg (N := 2) ?hd (cs := #[.int .i64 a0_0, .slice A0_1 l0_1.length c0_1]) (t := 63) ?hr ?_; (case hd => rfl); (case hg => rfl); (case hr => exact tH); intro gb660 hg w10 hbox hb; refine qM4 (bQT tB hb) hbox (tZ w hg) (tZ w hg) ?_; clear HB; intro HB BK660 GW660 GE660; clear hb hbox hg) | ((with_reducible refine gQd (N := 3) rfl ?_); refine xQe ?hg (N := 3) ?hd (cs := #[.int .i64 a1_0, .slice A1_1 l1_1.length c1_1]) (t := 63) ?hr ?_; (case hd => rfl); (case hg => rfl); (case hr => exact tH); intro gb661 hg w11 hbox hb; refine qM7 (tQ BK660.out hb) (bQT tB hb) hbox (tZ w hg) (tZ w hg) ((by rw [hg]; exact Nat.ne_of_lt (blk_lt (g := gb660) (o := .cells #[.int .i64 a0_0, .slice A0_1 l0_1.length c0_1] 63 (0, 0)) (tG BK660.out)) : gb660 ≠ gb661)) ((by rw [hg]; exact Nat.ne_of_gt (blk_lt (g := gb660) (o := .cells #[.int .i64 a0_0, .slice A0_1 l0_1.length c0_1] 63 (0, 0)) (tG BK660.out)) : gb661 ≠ gb660)) ?_; clear BK660 HB; intro BK660 HB BK661 GW661 GE661 NB660_661 NB661_660; clear hb hbox hg; have hnb12 := NB660_661.out; have hnc12 := NB661_660.out; have hcz13_0 : w11.cell? ⟨gb660, 0, none⟩ = some (.int .i64 a0_0) := (kQC BK660.out 0).trans rfl; have hcz13_1 : w11.cell? ⟨gb660, 1, none⟩ = some (.slice A0_1 l0_1.length c0_1) := (kQC BK660.out 1).trans rfl; have hfz13_0 := kQF BK660.out 0; have hfz13_1 := kQF BK660.out 1; have hcz14_0 : w11.cell? ⟨gb661, 0, none⟩ = some (.int .i64 a1_0) := (kQC BK661.out 0).trans rfl; have hcz14_1 : w11.cell? ⟨gb661, 1, none⟩ = some (.slice A1_1 l1_1.length c1_1) := (kQC BK661.out 1).trans rfl; have hfz14_0 := kQF BK661.out 0; have hfz14_1 := kQF BK661.out 1))
  go_ret
  exact ⟨tE, tB⟩
 rw [if_pos c3] at H
 have c3b0 := beq_iff_eq.mpr c3
 have c3b1 := bne_eq_false_iff_eq.mpr c3
 clear c3
 obtain ⟨t662, A4, H⟩ := qBd H
 obtain rfl := Option.some.inj H
 go_enter Try.func85, Try.ntmps85
 go_wp2_with (first | ((with_reducible refine gQd (N := 2) rfl ?_); refine xQe ?hg (N := 2) ?hd (cs := #[.int .i64 a0_0, .slice A0_1 l0_1.length c0_1]) (t := 63) ?hr ?_; (case hd => rfl); (case hg => rfl); (case hr => exact tH); intro gb660 hg w5 hbox hb; refine qM4 (bQT tB hb) hbox (tZ w hg) (tZ w hg) ?_; clear HB; intro HB BK660 GW660 GE660; clear hb hbox hg) | ((with_reducible refine gQd (N := 3) rfl ?_); refine xQe ?hg (N := 3) ?hd (cs := #[.int .i64 a1_0, .slice A1_1 l1_1.length c1_1]) (t := 63) ?hr ?_; (case hd => rfl); (case hg => rfl); (case hr => exact tH); intro gb661 hg w6 hbox hb; refine qM7 (tQ BK660.out hb) (bQT tB hb) hbox (tZ w hg) (tZ w hg) ((by rw [hg]; exact Nat.ne_of_lt (blk_lt (g := gb660) (o := .cells #[.int .i64 a0_0, .slice A0_1 l0_1.length c0_1] 63 (0, 0)) (tG BK660.out)) : gb660 ≠ gb661)) ((by rw [hg]; exact Nat.ne_of_gt (blk_lt (g := gb660) (o := .cells #[.int .i64 a0_0, .slice A0_1 l0_1.length c0_1] 63 (0, 0)) (tG BK660.out)) : gb661 ≠ gb660)) ?_; clear BK660 HB; intro BK660 HB BK661 GW661 GE661 NB660_661 NB661_660; clear hb hbox hg; have hnb7 := NB660_661.out; have hnc7 := NB661_660.out; have hcz8_0 : w6.cell? ⟨gb660, 0, none⟩ = some (.int .i64 a0_0) := (kQC BK660.out 0).trans rfl; have hcz8_1 : w6.cell? ⟨gb660, 1, none⟩ = some (.slice A0_1 l0_1.length c0_1) := (kQC BK660.out 1).trans rfl; have hfz8_0 := kQF BK660.out 0; have hfz8_1 := kQF BK660.out 1; have hcz9_0 : w6.cell? ⟨gb661, 0, none⟩ = some (.int .i64 a1_0) := (kQC BK661.out 0).trans rfl; have hcz9_1 : w6.cell? ⟨gb661, 1, none⟩ = some (.slice A1_1 l1_1.length c1_1) := (kQC BK661.out 1).trans rfl; have hfz9_0 := kQF BK661.out 0; have hfz9_1 := kQF BK661.out 1) | (go_at_call 92; (with_reducible refine (slices_Equal_int64_int64.calls k _ _ l0_1 _ _ l1_1 t662 _ ?s1 ?s2 ?s3 ?s4 A4.out).mono ?_); (case s1 => exact tC ((Kd.C_below HR0_1.out HB.out))); (case s2 => exact HC0_1.out); (case s3 => exact tC ((Kd.C_below HR1_1.out HB.out))); (case s4 => exact HC1_1.out); rintro e w' ⟨rfl, ⟨nd, rfl⟩⟩))
 go_ret
 exact ⟨tE, tB⟩
end Go.Proofs.Ytbalkaphibnpcaa.P
