/- Functions of the program and what they tell, as the printing program wrote it. -/
import Derived.Test.YtbgbblgdbcjibaaPx0
import Derived.Test.YtbgbblgdbcjibaaPx4
import Derived.Test.YtbgbblgdbcjibaaPx6
import Derived.Test.YtbgbblgdbcjibaaPx10
namespace Go.Proofs.Ytbgbblgdbcjibaa.P
open Go.Shelf Go.RowKit Go.Proofs.YtbgbblgdbcjibaaW.PrintWords Go.Proofs.YtbgbblgdbcjibaaW.PrintLast Go.Proofs.YtbgbblgdbcjibaaW.PrintMore
attribute [local go_sem] max2_int min2_int max_two min_two max_three min_three max_four min_four
set_option linter.unusedVariables false
set_option linter.unusedSimpArgs false
set_option maxHeartbeats 8000000
set_option maxRecDepth 100000
def impl_Field_basisCode.f (k : Nat) (a0_0 : Int) (a0_1 : Int) (l1 : List Int) (l2 : List Int) : Option (Int) := (slices_Clone_int64_int64.f l1).bind fun t293 => (if t293.length + l2.length < 17592186044416 then ((impl_Field_code.f k a0_0 a0_1 true (t293 ++ l2)).bind fun t299 => (if t299 = 0 then ((impl_Field_coordinates.f k a0_0 a0_1 l1).bind fun t300 => (if (t300.length : Int) = 0 then (some 4) else (some t299))) else (some t299))) else (none))
theorem impl_Field_basisCode.mono : ∀ a0 a1 a2 a3 k, LeO (impl_Field_basisCode.f k a0 a1 a2 a3) (impl_Field_basisCode.f (k + 1) a0 a1 a2 a3) := by
 intro a0 a1 a2 a3 k
 unfold impl_Field_basisCode.f
 repeat' first
  | (with_reducible first | apply impl_Field_code.mono | apply impl_Field_coordinates.mono | exact LeO.refl _ | exact LeO.none _ | refine LeO.ite ?_ ?_ | refine LeO.bind ?_ (fun _ => ?_))
  | exact LeO.none _
  | refine LeO.ite ?_ ?_
  | refine LeO.bind ?_ (fun _ => ?_)
theorem impl_Field_basisCode.calls (k : Nat) (a0_0 : Int) (a0_1 : Int) (A1 : Option Addr) (c1 : Nat) (l1 : List Int) (A2 : Option Addr) (c2 : Nat) (l2 : List Int) (r : Int) (w : World) (hr1 : Kd.C (Kd.int .i64) w A1 l1.length l1) (hc1 : l1.length ≤ c1) (hr2 : Kd.C (Kd.int .i64) w A2 l2.length l2) (hc2 : l2.length ≤ c2) (h : impl_Field_basisCode.f k a0_0 a0_1 l1 l2 = some r) :
 Calls Try.prog 46 #[.agg #[.int .i64 a0_0, .int .i64 a0_1], .slice A1 l1.length c1, .slice A2 l2.length c2] w fun e w' => e = .returned (.int .i64 r) ∧ Below w.heap.size w w' := by
 have hu26 := Try.underlying26
 have HR1 := Aq.mk hr1
 have HC1 := Aq.mk hc1
 clear hr1 hc1
 have HR2 := Aq.mk hr2
 have HC2 := Aq.mk hc2
 clear hr2 hc2
 have HB := Aq.mk (Below.refl w.heap.size w)
 have H : ((slices_Clone_int64_int64.f l1).bind fun t293 => (if t293.length + l2.length < 17592186044416 then ((impl_Field_code.f k a0_0 a0_1 true (t293 ++ l2)).bind fun t299 => (if t299 = 0 then ((impl_Field_coordinates.f k a0_0 a0_1 l1).bind fun t300 => (if (t300.length : Int) = 0 then (some 4) else (some t299))) else (some t299))) else (none))) = some r := h
 clear h
 obtain ⟨t293, A4, H⟩ := qBd H
 by_cases c5 : t293.length + l2.length < 17592186044416
 rotate_left
 ·rw [if_neg c5] at H
  exact absurd H (by simp)
 rw [if_pos c5] at H
 have LMc5 := Aq.mk c5
 clear c5
 obtain ⟨y296, hy296⟩ : ∃ y_ : List Int, y_ = (t293 ++ l2) := ⟨_, rfl⟩
 replace H : ((impl_Field_code.f k a0_0 a0_1 true y296).bind fun t299 => (if t299 = 0 then ((impl_Field_coordinates.f k a0_0 a0_1 l1).bind fun t300 => (if (t300.length : Int) = 0 then (some 4) else (some t299))) else (some t299))) = some r := by first | (rw [hy296]; with_reducible exact H) | (have H2_ := (Option.bind_some _ _).symm.trans H; rw [hy296]; with_reducible exact H2_) | (have H2_ := (Option.bind_some _ _).symm.trans H; with_reducible exact H2_) | with_reducible exact H | (rw [hy296]; exact H) | exact H
 have Ny296 := Aq.mk hy296
 clear hy296
 obtain ⟨t299, A6, H⟩ := qBd H
 by_cases c7 : t299 = 0
 rotate_left
 ·rw [if_neg c7] at H
  have c7b0 := beq_eq_false_iff_ne.mpr c7
  have c7b1 := bne_iff_ne.mpr c7
  obtain rfl := Option.some.inj H
  go_enter Try.func46, Try.ntmps46
  try go_wp2_with (first | ((with_reducible refine gQd (N := 3) rfl ?_); refine xQe ?hg (N := 3) ?hd (cs := #[.int .i64 a0_0, .int .i64 a0_1]) (t := 26) ?hr ?_; (case hd => rfl); (case hg => rfl); (case hr => exact tH); intro gb292 hg w26 hbox hb; refine qM4 (bQT tB hb) hbox (tZ w hg) (tZ w hg) ?_; clear HB; intro HB BK292 GW292 GE292; clear hb hbox hg))
  have n0_ := Aq.mk (kQD BK292.out)
  have n1_ := Aq.mk (bQ1 HB.out)
  clear BK292
  clear HB
  have BK292 := n0_
  have HB := n1_
  clear n0_ n1_
  refine start_ (n := 7) (S := fun w' => w'.cell? ⟨gb292, 0, none⟩ = some (.int .i64 a0_0) ∧ w'.cell? ⟨gb292, 1, none⟩ = some (.int .i64 a0_1)) (ds := []) #[false, false, false, false, false, false, false] (by kernel_rfl) rfl rfl ⟨(kQC BK292.out 0).trans rfl, (kQC BK292.out 1).trans rfl⟩ (fun hHeld => ?_)
  generalize w26.drew = w27 at BK292 HB hHeld ⊢
  refine tP0k 1 9 (bm 7 2) ?_
  refine tP0k 3 11 (bm 7 10) ?_
  refine tT2k 0 8 (bm 7 11) ?_
  refine one_ (i := 2) (N := some 10) (bm 7 15) rfl rfl (by kernel_rfl) (by decide) (fun K hK => ?_)
  refine goes_ Try.func68 (by kernel_rfl) rfl #[.slice A1 l1.length c1] (by rfl) rfl rfl tL ?_
  with_reducible refine (slices_Clone_int64_int64.calls _ _ l1 t293 _ ?s1 ?s2 A4.out).mono ?_
  (case s1 => exact tC ((Kd.C_below HR1.out HB.out)))
  (case s2 => exact HC1.out)
  rintro e w28 ⟨v294, rfl, ho0, hb⟩
  refine ⟨_, rfl, ?_⟩
  have n0_ := Aq.mk (Kd.R_lower ho0 (bQZ tB))
  have n1_ := Aq.mk (tQ BK292.out hb)
  have n2_ := Aq.mk (bQT tB hb)
  clear BK292
  clear HB
  have HO295 := n0_
  have BK292 := n1_
  have HB := n2_
  clear n0_ n1_ n2_
  (try clear hb)
  (try clear hb2)
  (try clear hk)
  (try clear hi)
  (try clear ho0)
  refine hK.out _ _ ⟨(kQC BK292.out 0).trans rfl, (kQC BK292.out 1).trans rfl⟩ (fun hHeld => ?_)
  clear hK K
  refine tN 10 ?_
  refine one_ (i := 4) (N := some 12) (bm 7 31) rfl rfl (by kernel_rfl) (by decide) (fun K hK => ?_)
  refine Kd.R_append_rows_step (Kd.int .i64) (w0 := w) w.heap.size (by rfl) (.tmp 10) (.tmp 11) 29 2 (.int .i64 0) 8 rfl Try.underlying29 info2 rfl (by decide) (by omega) v294 t293 l2 _ _ _ (fun _ => True) (fun _ => False) rfl rfl ?aO ?aR (fun _ _ h => h) (fun _ h => h.elim) ?aF ?aB ?aS ?aL ?_
  (case aR => exact tC ((Kd.C_below HR2.out HB.out)))
  (case aB => exact tB)
  (case aF => exact (fun _ _ => trivial))
  (case aO => exact (tR HO295.out))
  (case aS => exact (bQZ tB))
  (case aL => have := LMc5.out; omega)
  intro v297 w29 ho hb hg hat
  rw [← Ny296.out] at ho
  have n0_ := Aq.mk (blk_grown (g := gb292) (o := .cells #[.int .i64 a0_0, .int .i64 a0_1] 26 (0, 0)) (tG BK292.out) hg (Kd.R_ne HO295.out BK292.out (by decide)))
  have n1_ := Aq.mk (hb)
  have n2_ := Aq.mk (ho)
  clear BK292
  clear HB
  clear HO295
  have BK292 := n0_
  have HB := n1_
  have HO298 := n2_
  clear n0_ n1_ n2_
  clear ho hb hg hat
  obtain ⟨Ao30, co30, eo30⟩ := Kd.R_slice HO298.out
  (first | subst eo30 | (injection eo30 with f1_ f2_ f3_; have f4_ := f1_.symm; have f5_ := f3_.symm; clear f1_ f2_ f3_; subst f4_; subst f5_))
  refine hK.out _ _ ⟨(kQC BK292.out 0).trans rfl, (kQC BK292.out 1).trans rfl⟩ (fun hHeld => ?_)
  clear hK K
  refine tN 12 ?_
  refine one_ (i := 5) (N := some 13) (bm 7 63) rfl rfl (by kernel_rfl) (by decide) (fun K hK => ?_)
  refine goes_ Try.func32 (by kernel_rfl) rfl #[.agg #[.int .i64 a0_0, .int .i64 a0_1], .bool true, .slice Ao30 y296.length co30] (by rfl) rfl rfl tL ?_
  with_reducible refine (impl_Field_code.calls k a0_0 a0_1 true _ _ y296 t299 _ ?s1 ?s2 A6.out).mono ?_
  (case s1 => exact tC ((Kd.R_reads' HO298.out).2.2))
  (case s2 => exact (Kd.R_reads' HO298.out).2.1)
  rintro e w31 ⟨rfl, hb⟩
  refine ⟨_, rfl, ?_⟩
  have n0_ := Aq.mk (Kd.R_below (tR HO298.out) hb)
  have n1_ := Aq.mk (tQ BK292.out hb)
  have n2_ := Aq.mk (bQT tB hb)
  clear HO298
  clear BK292
  clear HB
  have HO298 := n0_
  have BK292 := n1_
  have HB := n2_
  clear n0_ n1_ n2_
  (try clear hb)
  (try clear hb2)
  (try clear hk)
  (try clear hi)
  refine hK.out _ _ ⟨(kQC BK292.out 0).trans rfl, (kQC BK292.out 1).trans rfl⟩ (fun hHeld => ?_)
  clear hK K
  refine tN 13 ?_
  refine tP0k 6 7 (bm 7 127) ?_
  refine done_ (by kernel_rfl) ?_
  try go_wp2
  go_ret
  exact ⟨tE, tB⟩
 rw [if_pos c7] at H
 have c7b0 := beq_iff_eq.mpr c7
 have c7b1 := bne_eq_false_iff_eq.mpr c7
 clear c7
 obtain ⟨t300, A8, H⟩ := qBd H
 by_cases c9 : (t300.length : Int) = 0
 ·rw [if_pos c9] at H
  have c9b0 := beq_iff_eq.mpr c9
  have c9b1 := bne_eq_false_iff_eq.mpr c9
  clear c9
  obtain rfl := Option.some.inj H
  go_enter Try.func46, Try.ntmps46
  try go_wp2_with (first | ((with_reducible refine gQd (N := 3) rfl ?_); refine xQe ?hg (N := 3) ?hd (cs := #[.int .i64 a0_0, .int .i64 a0_1]) (t := 26) ?hr ?_; (case hd => rfl); (case hg => rfl); (case hr => exact tH); intro gb292 hg w10 hbox hb; refine qM4 (bQT tB hb) hbox (tZ w hg) (tZ w hg) ?_; clear HB; intro HB BK292 GW292 GE292; clear hb hbox hg))
  have n0_ := Aq.mk (kQD BK292.out)
  have n1_ := Aq.mk (bQ1 HB.out)
  clear BK292
  clear HB
  have BK292 := n0_
  have HB := n1_
  clear n0_ n1_
  refine start_ (n := 7) (S := fun w' => w'.cell? ⟨gb292, 0, none⟩ = some (.int .i64 a0_0) ∧ w'.cell? ⟨gb292, 1, none⟩ = some (.int .i64 a0_1)) (ds := []) #[false, false, false, false, false, false, false] (by kernel_rfl) rfl rfl ⟨(kQC BK292.out 0).trans rfl, (kQC BK292.out 1).trans rfl⟩ (fun hHeld => ?_)
  generalize w10.drew = w11 at BK292 HB hHeld ⊢
  refine tP0k 1 9 (bm 7 2) ?_
  refine tP0k 3 11 (bm 7 10) ?_
  refine tT2k 0 8 (bm 7 11) ?_
  refine one_ (i := 2) (N := some 10) (bm 7 15) rfl rfl (by kernel_rfl) (by decide) (fun K hK => ?_)
  refine goes_ Try.func68 (by kernel_rfl) rfl #[.slice A1 l1.length c1] (by rfl) rfl rfl tL ?_
  with_reducible refine (slices_Clone_int64_int64.calls _ _ l1 t293 _ ?s1 ?s2 A4.out).mono ?_
  (case s1 => exact tC ((Kd.C_below HR1.out HB.out)))
  (case s2 => exact HC1.out)
  rintro e w12 ⟨v294, rfl, ho0, hb⟩
  refine ⟨_, rfl, ?_⟩
  have n0_ := Aq.mk (Kd.R_lower ho0 (bQZ tB))
  have n1_ := Aq.mk (tQ BK292.out hb)
  have n2_ := Aq.mk (bQT tB hb)
  clear BK292
  clear HB
  have HO295 := n0_
  have BK292 := n1_
  have HB := n2_
  clear n0_ n1_ n2_
  (try clear hb)
  (try clear hb2)
  (try clear hk)
  (try clear hi)
  (try clear ho0)
  refine hK.out _ _ ⟨(kQC BK292.out 0).trans rfl, (kQC BK292.out 1).trans rfl⟩ (fun hHeld => ?_)
  clear hK K
  refine tN 10 ?_
  refine one_ (i := 4) (N := some 12) (bm 7 31) rfl rfl (by kernel_rfl) (by decide) (fun K hK => ?_)
  refine Kd.R_append_rows_step (Kd.int .i64) (w0 := w) w.heap.size (by rfl) (.tmp 10) (.tmp 11) 29 2 (.int .i64 0) 8 rfl Try.underlying29 info2 rfl (by decide) (by omega) v294 t293 l2 _ _ _ (fun _ => True) (fun _ => False) rfl rfl ?aO ?aR (fun _ _ h => h) (fun _ h => h.elim) ?aF ?aB ?aS ?aL ?_
  (case aR => exact tC ((Kd.C_below HR2.out HB.out)))
  (case aB => exact tB)
  (case aF => exact (fun _ _ => trivial))
  (case aO => exact (tR HO295.out))
  (case aS => exact (bQZ tB))
  (case aL => have := LMc5.out; omega)
  intro v297 w13 ho hb hg hat
  rw [← Ny296.out] at ho
  have n0_ := Aq.mk (blk_grown (g := gb292) (o := .cells #[.int .i64 a0_0, .int .i64 a0_1] 26 (0, 0)) (tG BK292.out) hg (Kd.R_ne HO295.out BK292.out (by decide)))
  have n1_ := Aq.mk (hb)
  have n2_ := Aq.mk (ho)
  clear BK292
  clear HB
  clear HO295
  have BK292 := n0_
  have HB := n1_
  have HO298 := n2_
  clear n0_ n1_ n2_
  clear ho hb hg hat
  obtain ⟨Ao14, co14, eo14⟩ := Kd.R_slice HO298.out
  (first | subst eo14 | (injection eo14 with f1_ f2_ f3_; have f4_ := f1_.symm; have f5_ := f3_.symm; clear f1_ f2_ f3_; subst f4_; subst f5_))
  refine hK.out _ _ ⟨(kQC BK292.out 0).trans rfl, (kQC BK292.out 1).trans rfl⟩ (fun hHeld => ?_)
  clear hK K
  refine tN 12 ?_
  refine one_ (i := 5) (N := some 13) (bm 7 63) rfl rfl (by kernel_rfl) (by decide) (fun K hK => ?_)
  refine goes_ Try.func32 (by kernel_rfl) rfl #[.agg #[.int .i64 a0_0, .int .i64 a0_1], .bool true, .slice Ao14 y296.length co14] (by rfl) rfl rfl tL ?_
  with_reducible refine (impl_Field_code.calls k a0_0 a0_1 true _ _ y296 t299 _ ?s1 ?s2 A6.out).mono ?_
  (case s1 => exact tC ((Kd.R_reads' HO298.out).2.2))
  (case s2 => exact (Kd.R_reads' HO298.out).2.1)
  rintro e w15 ⟨rfl, hb⟩
  refine ⟨_, rfl, ?_⟩
  have n0_ := Aq.mk (Kd.R_below (tR HO298.out) hb)
  have n1_ := Aq.mk (tQ BK292.out hb)
  have n2_ := Aq.mk (bQT tB hb)
  clear HO298
  clear BK292
  clear HB
  have HO298 := n0_
  have BK292 := n1_
  have HB := n2_
  clear n0_ n1_ n2_
  (try clear hb)
  (try clear hb2)
  (try clear hk)
  (try clear hi)
  refine hK.out _ _ ⟨(kQC BK292.out 0).trans rfl, (kQC BK292.out 1).trans rfl⟩ (fun hHeld => ?_)
  clear hK K
  refine tN 13 ?_
  refine tP0k 6 7 (bm 7 127) ?_
  refine done_ (by kernel_rfl) ?_
  have hcz16_0 : w15.cell? ⟨gb292, 0, none⟩ = some (.int .i64 a0_0) := (kQC BK292.out 0).trans rfl
  have hcz16_1 : w15.cell? ⟨gb292, 1, none⟩ = some (.int .i64 a0_1) := (kQC BK292.out 1).trans rfl
  have hfz16_0 := kQF BK292.out 0
  have hfz16_1 := kQF BK292.out 1
  try go_wp2_with (first | (go_at_call 33; (with_reducible refine (impl_Field_coordinates.calls_nil k a0_0 a0_1 _ _ l1 t300 _ ?s1 ?s2 A8.out).mono ?_); (case s1 => exact tC ((Kd.C_below HR1.out HB.out))); (case s2 => exact HC1.out); rintro e w17 ⟨v301, rfl, hnil_, ho0, hb⟩; have hq_ := nil_q Try.underlying29 ho0 hnil_; have hr_ := nil_g (P := Try.prog) (t := 29) ho0; clear hnil_; refine qM4 (Kd.R_elder' (tR HO298.out) (Kd.R_base ho0) hb) (Kd.R_lower (Kd.R_new' ho0 (Kd.R_lt (tR HO298.out))) (bQZ tB)) (tQ BK292.out hb) (bQT tB hb) ?_; clear HO298 BK292 HB; intro HO298 HO302 BK292 HB; (try clear hb); (try clear hb2); (try clear hk); (try clear hi); (try clear ho0)))
  go_ret
  exact ⟨tE, tB⟩
 rw [if_neg c9] at H
 have c9b0 := beq_eq_false_iff_ne.mpr c9
 have c9b1 := bne_iff_ne.mpr c9
 have c9b2 : ¬ (t300 = []) := fun h_ => c9 (by rw [h_]; rfl)
 obtain rfl := Option.some.inj H
 go_enter Try.func46, Try.ntmps46
 try go_wp2_with (first | ((with_reducible refine gQd (N := 3) rfl ?_); refine xQe ?hg (N := 3) ?hd (cs := #[.int .i64 a0_0, .int .i64 a0_1]) (t := 26) ?hr ?_; (case hd => rfl); (case hg => rfl); (case hr => exact tH); intro gb292 hg w18 hbox hb; refine qM4 (bQT tB hb) hbox (tZ w hg) (tZ w hg) ?_; clear HB; intro HB BK292 GW292 GE292; clear hb hbox hg))
 have n0_ := Aq.mk (kQD BK292.out)
 have n1_ := Aq.mk (bQ1 HB.out)
 clear BK292
 clear HB
 have BK292 := n0_
 have HB := n1_
 clear n0_ n1_
 refine start_ (n := 7) (S := fun w' => w'.cell? ⟨gb292, 0, none⟩ = some (.int .i64 a0_0) ∧ w'.cell? ⟨gb292, 1, none⟩ = some (.int .i64 a0_1)) (ds := []) #[false, false, false, false, false, false, false] (by kernel_rfl) rfl rfl ⟨(kQC BK292.out 0).trans rfl, (kQC BK292.out 1).trans rfl⟩ (fun hHeld => ?_)
 generalize w18.drew = w19 at BK292 HB hHeld ⊢
 refine tP0k 1 9 (bm 7 2) ?_
 refine tP0k 3 11 (bm 7 10) ?_
 refine tT2k 0 8 (bm 7 11) ?_
 refine one_ (i := 2) (N := some 10) (bm 7 15) rfl rfl (by kernel_rfl) (by decide) (fun K hK => ?_)
 refine goes_ Try.func68 (by kernel_rfl) rfl #[.slice A1 l1.length c1] (by rfl) rfl rfl tL ?_
 with_reducible refine (slices_Clone_int64_int64.calls _ _ l1 t293 _ ?s1 ?s2 A4.out).mono ?_
 (case s1 => exact tC ((Kd.C_below HR1.out HB.out)))
 (case s2 => exact HC1.out)
 rintro e w20 ⟨v294, rfl, ho0, hb⟩
 refine ⟨_, rfl, ?_⟩
 have n0_ := Aq.mk (Kd.R_lower ho0 (bQZ tB))
 have n1_ := Aq.mk (tQ BK292.out hb)
 have n2_ := Aq.mk (bQT tB hb)
 clear BK292
 clear HB
 have HO295 := n0_
 have BK292 := n1_
 have HB := n2_
 clear n0_ n1_ n2_
 (try clear hb)
 (try clear hb2)
 (try clear hk)
 (try clear hi)
 (try clear ho0)
 refine hK.out _ _ ⟨(kQC BK292.out 0).trans rfl, (kQC BK292.out 1).trans rfl⟩ (fun hHeld => ?_)
 clear hK K
 refine tN 10 ?_
 refine one_ (i := 4) (N := some 12) (bm 7 31) rfl rfl (by kernel_rfl) (by decide) (fun K hK => ?_)
 refine Kd.R_append_rows_step (Kd.int .i64) (w0 := w) w.heap.size (by rfl) (.tmp 10) (.tmp 11) 29 2 (.int .i64 0) 8 rfl Try.underlying29 info2 rfl (by decide) (by omega) v294 t293 l2 _ _ _ (fun _ => True) (fun _ => False) rfl rfl ?aO ?aR (fun _ _ h => h) (fun _ h => h.elim) ?aF ?aB ?aS ?aL ?_
 (case aR => exact tC ((Kd.C_below HR2.out HB.out)))
 (case aB => exact tB)
 (case aF => exact (fun _ _ => trivial))
 (case aO => exact (tR HO295.out))
 (case aS => exact (bQZ tB))
 (case aL => have := LMc5.out; omega)
 intro v297 w21 ho hb hg hat
 rw [← Ny296.out] at ho
 have n0_ := Aq.mk (blk_grown (g := gb292) (o := .cells #[.int .i64 a0_0, .int .i64 a0_1] 26 (0, 0)) (tG BK292.out) hg (Kd.R_ne HO295.out BK292.out (by decide)))
 have n1_ := Aq.mk (hb)
 have n2_ := Aq.mk (ho)
 clear BK292
 clear HB
 clear HO295
 have BK292 := n0_
 have HB := n1_
 have HO298 := n2_
 clear n0_ n1_ n2_
 clear ho hb hg hat
 obtain ⟨Ao22, co22, eo22⟩ := Kd.R_slice HO298.out
 (first | subst eo22 | (injection eo22 with f1_ f2_ f3_; have f4_ := f1_.symm; have f5_ := f3_.symm; clear f1_ f2_ f3_; subst f4_; subst f5_))
 refine hK.out _ _ ⟨(kQC BK292.out 0).trans rfl, (kQC BK292.out 1).trans rfl⟩ (fun hHeld => ?_)
 clear hK K
 refine tN 12 ?_
 refine one_ (i := 5) (N := some 13) (bm 7 63) rfl rfl (by kernel_rfl) (by decide) (fun K hK => ?_)
 refine goes_ Try.func32 (by kernel_rfl) rfl #[.agg #[.int .i64 a0_0, .int .i64 a0_1], .bool true, .slice Ao22 y296.length co22] (by rfl) rfl rfl tL ?_
 with_reducible refine (impl_Field_code.calls k a0_0 a0_1 true _ _ y296 t299 _ ?s1 ?s2 A6.out).mono ?_
 (case s1 => exact tC ((Kd.R_reads' HO298.out).2.2))
 (case s2 => exact (Kd.R_reads' HO298.out).2.1)
 rintro e w23 ⟨rfl, hb⟩
 refine ⟨_, rfl, ?_⟩
 have n0_ := Aq.mk (Kd.R_below (tR HO298.out) hb)
 have n1_ := Aq.mk (tQ BK292.out hb)
 have n2_ := Aq.mk (bQT tB hb)
 clear HO298
 clear BK292
 clear HB
 have HO298 := n0_
 have BK292 := n1_
 have HB := n2_
 clear n0_ n1_ n2_
 (try clear hb)
 (try clear hb2)
 (try clear hk)
 (try clear hi)
 refine hK.out _ _ ⟨(kQC BK292.out 0).trans rfl, (kQC BK292.out 1).trans rfl⟩ (fun hHeld => ?_)
 clear hK K
 refine tN 13 ?_
 refine tP0k 6 7 (bm 7 127) ?_
 refine done_ (by kernel_rfl) ?_
 have hcz24_0 : w23.cell? ⟨gb292, 0, none⟩ = some (.int .i64 a0_0) := (kQC BK292.out 0).trans rfl
 have hcz24_1 : w23.cell? ⟨gb292, 1, none⟩ = some (.int .i64 a0_1) := (kQC BK292.out 1).trans rfl
 have hfz24_0 := kQF BK292.out 0
 have hfz24_1 := kQF BK292.out 1
 try go_wp2_with (first | (go_at_call 33; (with_reducible refine (impl_Field_coordinates.calls_nil k a0_0 a0_1 _ _ l1 t300 _ ?s1 ?s2 A8.out).mono ?_); (case s1 => exact tC ((Kd.C_below HR1.out HB.out))); (case s2 => exact HC1.out); rintro e w25 ⟨v301, rfl, hnil_, ho0, hb⟩; have hq_ := nil_q Try.underlying29 ho0 hnil_; have hr_ := nil_g (P := Try.prog) (t := 29) ho0; clear hnil_; refine qM4 (Kd.R_elder' (tR HO298.out) (Kd.R_base ho0) hb) (Kd.R_lower (Kd.R_new' ho0 (Kd.R_lt (tR HO298.out))) (bQZ tB)) (tQ BK292.out hb) (bQT tB hb) ?_; clear HO298 BK292 HB; intro HO298 HO302 BK292 HB; (try clear hb); (try clear hb2); (try clear hk); (try clear hi); (try clear ho0)))
 go_ret
 exact ⟨tE, tB⟩
end Go.Proofs.Ytbgbblgdbcjibaa.P
