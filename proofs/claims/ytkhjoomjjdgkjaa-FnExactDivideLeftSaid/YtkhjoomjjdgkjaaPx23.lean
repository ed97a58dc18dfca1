/- Functions of the program and what they tell, as the printing program wrote it. -/
import Derived.Test.YtkhjoomjjdgkjaaPx0
import Derived.Test.YtkhjoomjjdgkjaaPx14
import Derived.Test.YtkhjoomjjdgkjaaPx22
namespace Go.Proofs.Ytkhjoomjjdgkjaa.P
open Go.Shelf Go.RowKit Go.Proofs.YtkhjoomjjdgkjaaW.PrintWords Go.Proofs.YtkhjoomjjdgkjaaW.PrintLast Go.Proofs.YtkhjoomjjdgkjaaW.PrintMore
attribute [local go_sem] max2_int min2_int max_two min_two max_three min_three max_four min_four
set_option linter.unusedVariables false
set_option linter.unusedSimpArgs false
set_option maxHeartbeats 8000000
set_option maxRecDepth 100000
def spec_DivideLeft.f (k : Nat) (a0_0 : Int) (a0_1 : Int) (l1 : List Int) (l2 : List Int) : Option (List Int × List Int × Int) := (spec_l03Both.f k a0_0 a0_1 l1 l2).bind fun t464 => (if t464 = 0 then ((spec_l03Left.f k a0_0 a0_1 l1 l2).bind fun bt465 => (some (bt465.1, bt465.2, 0))) else (some ((([] : List Int)), (([] : List Int)), t464)))
theorem spec_DivideLeft.mono : ∀ a0 a1 a2 a3 k, LeO (spec_DivideLeft.f k a0 a1 a2 a3) (spec_DivideLeft.f (k + 1) a0 a1 a2 a3) := by
 intro a0 a1 a2 a3 k
 unfold spec_DivideLeft.f
 repeat' first
  | (with_reducible first | apply spec_l03Both.mono | apply spec_l03Left.mono | exact LeO.refl _ | exact LeO.none _ | refine LeO.ite ?_ ?_ | refine LeO.bind ?_ (fun _ => ?_))
  | exact LeO.none _
  | refine LeO.ite ?_ ?_
  | refine LeO.bind ?_ (fun _ => ?_)
theorem spec_DivideLeft.calls (k : Nat) (a0_0 : Int) (a0_1 : Int) (A1 : Option Addr) (c1 : Nat) (l1 : List Int) (A2 : Option Addr) (c2 : Nat) (l2 : List Int) (r1 : List Int) (r2 : List Int) (r3 : Int) (w : World) (hr1 : Kd.C (Kd.int .i64) w A1 l1.length l1) (hc1 : l1.length ≤ c1) (hr2 : Kd.C (Kd.int .i64) w A2 l2.length l2) (hc2 : l2.length ≤ c2) (h : spec_DivideLeft.f k a0_0 a0_1 l1 l2 = some (r1, r2, r3)) :
 Calls Try.prog 15 #[.agg #[.int .i64 a0_0, .int .i64 a0_1], .slice A1 l1.length c1, .slice A2 l2.length c2] w fun e w' => ∃ v0_ v1_ : Value, e = .returned (.tuple #[v0_, v1_, .int .i64 r3]) ∧ Kd.R (Kd.int .i64) 2 w' w.heap.size (fun k_ => some k_ ≠ (v1_ : Value).ownBlock) v0_ r1 ∧ Kd.R (Kd.int .i64) 2 w' w.heap.size (fun k_ => some k_ ≠ (v0_ : Value).ownBlock) v1_ r2 ∧ Below w.heap.size w w' := by
 have hu27 := Try.underlying27
 have HR1 := Aq.mk hr1
 have HC1 := Aq.mk hc1
 clear hr1 hc1
 have HR2 := Aq.mk hr2
 have HC2 := Aq.mk hc2
 clear hr2 hc2
 have HB := Aq.mk (Below.refl w.heap.size w)
 have H : ((spec_l03Both.f k a0_0 a0_1 l1 l2).bind fun t464 => (if t464 = 0 then ((spec_l03Left.f k a0_0 a0_1 l1 l2).bind fun bt465 => (some (bt465.1, bt465.2, 0))) else (some ((([] : List Int)), (([] : List Int)), t464)))) = some (r1, r2, r3) := h
 clear h
 obtain ⟨t464, A4, H⟩ := qBd H
 by_cases c5 : t464 = 0
 ·rw [if_pos c5] at H
  have c5b0 := beq_iff_eq.mpr c5
  have c5b1 := bne_eq_false_iff_eq.mpr c5
  clear c5
  obtain ⟨⟨t465, t468⟩, A6, H⟩ := qBd H
  (try dsimp only at H)
  simp only [Option.some.injEq, Prod.mk.injEq] at H
  obtain ⟨rfl, rfl, rfl⟩ := H
  go_enter Try.func15, Try.ntmps15
  go_wp2_with (first | ((with_reducible refine gQd (N := 3) rfl ?_); refine xQe ?hg (N := 3) ?hd (cs := #[.int .i64 a0_0, .int .i64 a0_1]) (t := 27) ?hr ?_; (case hd => rfl); (case hg => rfl); (case hr => exact tH); intro gb463 hg w7 hbox hb; refine qM4 (bQT tB hb) hbox (tZ w hg) (tZ w hg) ?_; clear HB; intro HB BK463 GW463 GE463; clear hb hbox hg; have hcz8_0 : w7.cell? ⟨gb463, 0, none⟩ = some (.int .i64 a0_0) := (kQC BK463.out 0).trans rfl; have hcz8_1 : w7.cell? ⟨gb463, 1, none⟩ = some (.int .i64 a0_1) := (kQC BK463.out 1).trans rfl; have hfz8_0 := kQF BK463.out 0; have hfz8_1 := kQF BK463.out 1) | ((with_reducible refine gQc (f := 32) rfl ?_); refine goesL_ (some 15) rfl rfl Try.func32 (by kernel_rfl) rfl #[.agg #[.int .i64 a0_0, .int .i64 a0_1], .slice A1 l1.length c1, .slice A2 l2.length c2] rfl tL ?_; (with_reducible refine (spec_l03Both.calls k a0_0 a0_1 _ _ l1 _ _ l2 t464 _ ?s1 ?s2 ?s3 ?s4 A4.out).mono ?_); (case s1 => exact tC ((Kd.C_below HR1.out HB.out))); (case s2 => exact HC1.out); (case s3 => exact tC ((Kd.C_below HR2.out HB.out))); (case s4 => exact HC2.out); rintro e w9 ⟨rfl, hb⟩; refine ⟨_, rfl, ?_⟩; refine qM2 (tQ BK463.out hb) (bQT tB hb) ?_; clear BK463 HB; intro BK463 HB; (try clear hb); (try clear hb2); (try clear hk); (try clear hi); have hcz10_0 : w9.cell? ⟨gb463, 0, none⟩ = some (.int .i64 a0_0) := (kQC BK463.out 0).trans rfl; have hcz10_1 : w9.cell? ⟨gb463, 1, none⟩ = some (.int .i64 a0_1) := (kQC BK463.out 1).trans rfl; have hfz10_0 := kQF BK463.out 0; have hfz10_1 := kQF BK463.out 1) | ((with_reducible refine gQc (f := 35) rfl ?_); refine goesL_ (some 25) rfl rfl Try.func35 (by kernel_rfl) rfl #[.agg #[.int .i64 a0_0, .int .i64 a0_1], .slice A1 l1.length c1, .slice A2 l2.length c2] rfl tL ?_; (with_reducible refine (spec_l03Left.calls k a0_0 a0_1 _ _ l1 _ _ l2 t465 t468 _ ?s1 ?s2 ?s3 ?s4 A6.out).mono ?_); (case s1 => exact tC ((Kd.C_below HR1.out HB.out))); (case s2 => exact HC1.out); (case s3 => exact tC ((Kd.C_below HR2.out HB.out))); (case s4 => exact HC2.out); rintro e w11 ⟨v466, v469, rfl, ho0, ho1, hb⟩; refine ⟨_, rfl, ?_⟩; refine qM4 (Kd.R_lower ho0 (bQZ tB)) (Kd.R_lower ho1 (bQZ tB)) (tQ BK463.out hb) (bQT tB hb) ?_; clear BK463 HB; intro HO467 HO470 BK463 HB; (try clear hb); (try clear hb2); (try clear hk); (try clear hi); (try clear ho0); (try clear ho1)))
  go_ret3
  exact ⟨_, _, tE, tR HO467.out, tR HO470.out, tB⟩
 rw [if_neg c5] at H
 have c5b0 := beq_eq_false_iff_ne.mpr c5
 have c5b1 := bne_iff_ne.mpr c5
 obtain ⟨y471, hy471⟩ : ∃ y_ : List Int, y_ = (([] : List Int)) := ⟨_, rfl⟩
 replace H : (some (y471, (([] : List Int)), t464)) = some (r1, r2, r3) := by first | (rw [hy471]; with_reducible exact H) | (have H2_ := (Option.bind_some _ _).symm.trans H; rw [hy471]; with_reducible exact H2_) | (have H2_ := (Option.bind_some _ _).symm.trans H; with_reducible exact H2_) | with_reducible exact H | (rw [hy471]; exact H) | exact H
 have Ny471 := Aq.mk hy471
 clear hy471
 obtain ⟨y474, hy474⟩ : ∃ y_ : List Int, y_ = (([] : List Int)) := ⟨_, rfl⟩
 replace H : (some (y471, y474, t464)) = some (r1, r2, r3) := by first | (rw [hy474]; with_reducible exact H) | (have H2_ := (Option.bind_some _ _).symm.trans H; rw [hy474]; with_reducible exact H2_) | (have H2_ := (Option.bind_some _ _).symm.trans H; with_reducible exact H2_) | with_reducible exact H | (rw [hy474]; exact H) | exact H
 have Ny474 := Aq.mk hy474
 clear hy474
 simp only [Option.some.injEq, Prod.mk.injEq] at H
 obtain ⟨rfl, rfl, rfl⟩ := H
 go_enter Try.func15, Try.ntmps15
 go_wp2_with (first | ((with_reducible refine gQd (N := 3) rfl ?_); refine xQe ?hg (N := 3) ?hd (cs := #[.int .i64 a0_0, .int .i64 a0_1]) (t := 27) ?hr ?_; (case hd => rfl); (case hg => rfl); (case hr => exact tH); intro gb463 hg w12 hbox hb; refine qM4 (bQT tB hb) hbox (tZ w hg) (tZ w hg) ?_; clear HB; intro HB BK463 GW463 GE463; clear hb hbox hg; have hcz13_0 : w12.cell? ⟨gb463, 0, none⟩ = some (.int .i64 a0_0) := (kQC BK463.out 0).trans rfl; have hcz13_1 : w12.cell? ⟨gb463, 1, none⟩ = some (.int .i64 a0_1) := (kQC BK463.out 1).trans rfl; have hfz13_0 := kQF BK463.out 0; have hfz13_1 := kQF BK463.out 1) | ((with_reducible refine gQc (f := 32) rfl ?_); refine goesL_ (some 15) rfl rfl Try.func32 (by kernel_rfl) rfl #[.agg #[.int .i64 a0_0, .int .i64 a0_1], .slice A1 l1.length c1, .slice A2 l2.length c2] rfl tL ?_; (with_reducible refine (spec_l03Both.calls k a0_0 a0_1 _ _ l1 _ _ l2 t464 _ ?s1 ?s2 ?s3 ?s4 A4.out).mono ?_); (case s1 => exact tC ((Kd.C_below HR1.out HB.out))); (case s2 => exact HC1.out); (case s3 => exact tC ((Kd.C_below HR2.out HB.out))); (case s4 => exact HC2.out); rintro e w14 ⟨rfl, hb⟩; refine ⟨_, rfl, ?_⟩; refine qM2 (tQ BK463.out hb) (bQT tB hb) ?_; clear BK463 HB; intro BK463 HB; (try clear hb); (try clear hb2); (try clear hk); (try clear hi)) | ((with_reducible refine gQd (N := 18) rfl ?_); refine Kd.R_lit (Kd.int .i64) _ 2 ?hg (N := 18) ?hd (xs := ([] : List Int)) (inner := []) (ok := fun _ => True) (okp := fun _ => True) ?hr ?hp (fun _ hk => hk) trivial (Below.refl _ _) (Nat.le_refl _) (by simp) ?_; (case hd => rfl); (case hg => rfl); (case hr => exact tH); (case hp => exact (Reps.none _ _)); intro v472 w15 ho16 hb hg_ hnew_; clear hg_ hnew_; (first | rw [← Ny471.out] at ho16 | (simp only [Int.reduceToNat] at ho16; rw [← Ny471.out] at ho16)); refine qM3 (Kd.R_lower ho16 (bQZ tB)) (tQ BK463.out hb) (bQT tB hb) ?_; clear BK463 HB; intro HO473 BK463 HB; clear hb ho16) | ((with_reducible refine gQd (N := 19) rfl ?_); refine Kd.R_lit (Kd.int .i64) _ 2 ?hg (N := 19) ?hd (xs := ([] : List Int)) (inner := []) (ok := fun _ => True) (okp := fun _ => True) ?hr ?hp (fun _ hk => hk) trivial (Below.refl _ _) (Nat.le_refl _) (by simp) ?_; (case hd => rfl); (case hg => rfl); (case hr => exact tH); (case hp => exact (Reps.none _ _)); intro v475 w17 ho18 hb hg_ hnew_; clear hg_ hnew_; (first | rw [← Ny474.out] at ho18 | (simp only [Int.reduceToNat] at ho18; rw [← Ny474.out] at ho18)); refine qM4 (Kd.R_elder' (tR HO473.out) (Kd.R_base ho18) hb) (Kd.R_lower (Kd.R_new' ho18 (Kd.R_lt (tR HO473.out))) (bQZ tB)) (tQ BK463.out hb) (bQT tB hb) ?_; clear HO473 BK463 HB; intro HO473 HO476 BK463 HB; clear hb ho18))
 go_ret3
 exact ⟨_, _, tE, by (with_reducible repeat (first | apply Kd.RqA | apply Kd.RqN | apply Kd.RqD)); exact Kd.R_mono HO473.out (fun _ hk => hk.2), by (with_reducible repeat (first | apply Kd.RqA | apply Kd.RqN | apply Kd.RqD)); exact Kd.R_mono HO476.out (fun _ hk => hk.2), tB⟩
end Go.Proofs.Ytkhjoomjjdgkjaa.P
