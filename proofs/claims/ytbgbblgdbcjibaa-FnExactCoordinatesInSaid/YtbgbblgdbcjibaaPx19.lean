/- Functions of the program and what they tell, as the printing program wrote it. -/
import Derived.Test.YtbgbblgdbcjibaaPx0
import Derived.Test.YtbgbblgdbcjibaaPx6
import Derived.Test.YtbgbblgdbcjibaaPx11
namespace Go.Proofs.Ytbgbblgdbcjibaa.P
open Go.Shelf Go.RowKit Go.Proofs.YtbgbblgdbcjibaaW.PrintWords Go.Proofs.YtbgbblgdbcjibaaW.PrintLast Go.Proofs.YtbgbblgdbcjibaaW.PrintMore
attribute [local go_sem] max2_int min2_int max_two min_two max_three min_three max_four min_four
set_option linter.unusedVariables false
set_option linter.unusedSimpArgs false
set_option maxHeartbeats 8000000
set_option maxRecDepth 100000
def impl_CoordinatesIn.f (k : Nat) (a0_0 : Int) (a0_1 : Int) (l1 : List Int) (a2 : Int) : Option (Int × Int) := (impl_Field_basisCode.f k a0_0 a0_1 l1 (([a2] : List Int))).bind fun t307 => (if t307 = 0 then ((impl_Field_coordinates.f k a0_0 a0_1 l1).bind fun t308 => (if 0 ≤ a2 then (if a2 < (t308.length : Int) then (some (rd t308 a2, 0)) else (none)) else (none))) else (some (0, t307)))
theorem impl_CoordinatesIn.mono : ∀ a0 a1 a2 a3 k, LeO (impl_CoordinatesIn.f k a0 a1 a2 a3) (impl_CoordinatesIn.f (k + 1) a0 a1 a2 a3) := by
 intro a0 a1 a2 a3 k
 unfold impl_CoordinatesIn.f
 repeat' first
  | (with_reducible first | apply impl_Field_basisCode.mono | apply impl_Field_coordinates.mono | exact LeO.refl _ | exact LeO.none _ | refine LeO.ite ?_ ?_ | refine LeO.bind ?_ (fun _ => ?_))
  | exact LeO.none _
  | refine LeO.ite ?_ ?_
  | refine LeO.bind ?_ (fun _ => ?_)
theorem impl_CoordinatesIn.calls (k : Nat) (a0_0 : Int) (a0_1 : Int) (A1 : Option Addr) (c1 : Nat) (l1 : List Int) (a2 : Int) (r1 : Int) (r2 : Int) (w : World) (hr1 : Kd.C (Kd.int .i64) w A1 l1.length l1) (hc1 : l1.length ≤ c1) (h : impl_CoordinatesIn.f k a0_0 a0_1 l1 a2 = some (r1, r2)) :
 Calls Try.prog 19 #[.agg #[.int .i64 a0_0, .int .i64 a0_1], .slice A1 l1.length c1, .int .i64 a2] w fun e w' => e = .returned (.tuple #[.int .i64 r1, .int .i64 r2]) ∧ Below w.heap.size w w' := by
 have hu26 := Try.underlying26
 have HR1 := Aq.mk hr1
 have HC1 := Aq.mk hc1
 clear hr1 hc1
 have HB := Aq.mk (Below.refl w.heap.size w)
 have H : ((impl_Field_basisCode.f k a0_0 a0_1 l1 (([a2] : List Int))).bind fun t307 => (if t307 = 0 then ((impl_Field_coordinates.f k a0_0 a0_1 l1).bind fun t308 => (if 0 ≤ a2 then (if a2 < (t308.length : Int) then (some (rd t308 a2, 0)) else (none)) else (none))) else (some (0, t307)))) = some (r1, r2) := h
 clear h
 obtain ⟨y304, hy304⟩ : ∃ y_ : List Int, y_ = (([a2] : List Int)) := ⟨_, rfl⟩
 replace H : ((impl_Field_basisCode.f k a0_0 a0_1 l1 y304).bind fun t307 => (if t307 = 0 then ((impl_Field_coordinates.f k a0_0 a0_1 l1).bind fun t308 => (if 0 ≤ a2 then (if a2 < (t308.length : Int) then (some (rd t308 a2, 0)) else (none)) else (none))) else (some (0, t307)))) = some (r1, r2) := by first | (rw [hy304]; with_reducible exact H) | (have H2_ := (Option.bind_some _ _).symm.trans H; rw [hy304]; with_reducible exact H2_) | (have H2_ := (Option.bind_some _ _).symm.trans H; with_reducible exact H2_) | with_reducible exact H | (rw [hy304]; exact H) | exact H
 have Ny304 := Aq.mk hy304
 clear hy304
 obtain ⟨t307, A4, H⟩ := qBd H
 by_cases c5 : t307 = 0
 rotate_left
 ·rw [if_neg c5] at H
  have c5b0 := beq_eq_false_iff_ne.mpr c5
  have c5b1 := bne_iff_ne.mpr c5
  simp only [Option.some.injEq, Prod.mk.injEq] at H
  obtain ⟨rfl, rfl⟩ := H
  go_enter Try.func19, Try.ntmps19
  go_wp2_with (first | ((with_reducible refine gQd (N := 3) rfl ?_); refine xQe ?hg (N := 3) ?hd (cs := #[.int .i64 a0_0, .int .i64 a0_1]) (t := 26) ?hr ?_; (case hd => rfl); (case hg => rfl); (case hr => exact tH); intro gb303 hg w18 hbox hb; refine qM4 (bQT tB hb) hbox (tZ w hg) (tZ w hg) ?_; clear HB; intro HB BK303 GW303 GE303; clear hb hbox hg; have hcz19_0 : w18.cell? ⟨gb303, 0, none⟩ = some (.int .i64 a0_0) := (kQC BK303.out 0).trans rfl; have hcz19_1 : w18.cell? ⟨gb303, 1, none⟩ = some (.int .i64 a0_1) := (kQC BK303.out 1).trans rfl; have hfz19_0 := kQF BK303.out 0; have hfz19_1 := kQF BK303.out 1) | ((with_reducible refine gQd (N := 12) rfl ?_); refine Kd.R_lit (Kd.int .i64) _ 2 ?hg (N := 12) ?hd (xs := ([a2] : List Int)) (inner := [.int .i64 a2]) (ok := fun _ => True) (okp := fun _ => True) ?hr ?hp (fun _ hk => hk) trivial (Below.refl _ _) (Nat.le_refl _) (by simp) ?_; (case hd => rfl); (case hg => rfl); (case hr => exact tH); (case hp => exact (Reps.one (show Kd.M (Kd.int .i64) _ _ _ a2 [.int .i64 a2] from rfl) (Reps.none _ _))); intro v305 w20 ho21 hb hg_ hnew_; clear hg_ hnew_; (first | rw [← Ny304.out] at ho21 | (simp only [Int.reduceToNat] at ho21; rw [← Ny304.out] at ho21)); refine qM3 (Kd.R_lower ho21 (bQZ tB)) (tQ BK303.out hb) (bQT tB hb) ?_; clear BK303 HB; intro HO306 BK303 HB; clear hb ho21; obtain ⟨Ao22, co22, eo22⟩ := Kd.R_slice HO306.out; subst eo22) | ((with_reducible refine gQc (f := 46) rfl ?_); refine goesL_ (some 13) rfl rfl Try.func46 (by kernel_rfl) rfl #[.agg #[.int .i64 a0_0, .int .i64 a0_1], .slice A1 l1.length c1, .slice Ao22 y304.length co22] rfl tL ?_; (with_reducible refine (impl_Field_basisCode.calls k a0_0 a0_1 _ _ l1 _ _ y304 t307 _ ?s1 ?s2 ?s3 ?s4 A4.out).mono ?_); (case s1 => exact tC ((Kd.C_below HR1.out HB.out))); (case s2 => exact HC1.out); (case s3 => exact tC ((Kd.R_reads' HO306.out).2.2)); (case s4 => exact (Kd.R_reads' HO306.out).2.1); rintro e w23 ⟨rfl, hb⟩; refine ⟨_, rfl, ?_⟩; refine qM3 (Kd.R_below (tR HO306.out) hb) (tQ BK303.out hb) (bQT tB hb) ?_; clear HO306 BK303 HB; intro HO306 BK303 HB; (try clear hb); (try clear hb2); (try clear hk); (try clear hi)))
  go_ret2
  exact ⟨tE, tB⟩
 rw [if_pos c5] at H
 have c5b0 := beq_iff_eq.mpr c5
 have c5b1 := bne_eq_false_iff_eq.mpr c5
 clear c5
 obtain ⟨t308, A6, H⟩ := qBd H
 by_cases c7 : 0 ≤ a2
 rotate_left
 ·rw [if_neg c7] at H
  exact absurd H (by simp)
 rw [if_pos c7] at H
 have c7b0 := decide_eq_true c7
 clear c7
 by_cases c8 : a2 < (t308.length : Int)
 rotate_left
 ·rw [if_neg c8] at H
  exact absurd H (by simp)
 rw [if_pos c8] at H
 have c8b0 := decide_eq_true c8
 clear c8
 simp only [Option.some.injEq, Prod.mk.injEq] at H
 obtain ⟨rfl, rfl⟩ := H
 go_enter Try.func19, Try.ntmps19
 go_wp2_with (first | ((with_reducible refine gQd (N := 3) rfl ?_); refine xQe ?hg (N := 3) ?hd (cs := #[.int .i64 a0_0, .int .i64 a0_1]) (t := 26) ?hr ?_; (case hd => rfl); (case hg => rfl); (case hr => exact tH); intro gb303 hg w9 hbox hb; refine qM4 (bQT tB hb) hbox (tZ w hg) (tZ w hg) ?_; clear HB; intro HB BK303 GW303 GE303; clear hb hbox hg; have hcz10_0 : w9.cell? ⟨gb303, 0, none⟩ = some (.int .i64 a0_0) := (kQC BK303.out 0).trans rfl; have hcz10_1 : w9.cell? ⟨gb303, 1, none⟩ = some (.int .i64 a0_1) := (kQC BK303.out 1).trans rfl; have hfz10_0 := kQF BK303.out 0; have hfz10_1 := kQF BK303.out 1) | ((with_reducible refine gQd (N := 12) rfl ?_); refine Kd.R_lit (Kd.int .i64) _ 2 ?hg (N := 12) ?hd (xs := ([a2] : List Int)) (inner := [.int .i64 a2]) (ok := fun _ => True) (okp := fun _ => True) ?hr ?hp (fun _ hk => hk) trivial (Below.refl _ _) (Nat.le_refl _) (by simp) ?_; (case hd => rfl); (case hg => rfl); (case hr => exact tH); (case hp => exact (Reps.one (show Kd.M (Kd.int .i64) _ _ _ a2 [.int .i64 a2] from rfl) (Reps.none _ _))); intro v305 w11 ho12 hb hg_ hnew_; clear hg_ hnew_; (first | rw [← Ny304.out] at ho12 | (simp only [Int.reduceToNat] at ho12; rw [← Ny304.out] at ho12)); refine qM3 (Kd.R_lower ho12 (bQZ tB)) (tQ BK303.out hb) (bQT tB hb) ?_; clear BK303 HB; intro HO306 BK303 HB; clear hb ho12; obtain ⟨Ao13, co13, eo13⟩ := Kd.R_slice HO306.out; subst eo13) | ((with_reducible refine gQc (f := 46) rfl ?_); refine goesL_ (some 13) rfl rfl Try.func46 (by kernel_rfl) rfl #[.agg #[.int .i64 a0_0, .int .i64 a0_1], .slice A1 l1.length c1, .slice Ao13 y304.length co13] rfl tL ?_; (with_reducible refine (impl_Field_basisCode.calls k a0_0 a0_1 _ _ l1 _ _ y304 t307 _ ?s1 ?s2 ?s3 ?s4 A4.out).mono ?_); (case s1 => exact tC ((Kd.C_below HR1.out HB.out))); (case s2 => exact HC1.out); (case s3 => exact tC ((Kd.R_reads' HO306.out).2.2)); (case s4 => exact (Kd.R_reads' HO306.out).2.1); rintro e w14 ⟨rfl, hb⟩; refine ⟨_, rfl, ?_⟩; refine qM3 (Kd.R_below (tR HO306.out) hb) (tQ BK303.out hb) (bQT tB hb) ?_; clear HO306 BK303 HB; intro HO306 BK303 HB; (try clear hb); (try clear hb2); (try clear hk); (try clear hi); have hcz15_0 : w14.cell? ⟨gb303, 0, none⟩ = some (.int .i64 a0_0) := (kQC BK303.out 0).trans rfl; have hcz15_1 : w14.cell? ⟨gb303, 1, none⟩ = some (.int .i64 a0_1) := (kQC BK303.out 1).trans rfl; have hfz15_0 := kQF BK303.out 0; have hfz15_1 := kQF BK303.out 1) | ((with_reducible refine gQc (f := 33) rfl ?_); refine goesL_ (some 19) rfl rfl Try.func33 (by kernel_rfl) rfl #[.agg #[.int .i64 a0_0, .int .i64 a0_1], .slice A1 l1.length c1] rfl tL ?_; (with_reducible refine (impl_Field_coordinates.calls k a0_0 a0_1 _ _ l1 t308 _ ?s1 ?s2 A6.out).mono ?_); (case s1 => exact tC ((Kd.C_below HR1.out HB.out))); (case s2 => exact HC1.out); rintro e w16 ⟨v309, rfl, ho0, hb⟩; refine ⟨_, rfl, ?_⟩; refine qM4 (Kd.R_elder' (tR HO306.out) (Kd.R_base ho0) hb) (Kd.R_lower (Kd.R_new' ho0 (Kd.R_lt (tR HO306.out))) (bQZ tB)) (tQ BK303.out hb) (bQT tB hb) ?_; clear HO306 BK303 HB; intro HO306 HO310 BK303 HB; (try clear hb); (try clear hb2); (try clear hk); (try clear hi); (try clear ho0); obtain ⟨Ao17, co17, eo17⟩ := Kd.R_slice HO310.out; subst eo17; have p311 : 0 ≤ (a2 : Int) := of_decide_eq_true tA; have q311 : a2 < (t308.length : Int) := of_decide_eq_true tA; obtain ⟨ad311, e311, hx311_0⟩ := Kd.at_int (Kd.R_reads' HO310.out).2.2 a2 p311 q311; cases e311; replace p311 := eq_true p311; replace q311 := eq_true q311))
 go_ret2
 exact ⟨tE, tB⟩
end Go.Proofs.Ytbgbblgdbcjibaa.P
