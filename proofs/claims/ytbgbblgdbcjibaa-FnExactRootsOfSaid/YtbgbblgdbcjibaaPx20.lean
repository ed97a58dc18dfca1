/- Functions of the program and what they tell, as the printing program wrote it. -/
import Derived.Test.YtbgbblgdbcjibaaPx0
import Derived.Test.YtbgbblgdbcjibaaPx1
import Derived.Test.YtbgbblgdbcjibaaPx11
import Derived.Test.YtbgbblgdbcjibaaPx12
namespace Go.Proofs.Ytbgbblgdbcjibaa.P
open Go.Shelf Go.RowKit Go.Proofs.YtbgbblgdbcjibaaW.PrintWords Go.Proofs.YtbgbblgdbcjibaaW.PrintLast Go.Proofs.YtbgbblgdbcjibaaW.PrintMore
attribute [local go_sem] max2_int min2_int max_two min_two max_three min_three max_four min_four
set_option linter.unusedVariables false
set_option linter.unusedSimpArgs false
set_option maxHeartbeats 8000000
set_option maxRecDepth 100000
def spec_RootsOf.l0 : Nat → List Int → List Int → Int → Int → Int → Option (List Int × Int)
  | 0, _, _, _, _, _ => none
  | k + 1, x1, x6, x7, x378000, x378001 => (spec_l01Size.f x378000 x378001).bind fun t385 => (if x7 < t385 then ((spec_l03Value.f k x378000 x378001 x1 x7).bind fun t386 => (if t386 = 0 then (if x6.length < 17592186044416 then (spec_RootsOf.l0 k x1 (x6 ++ [x7]) (wrap64 (x7 + 1)) x378000 x378001) else (none)) else (spec_RootsOf.l0 k x1 x6 (wrap64 (x7 + 1)) x378000 x378001))) else (some (x6, 0)))
def spec_RootsOf.f (k : Nat) (a0_0 : Int) (a0_1 : Int) (l1 : List Int) : Option (List Int × Int) := (spec_ValidLinear.f k a0_0 a0_1 l1).bind fun t378 => (if t378 = true then (spec_RootsOf.l0 k l1 (([] : List Int)) 0 a0_0 a0_1) else (some ((([] : List Int)), 1)))
theorem spec_RootsOf.mono_l : ∀ k, (∀ y0 y1 y2 y3 y4, LeO (spec_RootsOf.l0 k y0 y1 y2 y3 y4) (spec_RootsOf.l0 (k + 1) y0 y1 y2 y3 y4))
 | 0 => fun _ _ _ _ _ r h => by simp [spec_RootsOf.l0] at h
 | k + 1 => by
  have ih0 := spec_RootsOf.mono_l k
  ·intro y0 y1 y2 y3 y4
   unfold spec_RootsOf.l0
   repeat' first
   | (with_reducible first | apply ih0 | apply spec_ValidLinear.mono | apply spec_l03Value.mono | exact LeO.refl _ | exact LeO.none _ | refine LeO.ite ?_ ?_ | refine LeO.bind ?_ (fun _ => ?_))
   | exact LeO.none _
   | refine LeO.ite ?_ ?_
   | refine LeO.bind ?_ (fun _ => ?_)
theorem spec_RootsOf.mono : ∀ a0 a1 a2 k, LeO (spec_RootsOf.f k a0 a1 a2) (spec_RootsOf.f (k + 1) a0 a1 a2) := by
 intro a0 a1 a2 k
 have ih0 := spec_RootsOf.mono_l k
 unfold spec_RootsOf.f
 repeat' first
  | (with_reducible first | apply ih0 | apply spec_ValidLinear.mono | apply spec_l03Value.mono | exact LeO.refl _ | exact LeO.none _ | refine LeO.ite ?_ ?_ | refine LeO.bind ?_ (fun _ => ?_))
  | exact LeO.none _
  | refine LeO.ite ?_ ?_
  | refine LeO.bind ?_ (fun _ => ?_)
theorem spec_RootsOf.calls (k : Nat) (a0_0 : Int) (a0_1 : Int) (A1 : Option Addr) (c1 : Nat) (l1 : List Int) (r1 : List Int) (r2 : Int) (w : World) (hr1 : Kd.C (Kd.int .i64) w A1 l1.length l1) (hc1 : l1.length ≤ c1) (h : spec_RootsOf.f k a0_0 a0_1 l1 = some (r1, r2)) :
 Calls Try.prog 22 #[.agg #[.int .i64 a0_0, .int .i64 a0_1], .slice A1 l1.length c1] w fun e w' => ∃ v0_ : Value, e = .returned (.tuple #[v0_, .int .i64 r2]) ∧ Kd.R (Kd.int .i64) 2 w' w.heap.size (fun _ => True) v0_ r1 ∧ Below w.heap.size w w' := by
 have hu26 := Try.underlying26
 have HR1 := Aq.mk hr1
 have HC1 := Aq.mk hc1
 clear hr1 hc1
 have HB := Aq.mk (Below.refl w.heap.size w)
 have H : ((spec_ValidLinear.f k a0_0 a0_1 l1).bind fun t378 => (if t378 = true then (spec_RootsOf.l0 k l1 (([] : List Int)) 0 a0_0 a0_1) else (some ((([] : List Int)), 1)))) = some (r1, r2) := h
 clear h
 obtain ⟨t378, A3, H⟩ := qBd H
 by_cases c4 : t378 = true
 rotate_left
 ·replace c4 := Bool.eq_false_iff.mpr c4
  subst c4
  rw [if_neg (show ¬ (false = true) by decide)] at H
  obtain ⟨y379, hy379⟩ : ∃ y_ : List Int, y_ = (([] : List Int)) := ⟨_, rfl⟩
  replace H : (some (y379, 1)) = some (r1, r2) := by first | (rw [hy379]; with_reducible exact H) | (have H2_ := (Option.bind_some _ _).symm.trans H; rw [hy379]; with_reducible exact H2_) | (have H2_ := (Option.bind_some _ _).symm.trans H; with_reducible exact H2_) | with_reducible exact H | (rw [hy379]; exact H) | exact H
  have Ny379 := Aq.mk hy379
  clear hy379
  simp only [Option.some.injEq, Prod.mk.injEq] at H
  obtain ⟨rfl, rfl⟩ := H
  go_enter Try.func22, Try.ntmps22
  go_wp2_with (first | ((with_reducible refine gQd (N := 2) rfl ?_); refine xQe ?hg (N := 2) ?hd (cs := #[.int .i64 a0_0, .int .i64 a0_1]) (t := 26) ?hr ?_; (case hd => rfl); (case hg => rfl); (case hr => exact tH); intro gb377 hg w26 hbox hb; refine qM4 (bQT tB hb) hbox (tZ w hg) (tZ w hg) ?_; clear HB; intro HB BK377 GW377 GE377; clear hb hbox hg; have hcz27_0 : w26.cell? ⟨gb377, 0, none⟩ = some (.int .i64 a0_0) := (kQC BK377.out 0).trans rfl; have hcz27_1 : w26.cell? ⟨gb377, 1, none⟩ = some (.int .i64 a0_1) := (kQC BK377.out 1).trans rfl; have hfz27_0 := kQF BK377.out 0; have hfz27_1 := kQF BK377.out 1) | ((with_reducible refine gQc (f := 53) rfl ?_); refine goesL_ (some 10) rfl rfl Try.func53 (by kernel_rfl) rfl #[.agg #[.int .i64 a0_0, .int .i64 a0_1], .slice A1 l1.length c1] rfl tL ?_; (with_reducible refine (spec_ValidLinear.calls k a0_0 a0_1 _ _ l1 false _ ?s1 ?s2 A3.out).mono ?_); (case s1 => exact tC ((Kd.C_below HR1.out HB.out))); (case s2 => exact HC1.out); rintro e w28 ⟨rfl, hb⟩; refine ⟨_, rfl, ?_⟩; refine qM2 (tQ BK377.out hb) (bQT tB hb) ?_; clear BK377 HB; intro BK377 HB; (try clear hb); (try clear hb2); (try clear hk); (try clear hi)) | ((with_reducible refine gQd (N := 12) rfl ?_); refine Kd.R_lit (Kd.int .i64) _ 2 ?hg (N := 12) ?hd (xs := ([] : List Int)) (inner := []) (ok := fun _ => True) (okp := fun _ => True) ?hr ?hp (fun _ hk => hk) trivial (Below.refl _ _) (Nat.le_refl _) (by simp) ?_; (case hd => rfl); (case hg => rfl); (case hr => exact tH); (case hp => exact (Reps.none _ _)); intro v380 w29 ho30 hb hg_ hnew_; clear hg_ hnew_; (first | rw [← Ny379.out] at ho30 | (simp only [Int.reduceToNat] at ho30; rw [← Ny379.out] at ho30)); refine qM3 (Kd.R_lower ho30 (bQZ tB)) (tQ BK377.out hb) (bQT tB hb) ?_; clear BK377 HB; intro HO381 BK377 HB; clear hb ho30))
  go_ret2
  exact ⟨_, tE, tR HO381.out, tB⟩
 subst c4
 rw [if_pos rfl] at H
 obtain ⟨y382, hy382⟩ : ∃ y_ : List Int, y_ = (([] : List Int)) := ⟨_, rfl⟩
 replace H : (spec_RootsOf.l0 k l1 y382 0 a0_0 a0_1) = some (r1, r2) := by first | (rw [hy382]; with_reducible exact H) | (have H2_ := (Option.bind_some _ _).symm.trans H; rw [hy382]; with_reducible exact H2_) | (have H2_ := (Option.bind_some _ _).symm.trans H; with_reducible exact H2_) | with_reducible exact H | (rw [hy382]; exact H) | exact H
 have Ny382 := Aq.mk hy382
 clear hy382
 replace H' := Aq.mk H
 clear H
 go_enter Try.func22, Try.ntmps22
 go_wp2_with (first | ((with_reducible refine gQd (N := 2) rfl ?_); refine xQe ?hg (N := 2) ?hd (cs := #[.int .i64 a0_0, .int .i64 a0_1]) (t := 26) ?hr ?_; (case hd => rfl); (case hg => rfl); (case hr => exact tH); intro gb377 hg w5 hbox hb; refine qM4 (bQT tB hb) hbox (tZ w hg) (tZ w hg) ?_; clear HB; intro HB BK377 GW377 GE377; clear hb hbox hg; have hcz6_0 : w5.cell? ⟨gb377, 0, none⟩ = some (.int .i64 a0_0) := (kQC BK377.out 0).trans rfl; have hcz6_1 : w5.cell? ⟨gb377, 1, none⟩ = some (.int .i64 a0_1) := (kQC BK377.out 1).trans rfl; have hfz6_0 := kQF BK377.out 0; have hfz6_1 := kQF BK377.out 1) | ((with_reducible refine gQc (f := 53) rfl ?_); refine goesL_ (some 10) rfl rfl Try.func53 (by kernel_rfl) rfl #[.agg #[.int .i64 a0_0, .int .i64 a0_1], .slice A1 l1.length c1] rfl tL ?_; (with_reducible refine (spec_ValidLinear.calls k a0_0 a0_1 _ _ l1 true _ ?s1 ?s2 A3.out).mono ?_); (case s1 => exact tC ((Kd.C_below HR1.out HB.out))); (case s2 => exact HC1.out); rintro e w7 ⟨rfl, hb⟩; refine ⟨_, rfl, ?_⟩; refine qM2 (tQ BK377.out hb) (bQT tB hb) ?_; clear BK377 HB; intro BK377 HB; (try clear hb); (try clear hb2); (try clear hk); (try clear hi)) | ((with_reducible refine gQd (N := 13) rfl ?_); refine Kd.R_lit (Kd.int .i64) _ 2 ?hg (N := 13) ?hd (xs := ([] : List Int)) (inner := []) (ok := fun _ => True) (okp := fun _ => True) ?hr ?hp (fun _ hk => hk) trivial (Below.refl _ _) (Nat.le_refl _) (by simp) ?_; (case hd => rfl); (case hg => rfl); (case hr => exact tH); (case hp => exact (Reps.none _ _)); intro v383 w8 ho9 hb hg_ hnew_; clear hg_ hnew_; (first | rw [← Ny382.out] at ho9 | (simp only [Int.reduceToNat] at ho9; rw [← Ny382.out] at ho9)); refine qM3 (Kd.R_lower ho9 (bQZ tB)) (tQ BK377.out hb) (bQT tB hb) ?_; clear BK377 HB; intro HO384 BK377 HB; clear hb ho9))
 go_loopg [6, 7] k (fun kq v6 v7 w' => ∃ (x6_1 : List Int) (x7_1 : Int), v7 = .int .i64 x7_1 ∧ Aq (spec_RootsOf.l0 kq l1 x6_1 x7_1 a0_0 a0_1 = some (r1, r2)) ∧ Aq (kq ≤ k) ∧ Aq (Kd.R (Kd.int .i64) 2 w' w.heap.size (fun _ => True) v6 x6_1) ∧ Aq (w'.heap[gb377]? = some (.cells #[.int .i64 a0_0, .int .i64 a0_1] 26 (0, 0))) ∧ Aq (Below w.heap.size w w'))
 case atStart => exact ⟨(y382), (0), tS, H', ⟨Nat.le_refl _⟩, ⟨tR HO384.out⟩, ⟨tG BK377.out⟩, ⟨tB⟩⟩
 clear H'
 try clear c1
 try clear c4
 try clear hcz6_0
 try clear hcz6_1
 try clear hfz6_0
 try clear hfz6_1
 obtain ⟨x6_1, x7_1, rfl, HA, HK1, HO_6, BK377, HB⟩ := hrel
 cases gk with
 | zero => exact absurd HA.out (by simp [spec_RootsOf.l0])
 | succ k1 =>
  have H := HA.out
  clear HA
  simp only [spec_RootsOf.l0] at H
  obtain ⟨t385, A10, H⟩ := qBd H
  by_cases c11 : x7_1 < t385
  rotate_left
  ·rw [if_neg c11] at H
   have c11b0 := decide_eq_false c11
   clear c11
   simp only [Option.some.injEq, Prod.mk.injEq] at H
   obtain ⟨rfl, rfl⟩ := H
   have hcz24_0 : wr.cell? ⟨gb377, 0, none⟩ = some (.int .i64 a0_0) := (kQC BK377.out 0).trans rfl
   have hcz24_1 : wr.cell? ⟨gb377, 1, none⟩ = some (.int .i64 a0_1) := (kQC BK377.out 1).trans rfl
   have hfz24_0 := kQF BK377.out 0
   have hfz24_1 := kQF BK377.out 1
   go_wp2_with (first | ((with_reducible refine gQc (f := 36) rfl ?_); refine goesL_ (some 16) rfl rfl Try.func36 (by kernel_rfl) rfl #[.agg #[.int .i64 a0_0, .int .i64 a0_1]] rfl tL ?_; (with_reducible refine (spec_l01Size.calls a0_0 a0_1 t385 _ A10.out).mono ?_); rintro e w25 ⟨rfl, hb⟩; refine ⟨_, rfl, ?_⟩; refine qM3 (Kd.R_below (tR HO_6.out) hb) (tQ BK377.out hb) (bQT tB hb) ?_; clear HO_6 BK377 HB; intro HO_6 BK377 HB; (try clear hb); (try clear hb2); (try clear hk); (try clear hi)))
   go_ret2
   exact ⟨_, tE, tR HO_6.out, tB⟩
  rw [if_pos c11] at H
  have c11b0 := decide_eq_true c11
  clear c11
  obtain ⟨t386, A12, H⟩ := qBd H
  by_cases c13 : t386 = 0
  rotate_left
  ·rw [if_neg c13] at H
   have c13b0 := beq_eq_false_iff_ne.mpr c13
   have c13b1 := bne_iff_ne.mpr c13
   replace H' := Aq.mk H
   clear H
   have hcz20_0 : wr.cell? ⟨gb377, 0, none⟩ = some (.int .i64 a0_0) := (kQC BK377.out 0).trans rfl
   have hcz20_1 : wr.cell? ⟨gb377, 1, none⟩ = some (.int .i64 a0_1) := (kQC BK377.out 1).trans rfl
   have hfz20_0 := kQF BK377.out 0
   have hfz20_1 := kQF BK377.out 1
   go_wp2_with (first | ((with_reducible refine gQc (f := 36) rfl ?_); refine goesL_ (some 16) rfl rfl Try.func36 (by kernel_rfl) rfl #[.agg #[.int .i64 a0_0, .int .i64 a0_1]] rfl tL ?_; (with_reducible refine (spec_l01Size.calls a0_0 a0_1 t385 _ A10.out).mono ?_); rintro e w21 ⟨rfl, hb⟩; refine ⟨_, rfl, ?_⟩; refine qM3 (Kd.R_below (tR HO_6.out) hb) (tQ BK377.out hb) (bQT tB hb) ?_; clear HO_6 BK377 HB; intro HO_6 BK377 HB; (try clear hb); (try clear hb2); (try clear hk); (try clear hi); have hcz22_0 : w21.cell? ⟨gb377, 0, none⟩ = some (.int .i64 a0_0) := (kQC BK377.out 0).trans rfl; have hcz22_1 : w21.cell? ⟨gb377, 1, none⟩ = some (.int .i64 a0_1) := (kQC BK377.out 1).trans rfl; have hfz22_0 := kQF BK377.out 0; have hfz22_1 := kQF BK377.out 1) | ((with_reducible refine gQc (f := 54) rfl ?_); refine goesL_ (some 23) rfl rfl Try.func54 (by kernel_rfl) rfl #[.agg #[.int .i64 a0_0, .int .i64 a0_1], .slice A1 l1.length c1, .int .i64 x7_1] rfl tL ?_; (with_reducible refine (spec_l03Value.calls k1 a0_0 a0_1 _ _ l1 x7_1 t386 _ ?s1 ?s2 A12.out).mono ?_); (case s1 => exact tC ((Kd.C_below HR1.out HB.out))); (case s2 => exact HC1.out); rintro e w23 ⟨rfl, hb⟩; refine ⟨_, rfl, ?_⟩; refine qM3 (Kd.R_below (tR HO_6.out) hb) (tQ BK377.out hb) (bQT tB hb) ?_; clear HO_6 BK377 HB; intro HO_6 BK377 HB; (try clear hb); (try clear hb2); (try clear hk); (try clear hi)))
   go_roundg k1
   case measure => have := HK1.out; omega
   case rel => exact ⟨(x6_1), (wrap64 (x7_1 + 1)), tS, H', ⟨by have := HK1.out; omega⟩, ⟨tR HO_6.out⟩, ⟨tG BK377.out⟩, ⟨tB⟩⟩
  rw [if_pos c13] at H
  have c13b0 := beq_iff_eq.mpr c13
  have c13b1 := bne_eq_false_iff_eq.mpr c13
  clear c13
  by_cases c14 : x6_1.length < 17592186044416
  rotate_left
  ·rw [if_neg c14] at H
   exact absurd H (by simp)
  rw [if_pos c14] at H
  have LMc14 := Aq.mk c14
  clear c14
  obtain ⟨y387, hy387⟩ : ∃ y_ : List Int, y_ = (x6_1 ++ [x7_1]) := ⟨_, rfl⟩
  replace H : (spec_RootsOf.l0 k1 l1 y387 (wrap64 (x7_1 + 1)) a0_0 a0_1) = some (r1, r2) := by first | (rw [hy387]; with_reducible exact H) | (have H2_ := (Option.bind_some _ _).symm.trans H; rw [hy387]; with_reducible exact H2_) | (have H2_ := (Option.bind_some _ _).symm.trans H; with_reducible exact H2_) | with_reducible exact H | (rw [hy387]; exact H) | exact H
  have Ny387 := Aq.mk hy387
  clear hy387
  replace H' := Aq.mk H
  clear H
  have hcz15_0 : wr.cell? ⟨gb377, 0, none⟩ = some (.int .i64 a0_0) := (kQC BK377.out 0).trans rfl
  have hcz15_1 : wr.cell? ⟨gb377, 1, none⟩ = some (.int .i64 a0_1) := (kQC BK377.out 1).trans rfl
  have hfz15_0 := kQF BK377.out 0
  have hfz15_1 := kQF BK377.out 1
  go_wp2_with (first | ((with_reducible refine gQc (f := 36) rfl ?_); refine goesL_ (some 16) rfl rfl Try.func36 (by kernel_rfl) rfl #[.agg #[.int .i64 a0_0, .int .i64 a0_1]] rfl tL ?_; (with_reducible refine (spec_l01Size.calls a0_0 a0_1 t385 _ A10.out).mono ?_); rintro e w16 ⟨rfl, hb⟩; refine ⟨_, rfl, ?_⟩; refine qM3 (Kd.R_below (tR HO_6.out) hb) (tQ BK377.out hb) (bQT tB hb) ?_; clear HO_6 BK377 HB; intro HO_6 BK377 HB; (try clear hb); (try clear hb2); (try clear hk); (try clear hi); have hcz17_0 : w16.cell? ⟨gb377, 0, none⟩ = some (.int .i64 a0_0) := (kQC BK377.out 0).trans rfl; have hcz17_1 : w16.cell? ⟨gb377, 1, none⟩ = some (.int .i64 a0_1) := (kQC BK377.out 1).trans rfl; have hfz17_0 := kQF BK377.out 0; have hfz17_1 := kQF BK377.out 1) | ((with_reducible refine gQc (f := 54) rfl ?_); refine goesL_ (some 23) rfl rfl Try.func54 (by kernel_rfl) rfl #[.agg #[.int .i64 a0_0, .int .i64 a0_1], .slice A1 l1.length c1, .int .i64 x7_1] rfl tL ?_; (with_reducible refine (spec_l03Value.calls k1 a0_0 a0_1 _ _ l1 x7_1 t386 _ ?s1 ?s2 A12.out).mono ?_); (case s1 => exact tC ((Kd.C_below HR1.out HB.out))); (case s2 => exact HC1.out); rintro e w18 ⟨rfl, hb⟩; refine ⟨_, rfl, ?_⟩; refine qM3 (Kd.R_below (tR HO_6.out) hb) (tQ BK377.out hb) (bQT tB hb) ?_; clear HO_6 BK377 HB; intro HO_6 BK377 HB; (try clear hb); (try clear hb2); (try clear hk); (try clear hi)) | ((with_reducible refine gate_builtin (b := .append) (xs := #[.tmp 25, .tmp 27]) rfl ?_); at_builtin; refine Kd.R_append (Kd.int .i64) (w0 := w) w.heap.size rfl (.tmp 25) (.tmp 27) 29 2 (.int .i64 0) 8 rfl Try.underlying29 info2 rfl (by decide) (by omega) u6 x6_1 x7_1 [.int .i64 x7_1] (fun _ => True) (fun _ => False) rfl rfl ?aP (fun _ hk => hk.elim) ?aF ?aO ?aB ?aS ?aL ?_; (case aP => exact rfl); (case aB => exact tB); (case aF => exact (fun _ _ => trivial)); (case aO => exact (tR HO_6.out)); (case aS => exact (bQZ tB)); (case aL => have := LMc14.out; omega); intro v388 w19 ho hb hg hat; rw [← Ny387.out] at ho; refine qM3 (blk_grown (g := gb377) (o := .cells #[.int .i64 a0_0, .int .i64 a0_1] 26 (0, 0)) (tG BK377.out) hg (Kd.R_ne HO_6.out BK377.out (by decide))) hb ho ?_; clear BK377 HB HO_6; intro BK377 HB HO389; clear ho hb hg hat))
  go_roundg k1
  case measure => have := HK1.out; omega
  case rel => exact ⟨(y387), (wrap64 (x7_1 + 1)), tS, H', ⟨by have := HK1.out; omega⟩, ⟨tR HO389.out⟩, ⟨tG BK377.out⟩, ⟨tB⟩⟩
def impl_RootsOf_1.f (k : Nat) (a0 : Int) (a1_0 : Int) (a1_1 : Int) (l2_0 : List Int) : Option (Bool) := (impl_Field_value.f k a1_0 a1_1 l2_0 a0).bind fun t404 => (some (t404 != 0))
theorem impl_RootsOf_1.mono : ∀ a0 a1 a2 a3 k, LeO (impl_RootsOf_1.f k a0 a1 a2 a3) (impl_RootsOf_1.f (k + 1) a0 a1 a2 a3) := by
 intro a0 a1 a2 a3 k
 unfold impl_RootsOf_1.f
 repeat' first
  | (with_reducible first | apply impl_Field_value.mono | exact LeO.refl _ | exact LeO.none _ | refine LeO.ite ?_ ?_ | refine LeO.bind ?_ (fun _ => ?_))
  | exact LeO.none _
  | refine LeO.ite ?_ ?_
  | refine LeO.bind ?_ (fun _ => ?_)
theorem impl_RootsOf_1.calls (k : Nat) (a0 : Int) (g1_0 : Addr) (a1_0 : Int) (a1_1 : Int) (g2_0 : Addr) (A2_0 : Option Addr) (c2_0 : Nat) (l2_0 : List Int) (r : Bool) (w : World) (hr2_0 : Kd.C (Kd.int .i64) w A2_0 l2_0.length l2_0) (hc2_0 : l2_0.length ≤ c2_0) (hb1_0 : AtC w g1_0 [.int .i64 a1_0, .int .i64 a1_1]) (hb2_0 : AtC w g2_0 [.slice A2_0 l2_0.length c2_0]) (h : impl_RootsOf_1.f k a0 a1_0 a1_1 l2_0 = some r) :
 Calls Try.prog 56 #[.int .i64 a0, .pointer (some g1_0), .pointer (some g2_0)] w fun e w' => e = .returned (.bool r) ∧ Below w.heap.size w w' := by
 have hu26 := Try.underlying26
 have HR2_0 := Aq.mk hr2_0
 have HC2_0 := Aq.mk hc2_0
 clear hr2_0 hc2_0
 have BK48 := Aq.mk hb1_0
 clear hb1_0
 have BK56 := Aq.mk hb2_0
 clear hb2_0
 have HB := Aq.mk (Below.refl w.heap.size w)
 have H : ((impl_Field_value.f k a1_0 a1_1 l2_0 a0).bind fun t404 => (some (t404 != 0))) = some r := h
 clear h
 obtain ⟨t404, A4, H⟩ := qBd H
 obtain rfl := Option.some.inj H
 have hcz5_0 : w.cell? g1_0 = some (.int .i64 a1_0) := AtC.cell0 BK48.out _ rfl
 have hcz5_1 : w.cell? ⟨g1_0.block, g1_0.off + 1, none⟩ = some (.int .i64 a1_1) := AtC.cell BK48.out 1 _ (by decide) rfl
 have hcz6_0 : w.cell? g2_0 = some (.slice A2_0 l2_0.length c2_0) := AtC.cell0 BK56.out _ rfl
 go_enter Try.func56, Try.ntmps56
 go_wp2_with (first | ((with_reducible refine gQc (f := 57) rfl ?_); refine goesL_ (some 8) rfl rfl Try.func57 (by kernel_rfl) rfl #[.agg #[.int .i64 a1_0, .int .i64 a1_1], .slice A2_0 l2_0.length c2_0, .int .i64 a0] rfl tL ?_; (with_reducible refine (impl_Field_value.calls k a1_0 a1_1 _ _ l2_0 a0 t404 _ ?s1 ?s2 A4.out).mono ?_); (case s1 => exact tC HR2_0.out); (case s2 => exact HC2_0.out); rintro e w7 ⟨rfl, hb⟩; refine ⟨_, rfl, ?_⟩; refine qM1 (bQT tB hb) ?_; clear HB; intro HB; (try clear hb); (try clear hb2); (try clear hk); (try clear hi)))
 go_ret
 exact ⟨tE, tB⟩
def slices_IndexFunc_int64_int64_AT_impl_RootsOf_1.l0 : Nat → List Int → Int → Int → Int → Int → List Int → Option (Int)
  | 0, _, _, _, _, _, _ => none
  | k + 1, x0, x7, x8, x49000, x49001, x50000 => if x8 < x7 then (if 0 ≤ x8 then (if x8 < (x0.length : Int) then ((impl_RootsOf_1.f k (rd x0 x8) x49000 x49001 x50000).bind fun t406 => (if t406 = true then (some x8) else (slices_IndexFunc_int64_int64_AT_impl_RootsOf_1.l0 k x0 x7 (wrap64 (x8 + 1)) x49000 x49001 x50000))) else (none)) else (none)) else (some (-1))
def slices_IndexFunc_int64_int64_AT_impl_RootsOf_1.f (k : Nat) (l0 : List Int) (a1_0 : Int) (a1_1 : Int) (l1_2 : List Int) : Option (Int) := slices_IndexFunc_int64_int64_AT_impl_RootsOf_1.l0 k l0 (l0.length : Int) 0 a1_0 a1_1 l1_2
theorem slices_IndexFunc_int64_int64_AT_impl_RootsOf_1.mono_l : ∀ k, (∀ y0 y1 y2 y3 y4 y5, LeO (slices_IndexFunc_int64_int64_AT_impl_RootsOf_1.l0 k y0 y1 y2 y3 y4 y5) (slices_IndexFunc_int64_int64_AT_impl_RootsOf_1.l0 (k + 1) y0 y1 y2 y3 y4 y5))
 | 0 => fun _ _ _ _ _ _ r h => by simp [slices_IndexFunc_int64_int64_AT_impl_RootsOf_1.l0] at h
 | k + 1 => by
  have ih0 := slices_IndexFunc_int64_int64_AT_impl_RootsOf_1.mono_l k
  ·intro y0 y1 y2 y3 y4 y5
   unfold slices_IndexFunc_int64_int64_AT_impl_RootsOf_1.l0
   repeat' first
   | (with_reducible first | apply ih0 | apply impl_RootsOf_1.mono | exact LeO.refl _ | exact LeO.none _ | refine LeO.ite ?_ ?_ | refine LeO.bind ?_ (fun _ => ?_))
   | exact LeO.none _
   | refine LeO.ite ?_ ?_
   | refine LeO.bind ?_ (fun _ => ?_)
theorem slices_IndexFunc_int64_int64_AT_impl_RootsOf_1.mono : ∀ a0 a1 a2 a3 k, LeO (slices_IndexFunc_int64_int64_AT_impl_RootsOf_1.f k a0 a1 a2 a3) (slices_IndexFunc_int64_int64_AT_impl_RootsOf_1.f (k + 1) a0 a1 a2 a3) := by
 intro a0 a1 a2 a3 k
 have ih0 := slices_IndexFunc_int64_int64_AT_impl_RootsOf_1.mono_l k
 unfold slices_IndexFunc_int64_int64_AT_impl_RootsOf_1.f
 repeat' first
  | (with_reducible first | apply ih0 | apply impl_RootsOf_1.mono | exact LeO.refl _ | exact LeO.none _ | refine LeO.ite ?_ ?_ | refine LeO.bind ?_ (fun _ => ?_))
  | exact LeO.none _
  | refine LeO.ite ?_ ?_
  | refine LeO.bind ?_ (fun _ => ?_)
theorem slices_IndexFunc_int64_int64_AT_impl_RootsOf_1.calls (k : Nat) (A0 : Option Addr) (c0 : Nat) (l0 : List Int) (g1_0 : Addr) (g1_1 : Addr) (a1_0 : Int) (a1_1 : Int) (A1_2 : Option Addr) (c1_2 : Nat) (l1_2 : List Int) (r : Int) (w : World) (hr0 : Kd.C (Kd.int .i64) w A0 l0.length l0) (hc0 : l0.length ≤ c0) (hr1_2 : Kd.C (Kd.int .i64) w A1_2 l1_2.length l1_2) (hc1_2 : l1_2.length ≤ c1_2) (hb1_0 : AtC w g1_0 [.int .i64 a1_0, .int .i64 a1_1]) (hb1_1 : AtC w g1_1 [.slice A1_2 l1_2.length c1_2]) (h : slices_IndexFunc_int64_int64_AT_impl_RootsOf_1.f k l0 a1_0 a1_1 l1_2 = some r) :
 Calls Try.prog 49 #[.slice A0 l0.length c0, .func (.func 56) #[] #[.pointer (some g1_0), .pointer (some g1_1)]] w fun e w' => e = .returned (.int .i64 r) ∧ Below w.heap.size w w' := by
 have eg56 : ∀ (args_ : Array Value) (w_ : World), (callFunc 56 args_).run Try.prog w_ = .ok (.enter 56 args_) w_ := enters_of Try.func56 (by kernel_rfl) rfl
 have HR0 := Aq.mk hr0
 have HC0 := Aq.mk hc0
 clear hr0 hc0
 have HR1_2 := Aq.mk hr1_2
 have HC1_2 := Aq.mk hc1_2
 clear hr1_2 hc1_2
 have BK48 := Aq.mk hb1_0
 clear hb1_0
 have BK49 := Aq.mk hb1_1
 clear hb1_1
 have HB := Aq.mk (Below.refl w.heap.size w)
 have H : (slices_IndexFunc_int64_int64_AT_impl_RootsOf_1.l0 k l0 (l0.length : Int) 0 a1_0 a1_1 l1_2) = some r := h
 clear h
 replace H' := Aq.mk H
 clear H
 go_enter Try.func49, Try.ntmps49
 go_wp2
 go_loopg [8] k (fun kq v8 w' => ∃ (x8_1 : Int), v8 = .int .i64 x8_1 ∧ Aq (slices_IndexFunc_int64_int64_AT_impl_RootsOf_1.l0 kq l0 (l0.length : Int) x8_1 a1_0 a1_1 l1_2 = some r) ∧ Aq (kq ≤ k) ∧ Aq (Below w.heap.size w w'))
 case atStart => exact ⟨(0), tS, H', ⟨Nat.le_refl _⟩, ⟨tB⟩⟩
 clear H'
 obtain ⟨x8_1, rfl, HA, HK1, HB⟩ := hrel
 cases gk with
 | zero => exact absurd HA.out (by simp [slices_IndexFunc_int64_int64_AT_impl_RootsOf_1.l0])
 | succ k1 =>
  have H := HA.out
  clear HA
  simp only [slices_IndexFunc_int64_int64_AT_impl_RootsOf_1.l0] at H
  by_cases c3 : x8_1 < (l0.length : Int)
  rotate_left
  ·rw [if_neg c3] at H
   have c3b0 := decide_eq_false c3
   clear c3
   obtain rfl := Option.some.inj H
   go_wp2
   go_ret
   exact ⟨tE, tB⟩
  rw [if_pos c3] at H
  have c3b0 := decide_eq_true c3
  clear c3
  by_cases c4 : 0 ≤ x8_1
  rotate_left
  ·rw [if_neg c4] at H
   exact absurd H (by simp)
  rw [if_pos c4] at H
  have c4b0 := decide_eq_true c4
  clear c4
  by_cases c5 : x8_1 < (l0.length : Int)
  rotate_left
  ·rw [if_neg c5] at H
   exact absurd H (by simp)
  rw [if_pos c5] at H
  have c5b0 := decide_eq_true c5
  clear c5
  obtain ⟨t406, A6, H⟩ := qBd H
  by_cases c7 : t406 = true
  ·subst c7
   rw [if_pos rfl] at H
   obtain rfl := Option.some.inj H
   have p405 : 0 ≤ (x8_1 : Int) := of_decide_eq_true tA
   have q405 : x8_1 < (l0.length : Int) := of_decide_eq_true tA
   obtain ⟨ad405, e405, hx405_0⟩ := Kd.at_int HR0.out x8_1 p405 q405
   cases e405
   replace hx405_0 := (HB.out.cell (World.block_lt_of_cell? w _ hx405_0)).trans hx405_0
   replace p405 := eq_true p405
   replace q405 := eq_true q405
   go_wp2_with (first | (go_at_fn 56; (with_reducible refine (impl_RootsOf_1.calls k1 (rd l0 x8_1) (g1_0 : Addr) a1_0 a1_1 (g1_1 : Addr) A1_2 c1_2 l1_2 true _ ?s1 ?s2 ?s3 ?s4 A6.out).mono ?_); (case s1 => exact tC ((Kd.C_below HR1_2.out HB.out))); (case s2 => exact HC1_2.out); (case s3 => repeat (first | exact (AtC.below BK48.out HB.out) | (with_reducible refine AtC.alloc ?_ _) | (with_reducible refine AtC.drewN ?_ _) | (with_reducible refine AtC.drew ?_))); (case s4 => repeat (first | exact (AtC.below BK49.out HB.out) | (with_reducible refine AtC.alloc ?_ _) | (with_reducible refine AtC.drewN ?_ _) | (with_reducible refine AtC.drew ?_))); rintro e w8 ⟨rfl, hb⟩; refine qM1 (bQT tB hb) ?_; clear HB; intro HB; (try clear hb); (try clear hb2); (try clear hk); (try clear hi)))
   go_ret
   exact ⟨tE, tB⟩
  replace c7 := Bool.eq_false_iff.mpr c7
  subst c7
  rw [if_neg (show ¬ (false = true) by decide)] at H
  replace H' := Aq.mk H
  clear H
  have p405 : 0 ≤ (x8_1 : Int) := of_decide_eq_true tA
  have q405 : x8_1 < (l0.length : Int) := of_decide_eq_true tA
  obtain ⟨ad405, e405, hx405_0⟩ := Kd.at_int HR0.out x8_1 p405 q405
  cases e405
  replace hx405_0 := (HB.out.cell (World.block_lt_of_cell? w _ hx405_0)).trans hx405_0
  replace p405 := eq_true p405
  replace q405 := eq_true q405
  go_wp2_with (first | (go_at_fn 56; (with_reducible refine (impl_RootsOf_1.calls k1 (rd l0 x8_1) (g1_0 : Addr) a1_0 a1_1 (g1_1 : Addr) A1_2 c1_2 l1_2 false _ ?s1 ?s2 ?s3 ?s4 A6.out).mono ?_); (case s1 => exact tC ((Kd.C_below HR1_2.out HB.out))); (case s2 => exact HC1_2.out); (case s3 => repeat (first | exact (AtC.below BK48.out HB.out) | (with_reducible refine AtC.alloc ?_ _) | (with_reducible refine AtC.drewN ?_ _) | (with_reducible refine AtC.drew ?_))); (case s4 => repeat (first | exact (AtC.below BK49.out HB.out) | (with_reducible refine AtC.alloc ?_ _) | (with_reducible refine AtC.drewN ?_ _) | (with_reducible refine AtC.drew ?_))); rintro e w9 ⟨rfl, hb⟩; refine qM1 (bQT tB hb) ?_; clear HB; intro HB; (try clear hb); (try clear hb2); (try clear hk); (try clear hi)))
  go_roundg k1
  case measure => have := HK1.out; omega
  case rel => exact ⟨(wrap64 (x8_1 + 1)), tS, H', ⟨by have := HK1.out; omega⟩, ⟨tB⟩⟩
end Go.Proofs.Ytbgbblgdbcjibaa.P
