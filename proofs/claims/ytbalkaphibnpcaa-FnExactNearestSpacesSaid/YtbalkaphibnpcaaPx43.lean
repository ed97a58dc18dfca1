/- Functions of the program and what they tell, as the printing program wrote it. -/
import Derived.Test.YtbalkaphibnpcaaPx0
import Derived.Test.YtbalkaphibnpcaaPx20
import Derived.Test.YtbalkaphibnpcaaPx21
import Derived.Test.YtbalkaphibnpcaaPx42
namespace Go.Proofs.Ytbalkaphibnpcaa.P
open Go.Shelf Go.RowKit Go.Proofs.YtbalkaphibnpcaaW.PrintWords Go.Proofs.YtbalkaphibnpcaaW.PrintLast Go.Proofs.YtbalkaphibnpcaaW.PrintMore
attribute [local go_sem] max2_int min2_int max_two min_two max_three min_three max_four min_four
set_option linter.unusedVariables false
set_option linter.unusedSimpArgs false
set_option maxHeartbeats 8000000
set_option maxRecDepth 100000
mutual
def spec_NearestSpaces.j0 : Nat → List (S63) → Bool → Int → List Int → Option (Int × List Int × Int)
  | 0, _, _, _, _ => none
  | k + 1, x0, x17, x770000, x770001 => if x17 = true then (some (0, (([] : List Int)), 1)) else (if 0 < (x0.length : Int) then (if x770000 = ((rd_T63 x0 0).f0) then (spec_NearestSpaces.l0 k x0 21 (([] : List Int)) 0 x770000 x770001) else (some (0, (([] : List Int)), 2))) else (none))
def spec_NearestSpaces.l0 : Nat → List (S63) → Int → List Int → Int → Int → List Int → Option (Int × List Int × Int)
  | 0, _, _, _, _, _, _ => none
  | k + 1, x0, x7, x8, x9, x770000, x770001 => if x9 < (x0.length : Int) then (if 0 ≤ x9 then ((spec_l02Distance.f k ((rd_T63 x0 x9).f0) ((rd_T63 x0 x9).f1) x770000 x770001).bind fun t783 => (if t783 < x7 then ((some (([] : List Int) : List Int)).bind fun y784 => (if y784.length < 17592186044416 then (spec_NearestSpaces.l0 k x0 t783 (y784 ++ [x9]) (wrap64 (x9 + 1)) x770000 x770001) else (none))) else (if t783 = x7 then (if x8.length < 17592186044416 then (spec_NearestSpaces.l0 k x0 x7 (x8 ++ [x9]) (wrap64 (x9 + 1)) x770000 x770001) else (none)) else (spec_NearestSpaces.l0 k x0 x7 x8 (wrap64 (x9 + 1)) x770000 x770001)))) else (none)) else (some (x7, x8, 0))
end
def spec_NearestSpaces.f (k : Nat) (l0 : List (S63)) (a1_0 : Int) (l1_1 : List Int) : Option (Int × List Int × Int) := (spec_l06Ok.f k l0).bind fun t770 => (if t770 = true then ((spec_l02Space.f k a1_0 l1_1).bind fun t771 => (spec_NearestSpaces.j0 k l0 (!t771) a1_0 l1_1)) else (spec_NearestSpaces.j0 k l0 true a1_0 l1_1))
theorem spec_NearestSpaces.mono_l : ∀ k, (∀ y0 y1 y2 y3, LeO (spec_NearestSpaces.j0 k y0 y1 y2 y3) (spec_NearestSpaces.j0 (k + 1) y0 y1 y2 y3)) ∧ (∀ y0 y1 y2 y3 y4 y5, LeO (spec_NearestSpaces.l0 k y0 y1 y2 y3 y4 y5) (spec_NearestSpaces.l0 (k + 1) y0 y1 y2 y3 y4 y5))
 | 0 => ⟨fun _ _ _ _ r h => by simp [spec_NearestSpaces.j0] at h, fun _ _ _ _ _ _ r h => by simp [spec_NearestSpaces.l0] at h⟩
 | k + 1 => by
  obtain ⟨ih0, ih1⟩ := spec_NearestSpaces.mono_l k
  refine ⟨?_, ?_⟩ <;> intros <;> first | unfold spec_NearestSpaces.j0 | unfold spec_NearestSpaces.l0
  all_goals repeat' first
   | (with_reducible first | apply ih0 | apply ih1 | apply spec_l02Distance.mono | apply spec_l02Space.mono | apply spec_l06Ok.mono | exact LeO.refl _ | exact LeO.none _ | refine LeO.ite ?_ ?_ | refine LeO.bind ?_ (fun _ => ?_))
   | exact LeO.none _
   | refine LeO.ite ?_ ?_
   | refine LeO.bind ?_ (fun _ => ?_)
theorem spec_NearestSpaces.mono : ∀ a0 a1 a2 k, LeO (spec_NearestSpaces.f k a0 a1 a2) (spec_NearestSpaces.f (k + 1) a0 a1 a2) := by
 intro a0 a1 a2 k
 obtain ⟨ih0, ih1⟩ := spec_NearestSpaces.mono_l k
 unfold spec_NearestSpaces.f
 repeat' first
  | (with_reducible first | apply ih0 | apply ih1 | apply spec_l02Distance.mono | apply spec_l02Space.mono | apply spec_l06Ok.mono | exact LeO.refl _ | exact LeO.none _ | refine LeO.ite ?_ ?_ | refine LeO.bind ?_ (fun _ => ?_))
  | exact LeO.none _
  | refine LeO.ite ?_ ?_
  | refine LeO.bind ?_ (fun _ => ?_)
theorem spec_NearestSpaces.calls (k : Nat) (A0 : Option Addr) (c0 : Nat) (l0 : List (S63)) (a1_0 : Int) (A1_1 : Option Addr) (c1_1 : Nat) (l1_1 : List Int) (r1 : Int) (r2 : List Int) (r3 : Int) (w : World) (hr0 : Kd.C k63 w A0 l0.length l0) (hc0 : l0.length ≤ c0) (hr1_1 : Kd.C (Kd.int .i64) w A1_1 l1_1.length l1_1) (hc1_1 : l1_1.length ≤ c1_1) (h : spec_NearestSpaces.f k l0 a1_0 l1_1 = some (r1, r2, r3)) :
 Calls Try.prog 35 #[.slice A0 l0.length c0, .agg #[.int .i64 a1_0, .slice A1_1 l1_1.length c1_1]] w fun e w' => ∃ v1_ : Value, e = .returned (.tuple #[.int .i64 r1, v1_, .int .i64 r3]) ∧ Kd.R (Kd.int .i64) 2 w' w.heap.size (fun _ => True) v1_ r2 ∧ Below w.heap.size w w' := by
 have hu63 := Try.underlying63
 have HR0 := Aq.mk hr0
 have HC0 := Aq.mk hc0
 clear hr0 hc0
 have HR1_1 := Aq.mk hr1_1
 have HC1_1 := Aq.mk hc1_1
 clear hr1_1 hc1_1
 have HB := Aq.mk (Below.refl w.heap.size w)
 have H : ((spec_l06Ok.f k l0).bind fun t770 => (if t770 = true then ((spec_l02Space.f k a1_0 l1_1).bind fun t771 => (spec_NearestSpaces.j0 k l0 (!t771) a1_0 l1_1)) else (spec_NearestSpaces.j0 k l0 true a1_0 l1_1))) = some (r1, r2, r3) := h
 clear h
 have HC3 := Aq.mk H
 clear H
 go_enter Try.func35, Try.ntmps35
 go_upto_region 1 with (first | ((with_reducible refine gQd (N := 3) rfl ?_); refine xQe ?hg (N := 3) ?hd (cs := #[.int .i64 a1_0, .slice A1_1 l1_1.length c1_1]) (t := 63) ?hr ?_; (case hd => rfl); (case hg => rfl); (case hr => exact tH); intro gb769 hg w4 hbox hb; refine qM4 (bQT tB hb) hbox (tZ w hg) (tZ w hg) ?_; clear HB; intro HB BK769 GW769 GE769; clear hb hbox hg))
 repeat (go_quiet (first | ((with_reducible refine gQd (N := 3) rfl ?_); refine xQe ?hg (N := 3) ?hd (cs := #[.int .i64 a1_0, .slice A1_1 l1_1.length c1_1]) (t := 63) ?hr ?_; (case hd => rfl); (case hg => rfl); (case hr => exact tH); intro gb769 hg w4 hbox hb; refine qM4 (bQT tB hb) hbox (tZ w hg) (tZ w hg) ?_; clear HB; intro HB BK769 GW769 GE769; clear hb hbox hg)); go_upto_region 1 with (first | ((with_reducible refine gQd (N := 3) rfl ?_); refine xQe ?hg (N := 3) ?hd (cs := #[.int .i64 a1_0, .slice A1_1 l1_1.length c1_1]) (t := 63) ?hr ?_; (case hd => rfl); (case hg => rfl); (case hr => exact tH); intro gb769 hg w4 hbox hb; refine qM4 (bQT tB hb) hbox (tZ w hg) (tZ w hg) ?_; clear HB; intro HB BK769 GW769 GE769; clear hb hbox hg)))
 (try simp only [Act.put, qSa, qSb, qSc])
 go_cut [17] (fun v17 wc => ∃ (kq : Nat) (x17_2 : Bool), v17 = .bool x17_2 ∧ Aq (spec_NearestSpaces.j0 kq l0 x17_2 a1_0 l1_1 = some (r1, r2, r3)) ∧ Aq (kq ≤ k) ∧ Aq (wc.heap[gb769]? = some (.cells #[.int .i64 a1_0, (.slice A1_1 l1_1.length c1_1)] 63 (0, 0))) ∧ Aq (Below w.heap.size w wc))
 case first =>
  have H := HC3.out
  clear HC3
  obtain ⟨t770, A5, H⟩ := qBd H
  by_cases c6 : t770 = true
  ·subst c6
   rw [if_pos rfl] at H
   obtain ⟨t771, A7, H⟩ := qBd H
   replace H' := Aq.mk H
   clear H
   go_wp2_with (first | (go_at_call 53; (with_reducible refine (spec_l06Ok.calls k _ _ l0 true _ ?s1 ?s2 A5.out).mono ?_); (case s1 => exact tC ((Kd.C_below HR0.out HB.out))); (case s2 => exact HC0.out); rintro e w8 ⟨rfl, hb⟩; refine qM2 (tQ BK769.out hb) (bQT tB hb) ?_; clear BK769 HB; intro BK769 HB; (try clear hb); (try clear hb2); (try clear hk); (try clear hi)) | (go_at_call 57; (with_reducible refine (spec_l02Space.calls k (⟨gb769, 0, none⟩ : Addr) a1_0 A1_1 c1_1 l1_1 t771 _ ?s1 ?s2 ?s3 A7.out).mono ?_); (case s1 => exact tC ((Kd.C_below HR1_1.out HB.out))); (case s2 => exact HC1_1.out); (case s3 => exact AtC.of_blk (g := gb769) (t := 63) (cs := #[.int .i64 a1_0, .slice A1_1 l1_1.length c1_1]) (tG BK769.out) rfl); rintro e w9 ⟨rfl, hb⟩; refine qM2 (tQ BK769.out hb) (bQT tB hb) ?_; clear BK769 HB; intro BK769 HB; (try clear hb); (try clear hb2); (try clear hk); (try clear hi)))
   repeat (go_quiet (first | (go_at_call 53; (with_reducible refine (spec_l06Ok.calls k _ _ l0 true _ ?s1 ?s2 A5.out).mono ?_); (case s1 => exact tC ((Kd.C_below HR0.out HB.out))); (case s2 => exact HC0.out); rintro e w8 ⟨rfl, hb⟩; refine qM2 (tQ BK769.out hb) (bQT tB hb) ?_; clear BK769 HB; intro BK769 HB; (try clear hb); (try clear hb2); (try clear hk); (try clear hi)) | (go_at_call 57; (with_reducible refine (spec_l02Space.calls k (⟨gb769, 0, none⟩ : Addr) a1_0 A1_1 c1_1 l1_1 t771 _ ?s1 ?s2 ?s3 A7.out).mono ?_); (case s1 => exact tC ((Kd.C_below HR1_1.out HB.out))); (case s2 => exact HC1_1.out); (case s3 => exact AtC.of_blk (g := gb769) (t := 63) (cs := #[.int .i64 a1_0, .slice A1_1 l1_1.length c1_1]) (tG BK769.out) rfl); rintro e w9 ⟨rfl, hb⟩; refine qM2 (tQ BK769.out hb) (bQT tB hb) ?_; clear BK769 HB; intro BK769 HB; (try clear hb); (try clear hb2); (try clear hk); (try clear hi))); try go_wp2_with (first | (go_at_call 53; (with_reducible refine (spec_l06Ok.calls k _ _ l0 true _ ?s1 ?s2 A5.out).mono ?_); (case s1 => exact tC ((Kd.C_below HR0.out HB.out))); (case s2 => exact HC0.out); rintro e w8 ⟨rfl, hb⟩; refine qM2 (tQ BK769.out hb) (bQT tB hb) ?_; clear BK769 HB; intro BK769 HB; (try clear hb); (try clear hb2); (try clear hk); (try clear hi)) | (go_at_call 57; (with_reducible refine (spec_l02Space.calls k (⟨gb769, 0, none⟩ : Addr) a1_0 A1_1 c1_1 l1_1 t771 _ ?s1 ?s2 ?s3 A7.out).mono ?_); (case s1 => exact tC ((Kd.C_below HR1_1.out HB.out))); (case s2 => exact HC1_1.out); (case s3 => exact AtC.of_blk (g := gb769) (t := 63) (cs := #[.int .i64 a1_0, .slice A1_1 l1_1.length c1_1]) (tG BK769.out) rfl); rintro e w9 ⟨rfl, hb⟩; refine qM2 (tQ BK769.out hb) (bQT tB hb) ?_; clear BK769 HB; intro BK769 HB; (try clear hb); (try clear hb2); (try clear hk); (try clear hi))))
   go_meet
   case rel => exact ⟨_, (!t771), tS, H', ⟨tO⟩, ⟨tG BK769.out⟩, ⟨tB⟩⟩
  replace c6 := Bool.eq_false_iff.mpr c6
  subst c6
  rw [if_neg (show ¬ (false = true) by decide)] at H
  replace H' := Aq.mk H
  clear H
  go_wp2_with (first | (go_at_call 53; (with_reducible refine (spec_l06Ok.calls k _ _ l0 false _ ?s1 ?s2 A5.out).mono ?_); (case s1 => exact tC ((Kd.C_below HR0.out HB.out))); (case s2 => exact HC0.out); rintro e w10 ⟨rfl, hb⟩; refine qM2 (tQ BK769.out hb) (bQT tB hb) ?_; clear BK769 HB; intro BK769 HB; (try clear hb); (try clear hb2); (try clear hk); (try clear hi)))
  repeat (go_quiet (first | (go_at_call 53; (with_reducible refine (spec_l06Ok.calls k _ _ l0 false _ ?s1 ?s2 A5.out).mono ?_); (case s1 => exact tC ((Kd.C_below HR0.out HB.out))); (case s2 => exact HC0.out); rintro e w10 ⟨rfl, hb⟩; refine qM2 (tQ BK769.out hb) (bQT tB hb) ?_; clear BK769 HB; intro BK769 HB; (try clear hb); (try clear hb2); (try clear hk); (try clear hi))); try go_wp2_with (first | (go_at_call 53; (with_reducible refine (spec_l06Ok.calls k _ _ l0 false _ ?s1 ?s2 A5.out).mono ?_); (case s1 => exact tC ((Kd.C_below HR0.out HB.out))); (case s2 => exact HC0.out); rintro e w10 ⟨rfl, hb⟩; refine qM2 (tQ BK769.out hb) (bQT tB hb) ?_; clear BK769 HB; intro BK769 HB; (try clear hb); (try clear hb2); (try clear hk); (try clear hi))))
  go_meet
  case rel => exact ⟨_, (true), tS, H', ⟨tO⟩, ⟨tG BK769.out⟩, ⟨tB⟩⟩
 clear HC3
 try clear c6
 obtain ⟨kq, x17_2, rfl, HA, HJ2, BK769, HB⟩ := hcut
 cases kq with
 | zero => exact absurd HA.out (by simp [spec_NearestSpaces.j0])
 | succ kj2 =>
  have H := HA.out
  clear HA
  simp only [spec_NearestSpaces.j0] at H
  by_cases c11 : x17_2 = true
  ·subst c11
   rw [if_pos rfl] at H
   obtain ⟨y772, hy772⟩ : ∃ y_ : List Int, y_ = (([] : List Int)) := ⟨_, rfl⟩
   replace H : (some (0, y772, 1)) = some (r1, r2, r3) := by first | (rw [hy772]; with_reducible exact H) | (have H2_ := (Option.bind_some _ _).symm.trans H; rw [hy772]; with_reducible exact H2_) | (have H2_ := (Option.bind_some _ _).symm.trans H; with_reducible exact H2_) | with_reducible exact H | (rw [hy772]; exact H) | exact H
   have Ny772 := Aq.mk hy772
   clear hy772
   simp only [Option.some.injEq, Prod.mk.injEq] at H
   obtain ⟨rfl, rfl, rfl⟩ := H
   go_wp2_with (first | ((with_reducible refine gQd (N := 18) rfl ?_); refine Kd.R_lit (Kd.int .i64) _ 2 ?hg (N := 18) ?hd (xs := ([] : List Int)) (inner := []) (ok := fun _ => True) (okp := fun _ => True) ?hr ?hp (fun _ hk => hk) trivial (Below.refl _ _) (Nat.le_refl _) (by simp) ?_; (case hd => rfl); (case hg => rfl); (case hr => exact tH); (case hp => exact (Reps.none _ _)); intro v773 w12 ho13 hb hg_ hnew_; clear hg_ hnew_; (first | rw [← Ny772.out] at ho13 | (simp only [Int.reduceToNat] at ho13; rw [← Ny772.out] at ho13)); refine qM3 (Kd.R_lower ho13 (bQZ tB)) (tQ BK769.out hb) (bQT tB hb) ?_; clear BK769 HB; intro HO774 BK769 HB; clear hb ho13))
   repeat (go_quiet (first | ((with_reducible refine gQd (N := 18) rfl ?_); refine Kd.R_lit (Kd.int .i64) _ 2 ?hg (N := 18) ?hd (xs := ([] : List Int)) (inner := []) (ok := fun _ => True) (okp := fun _ => True) ?hr ?hp (fun _ hk => hk) trivial (Below.refl _ _) (Nat.le_refl _) (by simp) ?_; (case hd => rfl); (case hg => rfl); (case hr => exact tH); (case hp => exact (Reps.none _ _)); intro v773 w12 ho13 hb hg_ hnew_; clear hg_ hnew_; (first | rw [← Ny772.out] at ho13 | (simp only [Int.reduceToNat] at ho13; rw [← Ny772.out] at ho13)); refine qM3 (Kd.R_lower ho13 (bQZ tB)) (tQ BK769.out hb) (bQT tB hb) ?_; clear BK769 HB; intro HO774 BK769 HB; clear hb ho13)); try go_wp2_with (first | ((with_reducible refine gQd (N := 18) rfl ?_); refine Kd.R_lit (Kd.int .i64) _ 2 ?hg (N := 18) ?hd (xs := ([] : List Int)) (inner := []) (ok := fun _ => True) (okp := fun _ => True) ?hr ?hp (fun _ hk => hk) trivial (Below.refl _ _) (Nat.le_refl _) (by simp) ?_; (case hd => rfl); (case hg => rfl); (case hr => exact tH); (case hp => exact (Reps.none _ _)); intro v773 w12 ho13 hb hg_ hnew_; clear hg_ hnew_; (first | rw [← Ny772.out] at ho13 | (simp only [Int.reduceToNat] at ho13; rw [← Ny772.out] at ho13)); refine qM3 (Kd.R_lower ho13 (bQZ tB)) (tQ BK769.out hb) (bQT tB hb) ?_; clear BK769 HB; intro HO774 BK769 HB; clear hb ho13)))
   go_ret3
   exact ⟨_, tE, tR HO774.out, tB⟩
  replace c11 := Bool.eq_false_iff.mpr c11
  subst c11
  rw [if_neg (show ¬ (false = true) by decide)] at H
  by_cases c14 : 0 < (l0.length : Int)
  rotate_left
  ·rw [if_neg c14] at H
   exact absurd H (by simp)
  rw [if_pos c14] at H
  have c14b0 := decide_eq_true c14
  have c14b1 : decide (0 < l0.length) = true := decide_eq_true (by omega)
  clear c14
  by_cases c15 : a1_0 = ((rd_T63 l0 0).f0)
  rotate_left
  ·rw [if_neg c15] at H
   have c15b0 := beq_eq_false_iff_ne.mpr c15
   have c15b1 := bne_iff_ne.mpr c15
   obtain ⟨y776, hy776⟩ : ∃ y_ : List Int, y_ = (([] : List Int)) := ⟨_, rfl⟩
   replace H : (some (0, y776, 2)) = some (r1, r2, r3) := by first | (rw [hy776]; with_reducible exact H) | (have H2_ := (Option.bind_some _ _).symm.trans H; rw [hy776]; with_reducible exact H2_) | (have H2_ := (Option.bind_some _ _).symm.trans H; with_reducible exact H2_) | with_reducible exact H | (rw [hy776]; exact H) | exact H
   have Ny776 := Aq.mk hy776
   clear hy776
   simp only [Option.some.injEq, Prod.mk.injEq] at H
   obtain ⟨rfl, rfl, rfl⟩ := H
   have hcz33_0 : wc.cell? ⟨gb769, 0, none⟩ = some (.int .i64 a1_0) := (kQC BK769.out 0).trans rfl
   have hcz33_1 : wc.cell? ⟨gb769, 1, none⟩ = some (.slice A1_1 l1_1.length c1_1) := (kQC BK769.out 1).trans rfl
   have hfz33_0 := kQF BK769.out 0
   have hfz33_1 := kQF BK769.out 1
   have p775 : 0 ≤ (0 : Int) := (by omega)
   have q775 : 0 < (l0.length : Int) := of_decide_eq_true tA
   obtain ⟨ad775, A775_1, c775_1, e775, hx775_0, hx775_1, hl775_1, hi775_1⟩ := at_T63 HR0.out 0 p775 q775
   cases e775
   have qi775 : (0 < l0.length) = True := eq_true (by omega)
   (try rw [show ((0 : Int)).toNat = 0 from rfl] at hx775_0)
   (try rw [show 0 * 2 = 0 from rfl] at hx775_0)
   (try rw [Addr.add_zero'] at hx775_0)
   (try rw [show ((0 : Int)).toNat = 0 from rfl] at hx775_1)
   (try rw [show 0 * 2 = 0 from rfl] at hx775_1)
   (try rw [Addr.add_zero'] at hx775_1)
   replace hx775_0 := (HB.out.cell (World.block_lt_of_cell? w _ hx775_0)).trans hx775_0
   replace hx775_1 := (HB.out.cell (World.block_lt_of_cell? w _ hx775_1)).trans hx775_1
   have HR775_1 := Aq.mk hi775_1
   have HC775_1 := Aq.mk hl775_1
   clear hi775_1 hl775_1
   replace p775 := eq_true p775
   replace q775 := eq_true q775
   go_wp2_with (first | ((with_reducible refine gQd (N := 26) rfl ?_); refine Kd.R_lit (Kd.int .i64) _ 2 ?hg (N := 26) ?hd (xs := ([] : List Int)) (inner := []) (ok := fun _ => True) (okp := fun _ => True) ?hr ?hp (fun _ hk => hk) trivial (Below.refl _ _) (Nat.le_refl _) (by simp) ?_; (case hd => rfl); (case hg => rfl); (case hr => exact tH); (case hp => exact (Reps.none _ _)); intro v777 w34 ho35 hb hg_ hnew_; clear hg_ hnew_; (first | rw [← Ny776.out] at ho35 | (simp only [Int.reduceToNat] at ho35; rw [← Ny776.out] at ho35)); refine qM3 (Kd.R_lower ho35 (bQZ tB)) (tQ BK769.out hb) (bQT tB hb) ?_; clear BK769 HB; intro HO778 BK769 HB; clear hb ho35))
   repeat (go_quiet (first | ((with_reducible refine gQd (N := 26) rfl ?_); refine Kd.R_lit (Kd.int .i64) _ 2 ?hg (N := 26) ?hd (xs := ([] : List Int)) (inner := []) (ok := fun _ => True) (okp := fun _ => True) ?hr ?hp (fun _ hk => hk) trivial (Below.refl _ _) (Nat.le_refl _) (by simp) ?_; (case hd => rfl); (case hg => rfl); (case hr => exact tH); (case hp => exact (Reps.none _ _)); intro v777 w34 ho35 hb hg_ hnew_; clear hg_ hnew_; (first | rw [← Ny776.out] at ho35 | (simp only [Int.reduceToNat] at ho35; rw [← Ny776.out] at ho35)); refine qM3 (Kd.R_lower ho35 (bQZ tB)) (tQ BK769.out hb) (bQT tB hb) ?_; clear BK769 HB; intro HO778 BK769 HB; clear hb ho35)); try go_wp2_with (first | ((with_reducible refine gQd (N := 26) rfl ?_); refine Kd.R_lit (Kd.int .i64) _ 2 ?hg (N := 26) ?hd (xs := ([] : List Int)) (inner := []) (ok := fun _ => True) (okp := fun _ => True) ?hr ?hp (fun _ hk => hk) trivial (Below.refl _ _) (Nat.le_refl _) (by simp) ?_; (case hd => rfl); (case hg => rfl); (case hr => exact tH); (case hp => exact (Reps.none _ _)); intro v777 w34 ho35 hb hg_ hnew_; clear hg_ hnew_; (first | rw [← Ny776.out] at ho35 | (simp only [Int.reduceToNat] at ho35; rw [← Ny776.out] at ho35)); refine qM3 (Kd.R_lower ho35 (bQZ tB)) (tQ BK769.out hb) (bQT tB hb) ?_; clear BK769 HB; intro HO778 BK769 HB; clear hb ho35)))
   go_ret3
   exact ⟨_, tE, tR HO778.out, tB⟩
  rw [if_pos c15] at H
  have c15b0 := beq_iff_eq.mpr c15
  have c15b1 := bne_eq_false_iff_eq.mpr c15
  clear c15
  obtain ⟨y779, hy779⟩ : ∃ y_ : List Int, y_ = (([] : List Int)) := ⟨_, rfl⟩
  replace H : (spec_NearestSpaces.l0 kj2 l0 21 y779 0 a1_0 l1_1) = some (r1, r2, r3) := by first | (rw [hy779]; with_reducible exact H) | (have H2_ := (Option.bind_some _ _).symm.trans H; rw [hy779]; with_reducible exact H2_) | (have H2_ := (Option.bind_some _ _).symm.trans H; with_reducible exact H2_) | with_reducible exact H | (rw [hy779]; exact H) | exact H
  have Ny779 := Aq.mk hy779
  clear hy779
  replace H' := Aq.mk H
  clear H
  have hcz16_0 : wc.cell? ⟨gb769, 0, none⟩ = some (.int .i64 a1_0) := (kQC BK769.out 0).trans rfl
  have hcz16_1 : wc.cell? ⟨gb769, 1, none⟩ = some (.slice A1_1 l1_1.length c1_1) := (kQC BK769.out 1).trans rfl
  have hfz16_0 := kQF BK769.out 0
  have hfz16_1 := kQF BK769.out 1
  have p775 : 0 ≤ (0 : Int) := (by omega)
  have q775 : 0 < (l0.length : Int) := of_decide_eq_true tA
  obtain ⟨ad775, A775_1, c775_1, e775, hx775_0, hx775_1, hl775_1, hi775_1⟩ := at_T63 HR0.out 0 p775 q775
  cases e775
  have qi775 : (0 < l0.length) = True := eq_true (by omega)
  (try rw [show ((0 : Int)).toNat = 0 from rfl] at hx775_0)
  (try rw [show 0 * 2 = 0 from rfl] at hx775_0)
  (try rw [Addr.add_zero'] at hx775_0)
  (try rw [show ((0 : Int)).toNat = 0 from rfl] at hx775_1)
  (try rw [show 0 * 2 = 0 from rfl] at hx775_1)
  (try rw [Addr.add_zero'] at hx775_1)
  replace hx775_0 := (HB.out.cell (World.block_lt_of_cell? w _ hx775_0)).trans hx775_0
  replace hx775_1 := (HB.out.cell (World.block_lt_of_cell? w _ hx775_1)).trans hx775_1
  have HR775_1 := Aq.mk hi775_1
  have HC775_1 := Aq.mk hl775_1
  clear hi775_1 hl775_1
  replace p775 := eq_true p775
  replace q775 := eq_true q775
  go_wp2_with (first | ((with_reducible refine gQd (N := 27) rfl ?_); refine Kd.R_lit (Kd.int .i64) _ 2 ?hg (N := 27) ?hd (xs := ([] : List Int)) (inner := []) (ok := fun _ => True) (okp := fun _ => True) ?hr ?hp (fun _ hk => hk) trivial (Below.refl _ _) (Nat.le_refl _) (by simp) ?_; (case hd => rfl); (case hg => rfl); (case hr => exact tH); (case hp => exact (Reps.none _ _)); intro v780 w17 ho18 hb hg_ hnew_; clear hg_ hnew_; (first | rw [← Ny779.out] at ho18 | (simp only [Int.reduceToNat] at ho18; rw [← Ny779.out] at ho18)); refine qM3 (Kd.R_lower ho18 (bQZ tB)) (tQ BK769.out hb) (bQT tB hb) ?_; clear BK769 HB; intro HO781 BK769 HB; clear hb ho18))
  repeat (go_quiet (first | ((with_reducible refine gQd (N := 27) rfl ?_); refine Kd.R_lit (Kd.int .i64) _ 2 ?hg (N := 27) ?hd (xs := ([] : List Int)) (inner := []) (ok := fun _ => True) (okp := fun _ => True) ?hr ?hp (fun _ hk => hk) trivial (Below.refl _ _) (Nat.le_refl _) (by simp) ?_; (case hd => rfl); (case hg => rfl); (case hr => exact tH); (case hp => exact (Reps.none _ _)); intro v780 w17 ho18 hb hg_ hnew_; clear hg_ hnew_; (first | rw [← Ny779.out] at ho18 | (simp only [Int.reduceToNat] at ho18; rw [← Ny779.out] at ho18)); refine qM3 (Kd.R_lower ho18 (bQZ tB)) (tQ BK769.out hb) (bQT tB hb) ?_; clear BK769 HB; intro HO781 BK769 HB; clear hb ho18)); try go_wp2_with (first | ((with_reducible refine gQd (N := 27) rfl ?_); refine Kd.R_lit (Kd.int .i64) _ 2 ?hg (N := 27) ?hd (xs := ([] : List Int)) (inner := []) (ok := fun _ => True) (okp := fun _ => True) ?hr ?hp (fun _ hk => hk) trivial (Below.refl _ _) (Nat.le_refl _) (by simp) ?_; (case hd => rfl); (case hg => rfl); (case hr => exact tH); (case hp => exact (Reps.none _ _)); intro v780 w17 ho18 hb hg_ hnew_; clear hg_ hnew_; (first | rw [← Ny779.out] at ho18 | (simp only [Int.reduceToNat] at ho18; rw [← Ny779.out] at ho18)); refine qM3 (Kd.R_lower ho18 (bQZ tB)) (tQ BK769.out hb) (bQT tB hb) ?_; clear BK769 HB; intro HO781 BK769 HB; clear hb ho18)))
  go_loopg [7, 8, 9] kj2 (fun kq v7 v8 v9 w' => ∃ (x7_2 : Int) (x8_2 : List Int) (x9_2 : Int), v7 = .int .i64 x7_2 ∧ v9 = .int .i64 x9_2 ∧ Aq (spec_NearestSpaces.l0 kq l0 x7_2 x8_2 x9_2 a1_0 l1_1 = some (r1, r2, r3)) ∧ Aq (kq ≤ kj2) ∧ Aq (Kd.R (Kd.int .i64) 2 w' w.heap.size (fun _ => True) v8 x8_2) ∧ Aq (w'.heap[gb769]? = some (.cells #[.int .i64 a1_0, (.slice A1_1 l1_1.length c1_1)] 63 (0, 0))) ∧ Aq (Below w.heap.size w w'))
  case atStart => exact ⟨(21), (y779), (0), tS, tS, H', ⟨Nat.le_refl _⟩, ⟨tR HO781.out⟩, ⟨tG BK769.out⟩, ⟨tB⟩⟩
  clear H'
  try clear c6
  try clear c11
  try clear c14
  try clear c14b0
  try clear c14b1
  try clear c15
  try clear c15b0
  try clear c15b1
  try clear hcz16_0
  try clear hcz16_1
  try clear hfz16_0
  try clear hfz16_1
  try clear hx775_0
  try clear hx775_1
  try clear p775
  try clear q775
  obtain ⟨x7_2, x8_2, x9_2, rfl, rfl, HA, HK2, HO_8, BK769, HB⟩ := hrel
  cases gk with
  | zero => exact absurd HA.out (by simp [spec_NearestSpaces.l0])
  | succ k2 =>
   have H := HA.out
   clear HA
   simp only [spec_NearestSpaces.l0] at H
   by_cases c19 : x9_2 < (l0.length : Int)
   rotate_left
   ·rw [if_neg c19] at H
    have c19b0 := decide_eq_false c19
    clear c19
    simp only [Option.some.injEq, Prod.mk.injEq] at H
    obtain ⟨rfl, rfl, rfl⟩ := H
    go_wp2
    repeat (go_quiet (fail); try go_wp2)
    go_ret3
    exact ⟨_, tE, tR HO_8.out, tB⟩
   rw [if_pos c19] at H
   have c19b0 := decide_eq_true c19
   clear c19
   by_cases c20 : 0 ≤ x9_2
   rotate_left
   ·rw [if_neg c20] at H
    exact absurd H (by simp)
   rw [if_pos c20] at H
   have c20b0 := decide_eq_true c20
   clear c20
   obtain ⟨t783, A21, H⟩ := qBd H
   by_cases c22 : t783 < x7_2
   ·rw [if_pos c22] at H
    have c22b0 := decide_eq_true c22
    clear c22
    obtain ⟨y784, hy784⟩ : ∃ y_ : List Int, y_ = (([] : List Int)) := ⟨_, rfl⟩
    replace H : (if y784.length < 17592186044416 then (spec_NearestSpaces.l0 k2 l0 t783 (y784 ++ [x9_2]) (wrap64 (x9_2 + 1)) a1_0 l1_1) else (none)) = some (r1, r2, r3) := by first | (rw [hy784]; with_reducible exact H) | (have H2_ := (Option.bind_some _ _).symm.trans H; rw [hy784]; with_reducible exact H2_) | (have H2_ := (Option.bind_some _ _).symm.trans H; with_reducible exact H2_) | with_reducible exact H | (rw [hy784]; exact H) | exact H
    have Ny784 := Aq.mk hy784
    clear hy784
    by_cases c23 : y784.length < 17592186044416
    rotate_left
    ·rw [if_neg c23] at H
     exact absurd H (by simp)
    rw [if_pos c23] at H
    have LMc23 := Aq.mk c23
    clear c23
    obtain ⟨y787, hy787⟩ : ∃ y_ : List Int, y_ = (y784 ++ [x9_2]) := ⟨_, rfl⟩
    replace H : (spec_NearestSpaces.l0 k2 l0 t783 y787 (wrap64 (x9_2 + 1)) a1_0 l1_1) = some (r1, r2, r3) := by first | (rw [hy787]; with_reducible exact H) | (have H2_ := (Option.bind_some _ _).symm.trans H; rw [hy787]; with_reducible exact H2_) | (have H2_ := (Option.bind_some _ _).symm.trans H; with_reducible exact H2_) | with_reducible exact H | (rw [hy787]; exact H) | exact H
    have Ny787 := Aq.mk hy787
    clear hy787
    replace H' := Aq.mk H
    clear H
    have p782 : 0 ≤ (x9_2 : Int) := of_decide_eq_true tA
    have q782 : x9_2 < (l0.length : Int) := of_decide_eq_true tA
    obtain ⟨ad782, A782_1, c782_1, e782, hx782_0, hx782_1, hl782_1, hi782_1⟩ := at_T63 HR0.out x9_2 p782 q782
    obtain rfl : ad775 = ad782 := (by injection e782)
    replace hx782_0 := (HB.out.cell (World.block_lt_of_cell? w _ hx782_0)).trans hx782_0
    replace hx782_1 := (HB.out.cell (World.block_lt_of_cell? w _ hx782_1)).trans hx782_1
    have HR782_1 := Aq.mk hi782_1
    have HC782_1 := Aq.mk hl782_1
    clear hi782_1 hl782_1
    replace p782 := eq_true p782
    replace q782 := eq_true q782
    go_wp2_with (first | (go_at_call 58; (with_reducible refine (spec_l02Distance.calls k2 ((ad775.add (x9_2.toNat * 2)) : Addr) ((rd_T63 l0 x9_2).f0) A782_1 c782_1 ((rd_T63 l0 x9_2).f1) (⟨gb769, 0, none⟩ : Addr) a1_0 A1_1 c1_1 l1_1 t783 _ ?s1 ?s2 ?s3 ?s4 ?s5 ?s6 A21.out).mono ?_); (case s1 => exact tC ((Kd.C_below HR782_1.out HB.out))); (case s2 => exact HC782_1.out); (case s3 => exact tC ((Kd.C_below HR1_1.out HB.out))); (case s4 => exact HC1_1.out); (case s5 => exact AtC.of2 hx782_0 hx782_1); (case s6 => exact AtC.of_blk (g := gb769) (t := 63) (cs := #[.int .i64 a1_0, .slice A1_1 l1_1.length c1_1]) (tG BK769.out) rfl); rintro e w24 ⟨rfl, hb⟩; refine qM3 (Kd.R_below (tR HO_8.out) hb) (tQ BK769.out hb) (bQT tB hb) ?_; clear HO_8 BK769 HB; intro HO_8 BK769 HB; (try clear hb); (try clear hb2); (try clear hk); (try clear hi)) | ((with_reducible refine gQd (N := 42) rfl ?_); refine Kd.R_lit (Kd.int .i64) _ 2 ?hg (N := 42) ?hd (xs := ([] : List Int)) (inner := []) (ok := fun _ => True) (okp := fun _ => True) ?hr ?hp (fun _ hk => hk) trivial (Below.refl _ _) (Nat.le_refl _) (by simp) ?_; (case hd => rfl); (case hg => rfl); (case hr => exact tH); (case hp => exact (Reps.none _ _)); intro v785 w25 ho26 hb hg_ hnew_; clear hg_ hnew_; (first | rw [← Ny784.out] at ho26 | (simp only [Int.reduceToNat] at ho26; rw [← Ny784.out] at ho26)); refine qM4 (Kd.R_elder' (tR HO_8.out) (Kd.R_base ho26) hb) (Kd.R_lower (Kd.R_new' ho26 (Kd.R_lt (tR HO_8.out))) (bQZ tB)) (tQ BK769.out hb) (bQT tB hb) ?_; clear HO_8 BK769 HB; intro HO_8 HO786 BK769 HB; clear hb ho26) | ((with_reducible refine gate_builtin (b := .append) (xs := #[.tmp 46, .tmp 48]) rfl ?_); at_builtin; refine Kd.R_append (Kd.int .i64) (w0 := w) w.heap.size rfl (.tmp 46) (.tmp 48) 38 2 (.int .i64 0) 8 rfl Try.underlying38 info2 rfl (by decide) (by omega) v785 y784 x9_2 [.int .i64 x9_2] (fun k_ => some k_ ≠ (u8 : Value).ownBlock) (fun _ => False) rfl rfl ?aP (fun _ hk => hk.elim) ?aF ?aO ?aB ?aS ?aL ?_; (case aP => exact rfl); (case aB => exact tB); (case aF => exact (fun k_ hk => Kd.fresh' (Kd.R_lt (tR HO_8.out)) k_ hk)); (case aO => exact (by (with_reducible repeat (first | apply Kd.RqA | apply Kd.RqN | apply Kd.RqD)); exact Kd.R_mono HO786.out (fun _ hk => hk.2))); (case aS => exact (bQZ tB)); (case aL => have := LMc23.out; omega); intro v788 w27 ho hb hg hat; rw [← Ny787.out] at ho; refine qM4 (Kd.R_after (ok := (fun _ => True)) (tR HO_8.out) hg hat) (blk_grown (g := gb769) (o := .cells #[.int .i64 a1_0, .slice A1_1 l1_1.length c1_1] 63 (0, 0)) (tG BK769.out) hg (Kd.R_ne HO786.out BK769.out (by decide))) hb ho ?_; clear HO_8 BK769 HB HO786; intro HO_8 BK769 HB HO789; clear ho hb hg hat))
    repeat (go_quiet (first | (go_at_call 58; (with_reducible refine (spec_l02Distance.calls k2 ((ad775.add (x9_2.toNat * 2)) : Addr) ((rd_T63 l0 x9_2).f0) A782_1 c782_1 ((rd_T63 l0 x9_2).f1) (⟨gb769, 0, none⟩ : Addr) a1_0 A1_1 c1_1 l1_1 t783 _ ?s1 ?s2 ?s3 ?s4 ?s5 ?s6 A21.out).mono ?_); (case s1 => exact tC ((Kd.C_below HR782_1.out HB.out))); (case s2 => exact HC782_1.out); (case s3 => exact tC ((Kd.C_below HR1_1.out HB.out))); (case s4 => exact HC1_1.out); (case s5 => exact AtC.of2 hx782_0 hx782_1); (case s6 => exact AtC.of_blk (g := gb769) (t := 63) (cs := #[.int .i64 a1_0, .slice A1_1 l1_1.length c1_1]) (tG BK769.out) rfl); rintro e w24 ⟨rfl, hb⟩; refine qM3 (Kd.R_below (tR HO_8.out) hb) (tQ BK769.out hb) (bQT tB hb) ?_; clear HO_8 BK769 HB; intro HO_8 BK769 HB; (try clear hb); (try clear hb2); (try clear hk); (try clear hi)) | ((with_reducible refine gQd (N := 42) rfl ?_); refine Kd.R_lit (Kd.int .i64) _ 2 ?hg (N := 42) ?hd (xs := ([] : List Int)) (inner := []) (ok := fun _ => True) (okp := fun _ => True) ?hr ?hp (fun _ hk => hk) trivial (Below.refl _ _) (Nat.le_refl _) (by simp) ?_; (case hd => rfl); (case hg => rfl); (case hr => exact tH); (case hp => exact (Reps.none _ _)); intro v785 w25 ho26 hb hg_ hnew_; clear hg_ hnew_; (first | rw [← Ny784.out] at ho26 | (simp only [Int.reduceToNat] at ho26; rw [← Ny784.out] at ho26)); refine qM4 (Kd.R_elder' (tR HO_8.out) (Kd.R_base ho26) hb) (Kd.R_lower (Kd.R_new' ho26 (Kd.R_lt (tR HO_8.out))) (bQZ tB)) (tQ BK769.out hb) (bQT tB hb) ?_; clear HO_8 BK769 HB; intro HO_8 HO786 BK769 HB; clear hb ho26) | ((with_reducible refine gate_builtin (b := .append) (xs := #[.tmp 46, .tmp 48]) rfl ?_); at_builtin; refine Kd.R_append (Kd.int .i64) (w0 := w) w.heap.size rfl (.tmp 46) (.tmp 48) 38 2 (.int .i64 0) 8 rfl Try.underlying38 info2 rfl (by decide) (by omega) v785 y784 x9_2 [.int .i64 x9_2] (fun k_ => some k_ ≠ (u8 : Value).ownBlock) (fun _ => False) rfl rfl ?aP (fun _ hk => hk.elim) ?aF ?aO ?aB ?aS ?aL ?_; (case aP => exact rfl); (case aB => exact tB); (case aF => exact (fun k_ hk => Kd.fresh' (Kd.R_lt (tR HO_8.out)) k_ hk)); (case aO => exact (by (with_reducible repeat (first | apply Kd.RqA | apply Kd.RqN | apply Kd.RqD)); exact Kd.R_mono HO786.out (fun _ hk => hk.2))); (case aS => exact (bQZ tB)); (case aL => have := LMc23.out; omega); intro v788 w27 ho hb hg hat; rw [← Ny787.out] at ho; refine qM4 (Kd.R_after (ok := (fun _ => True)) (tR HO_8.out) hg hat) (blk_grown (g := gb769) (o := .cells #[.int .i64 a1_0, .slice A1_1 l1_1.length c1_1] 63 (0, 0)) (tG BK769.out) hg (Kd.R_ne HO786.out BK769.out (by decide))) hb ho ?_; clear HO_8 BK769 HB HO786; intro HO_8 BK769 HB HO789; clear ho hb hg hat)); try go_wp2_with (first | (go_at_call 58; (with_reducible refine (spec_l02Distance.calls k2 ((ad775.add (x9_2.toNat * 2)) : Addr) ((rd_T63 l0 x9_2).f0) A782_1 c782_1 ((rd_T63 l0 x9_2).f1) (⟨gb769, 0, none⟩ : Addr) a1_0 A1_1 c1_1 l1_1 t783 _ ?s1 ?s2 ?s3 ?s4 ?s5 ?s6 A21.out).mono ?_); (case s1 => exact tC ((Kd.C_below HR782_1.out HB.out))); (case s2 => exact HC782_1.out); (case s3 => exact tC ((Kd.C_below HR1_1.out HB.out))); (case s4 => exact HC1_1.out); (case s5 => exact AtC.of2 hx782_0 hx782_1); (case s6 => exact AtC.of_blk (g := gb769) (t := 63) (cs := #[.int .i64 a1_0, .slice A1_1 l1_1.length c1_1]) (tG BK769.out) rfl); rintro e w24 ⟨rfl, hb⟩; refine qM3 (Kd.R_below (tR HO_8.out) hb) (tQ BK769.out hb) (bQT tB hb) ?_; clear HO_8 BK769 HB; intro HO_8 BK769 HB; (try clear hb); (try clear hb2); (try clear hk); (try clear hi)) | ((with_reducible refine gQd (N := 42) rfl ?_); refine Kd.R_lit (Kd.int .i64) _ 2 ?hg (N := 42) ?hd (xs := ([] : List Int)) (inner := []) (ok := fun _ => True) (okp := fun _ => True) ?hr ?hp (fun _ hk => hk) trivial (Below.refl _ _) (Nat.le_refl _) (by simp) ?_; (case hd => rfl); (case hg => rfl); (case hr => exact tH); (case hp => exact (Reps.none _ _)); intro v785 w25 ho26 hb hg_ hnew_; clear hg_ hnew_; (first | rw [← Ny784.out] at ho26 | (simp only [Int.reduceToNat] at ho26; rw [← Ny784.out] at ho26)); refine qM4 (Kd.R_elder' (tR HO_8.out) (Kd.R_base ho26) hb) (Kd.R_lower (Kd.R_new' ho26 (Kd.R_lt (tR HO_8.out))) (bQZ tB)) (tQ BK769.out hb) (bQT tB hb) ?_; clear HO_8 BK769 HB; intro HO_8 HO786 BK769 HB; clear hb ho26) | ((with_reducible refine gate_builtin (b := .append) (xs := #[.tmp 46, .tmp 48]) rfl ?_); at_builtin; refine Kd.R_append (Kd.int .i64) (w0 := w) w.heap.size rfl (.tmp 46) (.tmp 48) 38 2 (.int .i64 0) 8 rfl Try.underlying38 info2 rfl (by decide) (by omega) v785 y784 x9_2 [.int .i64 x9_2] (fun k_ => some k_ ≠ (u8 : Value).ownBlock) (fun _ => False) rfl rfl ?aP (fun _ hk => hk.elim) ?aF ?aO ?aB ?aS ?aL ?_; (case aP => exact rfl); (case aB => exact tB); (case aF => exact (fun k_ hk => Kd.fresh' (Kd.R_lt (tR HO_8.out)) k_ hk)); (case aO => exact (by (with_reducible repeat (first | apply Kd.RqA | apply Kd.RqN | apply Kd.RqD)); exact Kd.R_mono HO786.out (fun _ hk => hk.2))); (case aS => exact (bQZ tB)); (case aL => have := LMc23.out; omega); intro v788 w27 ho hb hg hat; rw [← Ny787.out] at ho; refine qM4 (Kd.R_after (ok := (fun _ => True)) (tR HO_8.out) hg hat) (blk_grown (g := gb769) (o := .cells #[.int .i64 a1_0, .slice A1_1 l1_1.length c1_1] 63 (0, 0)) (tG BK769.out) hg (Kd.R_ne HO786.out BK769.out (by decide))) hb ho ?_; clear HO_8 BK769 HB HO786; intro HO_8 BK769 HB HO789; clear ho hb hg hat)))
    go_roundg k2
    case measure => have := HJ2.out; have := HK2.out; omega
    case rel => exact ⟨(t783), (y787), (wrap64 (x9_2 + 1)), tS, tS, H', ⟨by have := HJ2.out; have := HK2.out; omega⟩, ⟨by (with_reducible repeat (first | apply Kd.RqA | apply Kd.RqN | apply Kd.RqD)); exact Kd.R_mono HO789.out (fun _ hk => trivial)⟩, ⟨tG BK769.out⟩, ⟨tB⟩⟩
   rw [if_neg c22] at H
   have c22b0 := decide_eq_false c22
   clear c22
   by_cases c28 : t783 = x7_2
   rotate_left
   ·rw [if_neg c28] at H
    have c28b0 := beq_eq_false_iff_ne.mpr c28
    have c28b1 := bne_iff_ne.mpr c28
    replace H' := Aq.mk H
    clear H
    have p782 : 0 ≤ (x9_2 : Int) := of_decide_eq_true tA
    have q782 : x9_2 < (l0.length : Int) := of_decide_eq_true tA
    obtain ⟨ad782, A782_1, c782_1, e782, hx782_0, hx782_1, hl782_1, hi782_1⟩ := at_T63 HR0.out x9_2 p782 q782
    obtain rfl : ad775 = ad782 := (by injection e782)
    replace hx782_0 := (HB.out.cell (World.block_lt_of_cell? w _ hx782_0)).trans hx782_0
    replace hx782_1 := (HB.out.cell (World.block_lt_of_cell? w _ hx782_1)).trans hx782_1
    have HR782_1 := Aq.mk hi782_1
    have HC782_1 := Aq.mk hl782_1
    clear hi782_1 hl782_1
    replace p782 := eq_true p782
    replace q782 := eq_true q782
    go_wp2_with (first | (go_at_call 58; (with_reducible refine (spec_l02Distance.calls k2 ((ad775.add (x9_2.toNat * 2)) : Addr) ((rd_T63 l0 x9_2).f0) A782_1 c782_1 ((rd_T63 l0 x9_2).f1) (⟨gb769, 0, none⟩ : Addr) a1_0 A1_1 c1_1 l1_1 t783 _ ?s1 ?s2 ?s3 ?s4 ?s5 ?s6 A21.out).mono ?_); (case s1 => exact tC ((Kd.C_below HR782_1.out HB.out))); (case s2 => exact HC782_1.out); (case s3 => exact tC ((Kd.C_below HR1_1.out HB.out))); (case s4 => exact HC1_1.out); (case s5 => exact AtC.of2 hx782_0 hx782_1); (case s6 => exact AtC.of_blk (g := gb769) (t := 63) (cs := #[.int .i64 a1_0, .slice A1_1 l1_1.length c1_1]) (tG BK769.out) rfl); rintro e w32 ⟨rfl, hb⟩; refine qM3 (Kd.R_below (tR HO_8.out) hb) (tQ BK769.out hb) (bQT tB hb) ?_; clear HO_8 BK769 HB; intro HO_8 BK769 HB; (try clear hb); (try clear hb2); (try clear hk); (try clear hi)))
    repeat (go_quiet (first | (go_at_call 58; (with_reducible refine (spec_l02Distance.calls k2 ((ad775.add (x9_2.toNat * 2)) : Addr) ((rd_T63 l0 x9_2).f0) A782_1 c782_1 ((rd_T63 l0 x9_2).f1) (⟨gb769, 0, none⟩ : Addr) a1_0 A1_1 c1_1 l1_1 t783 _ ?s1 ?s2 ?s3 ?s4 ?s5 ?s6 A21.out).mono ?_); (case s1 => exact tC ((Kd.C_below HR782_1.out HB.out))); (case s2 => exact HC782_1.out); (case s3 => exact tC ((Kd.C_below HR1_1.out HB.out))); (case s4 => exact HC1_1.out); (case s5 => exact AtC.of2 hx782_0 hx782_1); (case s6 => exact AtC.of_blk (g := gb769) (t := 63) (cs := #[.int .i64 a1_0, .slice A1_1 l1_1.length c1_1]) (tG BK769.out) rfl); rintro e w32 ⟨rfl, hb⟩; refine qM3 (Kd.R_below (tR HO_8.out) hb) (tQ BK769.out hb) (bQT tB hb) ?_; clear HO_8 BK769 HB; intro HO_8 BK769 HB; (try clear hb); (try clear hb2); (try clear hk); (try clear hi))); try go_wp2_with (first | (go_at_call 58; (with_reducible refine (spec_l02Distance.calls k2 ((ad775.add (x9_2.toNat * 2)) : Addr) ((rd_T63 l0 x9_2).f0) A782_1 c782_1 ((rd_T63 l0 x9_2).f1) (⟨gb769, 0, none⟩ : Addr) a1_0 A1_1 c1_1 l1_1 t783 _ ?s1 ?s2 ?s3 ?s4 ?s5 ?s6 A21.out).mono ?_); (case s1 => exact tC ((Kd.C_below HR782_1.out HB.out))); (case s2 => exact HC782_1.out); (case s3 => exact tC ((Kd.C_below HR1_1.out HB.out))); (case s4 => exact HC1_1.out); (case s5 => exact AtC.of2 hx782_0 hx782_1); (case s6 => exact AtC.of_blk (g := gb769) (t := 63) (cs := #[.int .i64 a1_0, .slice A1_1 l1_1.length c1_1]) (tG BK769.out) rfl); rintro e w32 ⟨rfl, hb⟩; refine qM3 (Kd.R_below (tR HO_8.out) hb) (tQ BK769.out hb) (bQT tB hb) ?_; clear HO_8 BK769 HB; intro HO_8 BK769 HB; (try clear hb); (try clear hb2); (try clear hk); (try clear hi))))
    go_roundg k2
    case measure => have := HJ2.out; have := HK2.out; omega
    case rel => exact ⟨(x7_2), (x8_2), (wrap64 (x9_2 + 1)), tS, tS, H', ⟨by have := HJ2.out; have := HK2.out; omega⟩, ⟨tR HO_8.out⟩, ⟨tG BK769.out⟩, ⟨tB⟩⟩
   rw [if_pos c28] at H
   have c28b0 := beq_iff_eq.mpr c28
   have c28b1 := bne_eq_false_iff_eq.mpr c28
   clear c28
   by_cases c29 : x8_2.length < 17592186044416
   rotate_left
   ·rw [if_neg c29] at H
    exact absurd H (by simp)
   rw [if_pos c29] at H
   have LMc29 := Aq.mk c29
   clear c29
   obtain ⟨y790, hy790⟩ : ∃ y_ : List Int, y_ = (x8_2 ++ [x9_2]) := ⟨_, rfl⟩
   replace H : (spec_NearestSpaces.l0 k2 l0 x7_2 y790 (wrap64 (x9_2 + 1)) a1_0 l1_1) = some (r1, r2, r3) := by first | (rw [hy790]; with_reducible exact H) | (have H2_ := (Option.bind_some _ _).symm.trans H; rw [hy790]; with_reducible exact H2_) | (have H2_ := (Option.bind_some _ _).symm.trans H; with_reducible exact H2_) | with_reducible exact H | (rw [hy790]; exact H) | exact H
   have Ny790 := Aq.mk hy790
   clear hy790
   replace H' := Aq.mk H
   clear H
   have p782 : 0 ≤ (x9_2 : Int) := of_decide_eq_true tA
   have q782 : x9_2 < (l0.length : Int) := of_decide_eq_true tA
   obtain ⟨ad782, A782_1, c782_1, e782, hx782_0, hx782_1, hl782_1, hi782_1⟩ := at_T63 HR0.out x9_2 p782 q782
   obtain rfl : ad775 = ad782 := (by injection e782)
   replace hx782_0 := (HB.out.cell (World.block_lt_of_cell? w _ hx782_0)).trans hx782_0
   replace hx782_1 := (HB.out.cell (World.block_lt_of_cell? w _ hx782_1)).trans hx782_1
   have HR782_1 := Aq.mk hi782_1
   have HC782_1 := Aq.mk hl782_1
   clear hi782_1 hl782_1
   replace p782 := eq_true p782
   replace q782 := eq_true q782
   go_wp2_with (first | (go_at_call 58; (with_reducible refine (spec_l02Distance.calls k2 ((ad775.add (x9_2.toNat * 2)) : Addr) ((rd_T63 l0 x9_2).f0) A782_1 c782_1 ((rd_T63 l0 x9_2).f1) (⟨gb769, 0, none⟩ : Addr) a1_0 A1_1 c1_1 l1_1 t783 _ ?s1 ?s2 ?s3 ?s4 ?s5 ?s6 A21.out).mono ?_); (case s1 => exact tC ((Kd.C_below HR782_1.out HB.out))); (case s2 => exact HC782_1.out); (case s3 => exact tC ((Kd.C_below HR1_1.out HB.out))); (case s4 => exact HC1_1.out); (case s5 => exact AtC.of2 hx782_0 hx782_1); (case s6 => exact AtC.of_blk (g := gb769) (t := 63) (cs := #[.int .i64 a1_0, .slice A1_1 l1_1.length c1_1]) (tG BK769.out) rfl); rintro e w30 ⟨rfl, hb⟩; refine qM3 (Kd.R_below (tR HO_8.out) hb) (tQ BK769.out hb) (bQT tB hb) ?_; clear HO_8 BK769 HB; intro HO_8 BK769 HB; (try clear hb); (try clear hb2); (try clear hk); (try clear hi)) | ((with_reducible refine gate_builtin (b := .append) (xs := #[.tmp 46, .tmp 48]) rfl ?_); at_builtin; refine Kd.R_append (Kd.int .i64) (w0 := w) w.heap.size rfl (.tmp 46) (.tmp 48) 38 2 (.int .i64 0) 8 rfl Try.underlying38 info2 rfl (by decide) (by omega) u8 x8_2 x9_2 [.int .i64 x9_2] (fun _ => True) (fun _ => False) rfl rfl ?aP (fun _ hk => hk.elim) ?aF ?aO ?aB ?aS ?aL ?_; (case aP => exact rfl); (case aB => exact tB); (case aF => exact (fun _ _ => trivial)); (case aO => exact (tR HO_8.out)); (case aS => exact (bQZ tB)); (case aL => have := LMc29.out; omega); intro v791 w31 ho hb hg hat; rw [← Ny790.out] at ho; refine qM3 (blk_grown (g := gb769) (o := .cells #[.int .i64 a1_0, .slice A1_1 l1_1.length c1_1] 63 (0, 0)) (tG BK769.out) hg (Kd.R_ne HO_8.out BK769.out (by decide))) hb ho ?_; clear BK769 HB HO_8; intro BK769 HB HO792; clear ho hb hg hat))
   repeat (go_quiet (first | (go_at_call 58; (with_reducible refine (spec_l02Distance.calls k2 ((ad775.add (x9_2.toNat * 2)) : Addr) ((rd_T63 l0 x9_2).f0) A782_1 c782_1 ((rd_T63 l0 x9_2).f1) (⟨gb769, 0, none⟩ : Addr) a1_0 A1_1 c1_1 l1_1 t783 _ ?s1 ?s2 ?s3 ?s4 ?s5 ?s6 A21.out).mono ?_); (case s1 => exact tC ((Kd.C_below HR782_1.out HB.out))); (case s2 => exact HC782_1.out); (case s3 => exact tC ((Kd.C_below HR1_1.out HB.out))); (case s4 => exact HC1_1.out); (case s5 => exact AtC.of2 hx782_0 hx782_1); (case s6 => exact AtC.of_blk (g := gb769) (t := 63) (cs := #[.int .i64 a1_0, .slice A1_1 l1_1.length c1_1]) (tG BK769.out) rfl); rintro e w30 ⟨rfl, hb⟩; refine qM3 (Kd.R_below (tR HO_8.out) hb) (tQ BK769.out hb) (bQT tB hb) ?_; clear HO_8 BK769 HB; intro HO_8 BK769 HB; (try clear hb); (try clear hb2); (try clear hk); (try clear hi)) | ((with_reducible refine gate_builtin (b := .append) (xs := #[.tmp 46, .tmp 48]) rfl ?_); at_builtin; refine Kd.R_append (Kd.int .i64) (w0 := w) w.heap.size rfl (.tmp 46) (.tmp 48) 38 2 (.int .i64 0) 8 rfl Try.underlying38 info2 rfl (by decide) (by omega) u8 x8_2 x9_2 [.int .i64 x9_2] (fun _ => True) (fun _ => False) rfl rfl ?aP (fun _ hk => hk.elim) ?aF ?aO ?aB ?aS ?aL ?_; (case aP => exact rfl); (case aB => exact tB); (case aF => exact (fun _ _ => trivial)); (case aO => exact (tR HO_8.out)); (case aS => exact (bQZ tB)); (case aL => have := LMc29.out; omega); intro v791 w31 ho hb hg hat; rw [← Ny790.out] at ho; refine qM3 (blk_grown (g := gb769) (o := .cells #[.int .i64 a1_0, .slice A1_1 l1_1.length c1_1] 63 (0, 0)) (tG BK769.out) hg (Kd.R_ne HO_8.out BK769.out (by decide))) hb ho ?_; clear BK769 HB HO_8; intro BK769 HB HO792; clear ho hb hg hat)); try go_wp2_with (first | (go_at_call 58; (with_reducible refine (spec_l02Distance.calls k2 ((ad775.add (x9_2.toNat * 2)) : Addr) ((rd_T63 l0 x9_2).f0) A782_1 c782_1 ((rd_T63 l0 x9_2).f1) (⟨gb769, 0, none⟩ : Addr) a1_0 A1_1 c1_1 l1_1 t783 _ ?s1 ?s2 ?s3 ?s4 ?s5 ?s6 A21.out).mono ?_); (case s1 => exact tC ((Kd.C_below HR782_1.out HB.out))); (case s2 => exact HC782_1.out); (case s3 => exact tC ((Kd.C_below HR1_1.out HB.out))); (case s4 => exact HC1_1.out); (case s5 => exact AtC.of2 hx782_0 hx782_1); (case s6 => exact AtC.of_blk (g := gb769) (t := 63) (cs := #[.int .i64 a1_0, .slice A1_1 l1_1.length c1_1]) (tG BK769.out) rfl); rintro e w30 ⟨rfl, hb⟩; refine qM3 (Kd.R_below (tR HO_8.out) hb) (tQ BK769.out hb) (bQT tB hb) ?_; clear HO_8 BK769 HB; intro HO_8 BK769 HB; (try clear hb); (try clear hb2); (try clear hk); (try clear hi)) | ((with_reducible refine gate_builtin (b := .append) (xs := #[.tmp 46, .tmp 48]) rfl ?_); at_builtin; refine Kd.R_append (Kd.int .i64) (w0 := w) w.heap.size rfl (.tmp 46) (.tmp 48) 38 2 (.int .i64 0) 8 rfl Try.underlying38 info2 rfl (by decide) (by omega) u8 x8_2 x9_2 [.int .i64 x9_2] (fun _ => True) (fun _ => False) rfl rfl ?aP (fun _ hk => hk.elim) ?aF ?aO ?aB ?aS ?aL ?_; (case aP => exact rfl); (case aB => exact tB); (case aF => exact (fun _ _ => trivial)); (case aO => exact (tR HO_8.out)); (case aS => exact (bQZ tB)); (case aL => have := LMc29.out; omega); intro v791 w31 ho hb hg hat; rw [← Ny790.out] at ho; refine qM3 (blk_grown (g := gb769) (o := .cells #[.int .i64 a1_0, .slice A1_1 l1_1.length c1_1] 63 (0, 0)) (tG BK769.out) hg (Kd.R_ne HO_8.out BK769.out (by decide))) hb ho ?_; clear BK769 HB HO_8; intro BK769 HB HO792; clear ho hb hg hat)))
   go_roundg k2
   case measure => have := HJ2.out; have := HK2.out; omega
   case rel => exact ⟨(x7_2), (y790), (wrap64 (x9_2 + 1)), tS, tS, H', ⟨by have := HJ2.out; have := HK2.out; omega⟩, ⟨tR HO792.out⟩, ⟨tG BK769.out⟩, ⟨tB⟩⟩
end Go.Proofs.Ytbalkaphibnpcaa.P
