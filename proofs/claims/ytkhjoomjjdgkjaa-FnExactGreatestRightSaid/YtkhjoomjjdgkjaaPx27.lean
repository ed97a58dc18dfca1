/- Functions of the program and what they tell, as the printing program wrote it. -/
import Derived.Test.YtkhjoomjjdgkjaaPx0
import Derived.Test.YtkhjoomjjdgkjaaPx4
import Derived.Test.YtkhjoomjjdgkjaaPx26
namespace Go.Proofs.Ytkhjoomjjdgkjaa.P
open Go.Shelf Go.RowKit Go.Proofs.YtkhjoomjjdgkjaaW.PrintWords Go.Proofs.YtkhjoomjjdgkjaaW.PrintLast Go.Proofs.YtkhjoomjjdgkjaaW.PrintMore
attribute [local go_sem] max2_int min2_int max_two min_two max_three min_three max_four min_four
set_option linter.unusedVariables false
set_option linter.unusedSimpArgs false
set_option maxHeartbeats 8000000
set_option maxRecDepth 100000
mutual
def impl_GreatestRight.j0 : Nat → List Int → List Int → Int → Bool → Int → Int → Option (List Int × Int)
  | 0, _, _, _, _, _, _ => none
  | k + 1, x1, x2, x8, x27, x757000, x757001 => if x27 = true then (impl_GreatestRight.j1 k x1 x2 4 x757000 x757001) else (impl_GreatestRight.j1 k x1 x2 x8 x757000 x757001)
def impl_GreatestRight.j1 : Nat → List Int → List Int → Int → Int → Int → Option (List Int × Int)
  | 0, _, _, _, _, _ => none
  | k + 1, x1, x2, x8, x757000, x757001 => if x8 = 0 then ((impl_Field_euclid.f k x757000 x757001 x1 x2).bind fun bt761 => ((impl_Field_scaled.f k x757000 x757001 bt761.1).bind fun t767 => (some (t767, 0)))) else (some (([] : List Int), x8))
end
def impl_GreatestRight.f (k : Nat) (a0_0 : Int) (a0_1 : Int) (l1 : List Int) (l2 : List Int) : Option (List Int × Int) := (impl_Field_linearCode.f k a0_0 a0_1 (([l1, l2] : List (List Int)))).bind fun t760 => (if t760 = 0 then (if (l1.length : Int) = 0 then (impl_GreatestRight.j0 k l1 l2 t760 ((l2.length : Int) == 0) a0_0 a0_1) else (impl_GreatestRight.j0 k l1 l2 t760 false a0_0 a0_1)) else (impl_GreatestRight.j0 k l1 l2 t760 false a0_0 a0_1))
theorem impl_GreatestRight.mono_l : ∀ k, (∀ y0 y1 y2 y3 y4 y5, LeO (impl_GreatestRight.j0 k y0 y1 y2 y3 y4 y5) (impl_GreatestRight.j0 (k + 1) y0 y1 y2 y3 y4 y5)) ∧ (∀ y0 y1 y2 y3 y4, LeO (impl_GreatestRight.j1 k y0 y1 y2 y3 y4) (impl_GreatestRight.j1 (k + 1) y0 y1 y2 y3 y4))
 | 0 => ⟨fun _ _ _ _ _ _ r h => by simp [impl_GreatestRight.j0] at h, fun _ _ _ _ _ r h => by simp [impl_GreatestRight.j1] at h⟩
 | k + 1 => by
  obtain ⟨ih0, ih1⟩ := impl_GreatestRight.mono_l k
  refine ⟨?_, ?_⟩ <;> intros <;> first | unfold impl_GreatestRight.j0 | unfold impl_GreatestRight.j1
  all_goals repeat' first
   | (with_reducible first | apply ih0 | apply ih1 | apply impl_Field_euclid.mono | apply impl_Field_linearCode.mono | apply impl_Field_scaled.mono | exact LeO.refl _ | exact LeO.none _ | refine LeO.ite ?_ ?_ | refine LeO.bind ?_ (fun _ => ?_))
   | exact LeO.none _
   | refine LeO.ite ?_ ?_
   | refine LeO.bind ?_ (fun _ => ?_)
theorem impl_GreatestRight.mono : ∀ a0 a1 a2 a3 k, LeO (impl_GreatestRight.f k a0 a1 a2 a3) (impl_GreatestRight.f (k + 1) a0 a1 a2 a3) := by
 intro a0 a1 a2 a3 k
 obtain ⟨ih0, ih1⟩ := impl_GreatestRight.mono_l k
 unfold impl_GreatestRight.f
 repeat' first
  | (with_reducible first | apply ih0 | apply ih1 | apply impl_Field_euclid.mono | apply impl_Field_linearCode.mono | apply impl_Field_scaled.mono | exact LeO.refl _ | exact LeO.none _ | refine LeO.ite ?_ ?_ | refine LeO.bind ?_ (fun _ => ?_))
  | exact LeO.none _
  | refine LeO.ite ?_ ?_
  | refine LeO.bind ?_ (fun _ => ?_)
theorem impl_GreatestRight.calls (k : Nat) (a0_0 : Int) (a0_1 : Int) (P1_ : Nat → Prop) (A1 : Option Addr) (c1 : Nat) (l1 : List Int) (P2_ : Nat → Prop) (A2 : Option Addr) (c2 : Nat) (l2 : List Int) (r1 : List Int) (r2 : Int) (w : World) (hs1 : Kd.V (Kd.int .i64) 2 w w.heap.size (fun k_ => P1_ k_) (.slice A1 l1.length c1) l1) (hs2 : Kd.V (Kd.int .i64) 2 w w.heap.size (fun k_ => P2_ k_) (.slice A2 l2.length c2) l2) (h : impl_GreatestRight.f k a0_0 a0_1 l1 l2 = some (r1, r2)) :
 Calls Try.prog 25 #[.agg #[.int .i64 a0_0, .int .i64 a0_1], .slice A1 l1.length c1, .slice A2 l2.length c2] w fun e w' => ∃ v0_ : Value, e = .returned (.tuple #[v0_, .int .i64 r2]) ∧ Kd.R (Kd.int .i64) 2 w' w.heap.size (fun k_ => (w.heap.size ≤ k_)) v0_ r1 ∧ Below w.heap.size w w' := by
 have hu27 := Try.underlying27
 have HO1 := Aq.mk (show Kd.V (Kd.int .i64) 2 w w.heap.size (fun k_ => ((P1_ k_ ∨ P2_ k_) ∨ w.heap.size ≤ k_)) (.slice A1 l1.length c1) l1 from Kd.V_mono hs1 (fun k_ hk => .inl (.inl hk)))
 have HO2 := Aq.mk (show Kd.V (Kd.int .i64) 2 w w.heap.size (fun k_ => ((P1_ k_ ∨ P2_ k_) ∨ w.heap.size ≤ k_)) (.slice A2 l2.length c2) l2 from Kd.V_mono hs2 (fun k_ hk => .inl (.inr hk)))
 have HB := Aq.mk (Below.refl w.heap.size w)
 have H : ((impl_Field_linearCode.f k a0_0 a0_1 (([l1, l2] : List (List Int)))).bind fun t760 => (if t760 = 0 then (if (l1.length : Int) = 0 then (impl_GreatestRight.j0 k l1 l2 t760 ((l2.length : Int) == 0) a0_0 a0_1) else (impl_GreatestRight.j0 k l1 l2 t760 false a0_0 a0_1)) else (impl_GreatestRight.j0 k l1 l2 t760 false a0_0 a0_1))) = some (r1, r2) := h
 clear h
 obtain ⟨y757, hy757⟩ : ∃ y_ : List (List Int), y_ = (([l1, l2] : List (List Int))) := ⟨_, rfl⟩
 replace H : ((impl_Field_linearCode.f k a0_0 a0_1 y757).bind fun t760 => (if t760 = 0 then (if (l1.length : Int) = 0 then (impl_GreatestRight.j0 k l1 l2 t760 ((l2.length : Int) == 0) a0_0 a0_1) else (impl_GreatestRight.j0 k l1 l2 t760 false a0_0 a0_1)) else (impl_GreatestRight.j0 k l1 l2 t760 false a0_0 a0_1))) = some (r1, r2) := by first | (rw [hy757]; with_reducible exact H) | (have H2_ := (Option.bind_some _ _).symm.trans H; rw [hy757]; with_reducible exact H2_) | (have H2_ := (Option.bind_some _ _).symm.trans H; with_reducible exact H2_) | with_reducible exact H | (rw [hy757]; exact H) | exact H
 have Ny757 := Aq.mk hy757
 clear hy757
 obtain ⟨t760, A4, H⟩ := qBd H
 have HC5 := Aq.mk H
 clear H
 go_enter Try.func25, Try.ntmps25
 go_upto_region 2 with (first | ((with_reducible refine gQd (N := 3) rfl ?_); (try (refine gate_guard (by rfl) ?_; dsimp only)); refine xQe ?hg (N := 3) ?hd (cs := #[.int .i64 a0_0, .int .i64 a0_1]) (t := 27) ?hr ?_; (case hd => rfl); (case hg => rfl); (case hr => exact tH); intro gb756 hg w6 hbox hb; refine qM6 (Kd.V_below (Kd.V_elderB (by (with_reducible repeat (first | apply Kd.V_alloc | apply Kd.V_drewN | apply Kd.V_drew)); exact HO1.out) gb756 (Nat.le_of_eq hg.symm)) hb) (Kd.V_below (Kd.V_elderB (by (with_reducible repeat (first | apply Kd.V_alloc | apply Kd.V_drewN | apply Kd.V_drew)); exact HO2.out) gb756 (Nat.le_of_eq hg.symm)) hb) (bQT tB hb) hbox (tZ w hg) (tZ w hg) ?_; clear HO1 HO2 HB; intro HO1 HO2 HB BK756 GW756 GE756; clear hb hbox hg; have hcz7_0 : w6.cell? ⟨gb756, 0, none⟩ = some (.int .i64 a0_0) := (kQC BK756.out 0).trans rfl; have hcz7_1 : w6.cell? ⟨gb756, 1, none⟩ = some (.int .i64 a0_1) := (kQC BK756.out 1).trans rfl; have hfz7_0 := kQF BK756.out 0; have hfz7_1 := kQF BK756.out 1) | ((with_reducible refine gQd (N := 14) rfl ?_); (try (refine gate_guard (by rfl) ?_; dsimp only)); refine Kd.N_lit (Kd.slice 2 (Kd.int .i64)) _ 24 ?hg (N' := 14) ?hd (xs := ([l1, l2] : List (List Int))) (inner := [.slice A1 l1.length c1, .slice A2 l2.length c2]) (ok := (fun k_ => ((P1_ k_ ∨ P2_ k_) ∨ w.heap.size ≤ k_) ∧ k_ ≠ gb756)) (okp := (fun k_ => ((P1_ k_ ∨ P2_ k_) ∨ w.heap.size ≤ k_) ∧ k_ ≠ gb756)) ?hr ?hp (fun _ hk => hk) ((show ∀ k_, w6.heap.size ≤ k_ → (fun k_ => ((P1_ k_ ∨ P2_ k_) ∨ w.heap.size ≤ k_) ∧ k_ ≠ gb756) k_ from fun k_ hk => ⟨(.inr (Nat.le_trans (bQZ tB) hk)), Kd.freshB (g := gb756) (o := .cells #[.int .i64 a0_0, .int .i64 a0_1] 27 (0, 0)) (tG BK756.out) k_ hk⟩) _ (Nat.le_refl _)) (Below.refl _ _) (Nat.le_refl _) (by simp) ?_; (case hd => rfl); (case hg => rfl); (case hr => exact tH); (case hp => exact (Reps.one (show Kd.FK (Kd.slice 2 (Kd.int .i64)) _ _ l1 [.slice A1 l1.length c1] from (Kd.FK_slice_mk (Kd.V_reads' (Kd.V_mono (ok' := (fun k_ => ((P1_ k_ ∨ P2_ k_) ∨ w.heap.size ≤ k_) ∧ k_ ≠ gb756)) (HO1.out) (fun k_ hk => ⟨hk.1, hk.2⟩))).2.1 (Kd.V_F (Kd.V_mono (ok' := (fun k_ => ((P1_ k_ ∨ P2_ k_) ∨ w.heap.size ≤ k_) ∧ k_ ≠ gb756)) (HO1.out) (fun k_ hk => ⟨hk.1, hk.2⟩))))) (Reps.one (show Kd.FK (Kd.slice 2 (Kd.int .i64)) _ _ l2 [.slice A2 l2.length c2] from (Kd.FK_slice_mk (Kd.V_reads' (Kd.V_mono (ok' := (fun k_ => ((P1_ k_ ∨ P2_ k_) ∨ w.heap.size ≤ k_) ∧ k_ ≠ gb756)) (HO2.out) (fun k_ hk => ⟨hk.1, hk.2⟩))).2.1 (Kd.V_F (Kd.V_mono (ok' := (fun k_ => ((P1_ k_ ∨ P2_ k_) ∨ w.heap.size ≤ k_) ∧ k_ ≠ gb756)) (HO2.out) (fun k_ hk => ⟨hk.1, hk.2⟩))))) (Reps.none _ _)))); intro v758 w8 ho9 hb hg_ hnew_; clear hg_ hnew_; (first | rw [← Ny757.out] at ho9 | (simp only [Int.reduceToNat] at ho9; rw [← Ny757.out] at ho9)); refine qM5 (Kd.V_elder' (by (with_reducible repeat (first | apply Kd.V_alloc | apply Kd.V_drewN | apply Kd.V_drew)); exact HO1.out) (Kd.N_base ho9) hb) (Kd.V_elder' (by (with_reducible repeat (first | apply Kd.V_alloc | apply Kd.V_drewN | apply Kd.V_drew)); exact HO2.out) (Kd.N_base ho9) hb) (Kd.N_lower ho9 (bQZ tB)) (tQ BK756.out hb) (bQT tB hb) ?_; clear HO1 HO2 BK756 HB; intro HO1 HO2 HO759 BK756 HB; clear hb ho9; obtain ⟨Ao10, co10, eo10⟩ := Kd.N_slice HO759.out; subst eo10) | ((with_reducible refine gQc (f := 41) rfl ?_); refine goesL_ (some 15) rfl rfl Try.func41 (by kernel_rfl) rfl #[.agg #[.int .i64 a0_0, .int .i64 a0_1], .slice Ao10 y757.length co10] rfl tL ?_; (with_reducible refine (impl_Field_linearCode.calls k a0_0 a0_1 _ _ y757 t760 _ ?s1 ?s2 A4.out).mono ?_); (case s1 => exact tC ((Kd.N_reads' HO759.out).2.2)); (case s2 => exact (Kd.N_reads' HO759.out).2.1); rintro e w11 ⟨rfl, hb⟩; refine ⟨_, rfl, ?_⟩; refine qM5 (Kd.V_below (by (with_reducible repeat (first | apply Kd.V_alloc | apply Kd.V_drewN | apply Kd.V_drew)); exact HO1.out) hb) (Kd.V_below (by (with_reducible repeat (first | apply Kd.V_alloc | apply Kd.V_drewN | apply Kd.V_drew)); exact HO2.out) hb) (Kd.N_below (by (with_reducible repeat (first | apply Kd.N_alloc | apply Kd.N_drewN | apply Kd.N_drew)); exact HO759.out) hb) (tQ BK756.out hb) (bQT tB hb) ?_; clear HO1 HO2 HO759 BK756 HB; intro HO1 HO2 HO759 BK756 HB; (try clear hb); (try clear hb2); (try clear hk); (try clear hi)))
 (try simp only [Act.put, qSa, qSb, qSc])
 go_cut [27] (fun v27 wc => ∃ (kq : Nat) (x27_4 : Bool), v27 = .bool x27_4 ∧ Aq (impl_GreatestRight.j0 kq l1 l2 t760 x27_4 a0_0 a0_1 = some (r1, r2)) ∧ Aq (kq ≤ k) ∧ Aq (Kd.V (Kd.int .i64) 2 wc w.heap.size (fun k_ => ((P1_ k_ ∨ P2_ k_) ∨ w.heap.size ≤ k_) ∧ k_ ≠ gb756) (.slice A1 l1.length c1) l1) ∧ Aq (Kd.V (Kd.int .i64) 2 wc w.heap.size (fun k_ => ((P1_ k_ ∨ P2_ k_) ∨ w.heap.size ≤ k_) ∧ k_ ≠ gb756) (.slice A2 l2.length c2) l2) ∧ Aq (wc.heap[gb756]? = some (.cells #[.int .i64 a0_0, .int .i64 a0_1] 27 (0, 0))) ∧ Aq (Below w.heap.size w wc))
 case first =>
  have H := HC5.out
  clear HC5
  by_cases c12 : t760 = 0
  rotate_left
  ·rw [if_neg c12] at H
   have c12b0 := beq_eq_false_iff_ne.mpr c12
   have c12b1 := bne_iff_ne.mpr c12
   (first | rw [c12b0] | (simp only [i64_w, i32_w]; rw [c12b0]) | skip)
   replace H' := Aq.mk H
   clear H
   go_wp2
   go_meet
   case rel => exact ⟨_, (false), tS, H', ⟨tO⟩, ⟨by (with_reducible repeat (first | apply Kd.V_alloc | apply Kd.V_drewN | apply Kd.V_drew)); exact Kd.V_mono HO1.out (fun _ hk => ⟨hk.1.1, hk.1.2⟩)⟩, ⟨by (with_reducible repeat (first | apply Kd.V_alloc | apply Kd.V_drewN | apply Kd.V_drew)); exact Kd.V_mono HO2.out (fun _ hk => ⟨hk.1.1, hk.1.2⟩)⟩, ⟨tG BK756.out⟩, ⟨tB⟩⟩
  rw [if_pos c12] at H
  have c12b0 := beq_iff_eq.mpr c12
  have c12b1 := bne_eq_false_iff_eq.mpr c12
  clear c12
  (first | rw [c12b0] | (simp only [i64_w, i32_w]; rw [c12b0]) | skip)
  by_cases c13 : (l1.length : Int) = 0
  ·rw [if_pos c13] at H
   have c13b0 := beq_iff_eq.mpr c13
   have c13b1 := bne_eq_false_iff_eq.mpr c13
   clear c13
   replace H' := Aq.mk H
   clear H
   go_wp2
   go_meet
   case rel => exact ⟨_, (((l2.length : Int) == 0)), tS, H', ⟨tO⟩, ⟨by (with_reducible repeat (first | apply Kd.V_alloc | apply Kd.V_drewN | apply Kd.V_drew)); exact Kd.V_mono HO1.out (fun _ hk => ⟨hk.1.1, hk.1.2⟩)⟩, ⟨by (with_reducible repeat (first | apply Kd.V_alloc | apply Kd.V_drewN | apply Kd.V_drew)); exact Kd.V_mono HO2.out (fun _ hk => ⟨hk.1.1, hk.1.2⟩)⟩, ⟨tG BK756.out⟩, ⟨tB⟩⟩
  rw [if_neg c13] at H
  have c13b0 := beq_eq_false_iff_ne.mpr c13
  have c13b1 := bne_iff_ne.mpr c13
  have c13b2 : ¬ (l1 = []) := fun h_ => c13 (by rw [h_]; rfl)
  replace H' := Aq.mk H
  clear H
  go_wp2
  go_meet
  case rel => exact ⟨_, (false), tS, H', ⟨tO⟩, ⟨by (with_reducible repeat (first | apply Kd.V_alloc | apply Kd.V_drewN | apply Kd.V_drew)); exact Kd.V_mono HO1.out (fun _ hk => ⟨hk.1.1, hk.1.2⟩)⟩, ⟨by (with_reducible repeat (first | apply Kd.V_alloc | apply Kd.V_drewN | apply Kd.V_drew)); exact Kd.V_mono HO2.out (fun _ hk => ⟨hk.1.1, hk.1.2⟩)⟩, ⟨tG BK756.out⟩, ⟨tB⟩⟩
 clear HC5
 try clear c1
 try clear c2
 try clear c12
 try clear c12b0
 try clear c12b1
 try clear c13
 try clear c13b0
 try clear c13b1
 try clear c13b2
 try clear hcz7_0
 try clear hcz7_1
 try clear hfz7_0
 try clear hfz7_1
 obtain ⟨kq, x27_4, rfl, HA, HJ4, HO_1, HO_2, BK756, HB⟩ := hcut
 cases kq with
 | zero => exact absurd HA.out (by simp [impl_GreatestRight.j0])
 | succ kj4 =>
  have H := HA.out
  clear HA
  simp only [impl_GreatestRight.j0] at H
  have HC14 := Aq.mk H
  clear H
  go_upto_if 27 with (fail)
  go_cut [8] (fun v8 wc => ∃ (kq : Nat) (x8_13 : Int), v8 = .int .i64 x8_13 ∧ Aq (impl_GreatestRight.j1 kq l1 l2 x8_13 a0_0 a0_1 = some (r1, r2)) ∧ Aq (kq ≤ kj4) ∧ Aq (Kd.V (Kd.int .i64) 2 wc w.heap.size (fun k_ => ((P1_ k_ ∨ P2_ k_) ∨ w.heap.size ≤ k_) ∧ k_ ≠ gb756) (.slice A1 l1.length c1) l1) ∧ Aq (Kd.V (Kd.int .i64) 2 wc w.heap.size (fun k_ => ((P1_ k_ ∨ P2_ k_) ∨ w.heap.size ≤ k_) ∧ k_ ≠ gb756) (.slice A2 l2.length c2) l2) ∧ Aq (wc.heap[gb756]? = some (.cells #[.int .i64 a0_0, .int .i64 a0_1] 27 (0, 0))) ∧ Aq (Below w.heap.size w wc))
  case first =>
   have H := HC14.out
   clear HC14
   by_cases c15 : x27_4 = true
   ·subst c15
    rw [if_pos rfl] at H
    replace H' := Aq.mk H
    clear H
    go_wp2
    go_meet
    case rel => exact ⟨_, (4), tS, H', ⟨by have := HJ4.out; first | omega | exact Nat.le_refl _⟩, ⟨by (with_reducible repeat (first | apply Kd.V_alloc | apply Kd.V_drewN | apply Kd.V_drew)); exact HO_1.out⟩, ⟨by (with_reducible repeat (first | apply Kd.V_alloc | apply Kd.V_drewN | apply Kd.V_drew)); exact HO_2.out⟩, ⟨tG BK756.out⟩, ⟨tB⟩⟩
   replace c15 := Bool.eq_false_iff.mpr c15
   subst c15
   rw [if_neg (show ¬ (false = true) by decide)] at H
   replace H' := Aq.mk H
   clear H
   go_wp2
   go_meet
   case rel => exact ⟨_, (t760), tS, H', ⟨by have := HJ4.out; first | omega | exact Nat.le_refl _⟩, ⟨by (with_reducible repeat (first | apply Kd.V_alloc | apply Kd.V_drewN | apply Kd.V_drew)); exact HO_1.out⟩, ⟨by (with_reducible repeat (first | apply Kd.V_alloc | apply Kd.V_drewN | apply Kd.V_drew)); exact HO_2.out⟩, ⟨tG BK756.out⟩, ⟨tB⟩⟩
  clear HC14
  try clear c1
  try clear c2
  try clear c12
  try clear c12b0
  try clear c12b1
  try clear c13
  try clear c13b0
  try clear c13b1
  try clear c13b2
  try clear c15
  try clear hcz7_0
  try clear hcz7_1
  try clear hfz7_0
  try clear hfz7_1
  obtain ⟨kq, x8_13, rfl, HA, HJ13, HO_1, HO_2, BK756, HB⟩ := hcut
  cases kq with
  | zero => exact absurd HA.out (by simp [impl_GreatestRight.j1])
  | succ kj13 =>
   have H := HA.out
   clear HA
   simp only [impl_GreatestRight.j1] at H
   by_cases c16 : x8_13 = 0
   rotate_left
   ·rw [if_neg c16] at H
    have c16b0 := beq_eq_false_iff_ne.mpr c16
    have c16b1 := bne_iff_ne.mpr c16
    simp only [Option.some.injEq, Prod.mk.injEq] at H
    obtain ⟨rfl, rfl⟩ := H
    go_wp2
    go_ret2
    exact ⟨_, tE, by first | exact Kd.R_nil _ _ _ _ _ | exact Kd.N_nil _ _ _ _ _ | exact Kd.V_nil _ _ _ _ _ | exact Kd.Q_nil _ _ _ _ _ | exact Kd.S_nil _ _ _ _ _, tB⟩
   rw [if_pos c16] at H
   have c16b0 := beq_iff_eq.mpr c16
   have c16b1 := bne_eq_false_iff_eq.mpr c16
   clear c16
   obtain ⟨⟨t761, t764⟩, A17, H⟩ := qBd H
   (try dsimp only at H)
   obtain ⟨t767, A18, H⟩ := qBd H
   simp only [Option.some.injEq, Prod.mk.injEq] at H
   obtain ⟨rfl, rfl⟩ := H
   have hcz19_0 : wc.cell? ⟨gb756, 0, none⟩ = some (.int .i64 a0_0) := (kQC BK756.out 0).trans rfl
   have hcz19_1 : wc.cell? ⟨gb756, 1, none⟩ = some (.int .i64 a0_1) := (kQC BK756.out 1).trans rfl
   have hfz19_0 := kQF BK756.out 0
   have hfz19_1 := kQF BK756.out 1
   go_wp2_with (first | ((with_reducible refine gQc (f := 46) rfl ?_); refine goesL_ (some 35) rfl rfl Try.func46 (by kernel_rfl) rfl #[.agg #[.int .i64 a0_0, .int .i64 a0_1], .slice A1 l1.length c1, .slice A2 l2.length c2] rfl tL ?_; (with_reducible refine (impl_Field_euclid.calls kj13 a0_0 a0_1 (fun k_ => (((P1_ k_ ∨ P2_ k_) ∨ w.heap.size ≤ k_) ∧ k_ ≠ gb756)) _ _ l1 (fun k_ => (((P1_ k_ ∨ P2_ k_) ∨ w.heap.size ≤ k_) ∧ k_ ≠ gb756)) _ _ l2 t761 t764 _ ?s1 ?s2 A17.out).mono ?_); (case s1 => exact HO_1.out); (case s2 => exact HO_2.out); rintro e w20 ⟨v762, v765, rfl, ho0, ho1, hb⟩; refine ⟨_, rfl, ?_⟩; refine qM6 (Kd.V_elder' (by (with_reducible repeat (first | apply Kd.V_alloc | apply Kd.V_drewN | apply Kd.V_drew)); exact HO_1.out) (Kd.R_base ho1) hb) (Kd.V_elder' (by (with_reducible repeat (first | apply Kd.V_alloc | apply Kd.V_drewN | apply Kd.V_drew)); exact HO_2.out) (Kd.R_base ho1) hb) (Kd.V_lower (Kd.V_mono (ok' := fun k_ => ((P1_ k_ ∨ P2_ k_) ∨ w.heap.size ≤ k_) ∧ some k_ ≠ (v765 : Value).ownBlock ∧ k_ ≠ gb756) ho0 (fun k_ hk_ => ⟨Or.elim hk_.1 (fun hs_ => Or.elim hs_ (fun hs_ => hs_.1) (fun hs_ => hs_.1)) (fun hn_ => (.inr (Nat.le_trans (bQZ tB) hn_))), hk_.2, Or.elim hk_.1 (fun hs_ => Or.elim hs_ (fun hs_ => hs_.2) (fun hs_ => hs_.2)) (fun hn_ => (Kd.freshB (g := gb756) (o := .cells #[.int .i64 a0_0, .int .i64 a0_1] 27 (0, 0)) (tG BK756.out) k_ hn_))⟩)) (bQZ tB)) (Kd.R_lower (Kd.R_newM (M := fun k_ => (w.heap.size ≤ k_)) (Kd.R_mono (ok' := fun k_ => True) ho1 (fun _ hk_ => trivial)) (bQZ tB) (fun k_ h_ => h_)) (bQZ tB)) (tQ BK756.out hb) (bQT tB hb) ?_; clear HO_1 HO_2 BK756 HB; intro HO_1 HO_2 HO763 HO766 BK756 HB; (try clear hb); (try clear hb2); (try clear hk); (try clear hi); (try clear ho0); (try clear ho1); have hcz21_0 : w20.cell? ⟨gb756, 0, none⟩ = some (.int .i64 a0_0) := (kQC BK756.out 0).trans rfl; have hcz21_1 : w20.cell? ⟨gb756, 1, none⟩ = some (.int .i64 a0_1) := (kQC BK756.out 1).trans rfl; have hfz21_0 := kQF BK756.out 0; have hfz21_1 := kQF BK756.out 1; obtain ⟨Ao22, co22, eo22⟩ := Kd.V_slice HO763.out; subst eo22) | ((with_reducible refine gQc (f := 47) rfl ?_); refine goesL_ (some 40) rfl rfl Try.func47 (by kernel_rfl) rfl #[.agg #[.int .i64 a0_0, .int .i64 a0_1], .slice Ao22 t761.length co22] rfl tL ?_; (with_reducible refine (impl_Field_scaled.calls kj13 a0_0 a0_1 _ _ t761 t767 _ ?s1 ?s2 A18.out).mono ?_); (case s1 => exact tC ((Kd.V_reads' HO763.out).2.2)); (case s2 => exact (Kd.V_reads' HO763.out).2.1); rintro e w23 ⟨v768, rfl, ho0, hb⟩; refine ⟨_, rfl, ?_⟩; refine qM7 (Kd.V_elder' (by (with_reducible repeat (first | apply Kd.V_alloc | apply Kd.V_drewN | apply Kd.V_drew)); exact HO_1.out) (Kd.R_base ho0) hb) (Kd.V_elder' (by (with_reducible repeat (first | apply Kd.V_alloc | apply Kd.V_drewN | apply Kd.V_drew)); exact HO_2.out) (Kd.R_base ho0) hb) (Kd.V_elder' (by (with_reducible repeat (first | apply Kd.V_alloc | apply Kd.V_drewN | apply Kd.V_drew)); exact HO763.out) (Kd.R_base ho0) hb) (Kd.R_elder' (tR HO766.out) (Kd.R_base ho0) hb) (Kd.R_lower (Kd.R_new' (Kd.R_newM (M := fun k_ => (w.heap.size ≤ k_)) ho0 (bQZ tB) (fun k_ h_ => h_)) (Kd.R_lt (tR HO766.out))) (bQZ tB)) (tQ BK756.out hb) (bQT tB hb) ?_; clear HO_1 HO_2 HO763 HO766 BK756 HB; intro HO_1 HO_2 HO763 HO766 HO769 BK756 HB; (try clear hb); (try clear hb2); (try clear hk); (try clear hi); (try clear ho0)))
   go_ret2
   exact ⟨_, tE, by (with_reducible repeat (first | apply Kd.RqA | apply Kd.RqN | apply Kd.RqD)); exact Kd.R_mono HO769.out (fun _ hk => hk.1.1), tB⟩
end Go.Proofs.Ytkhjoomjjdgkjaa.P
