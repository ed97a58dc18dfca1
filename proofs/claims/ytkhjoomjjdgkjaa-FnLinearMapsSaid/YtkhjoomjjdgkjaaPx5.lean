/- Functions of the program and what they tell, as the printing program wrote it. -/
import Derived.Test.YtkhjoomjjdgkjaaPx0
import Derived.Test.YtkhjoomjjdgkjaaPx4
namespace Go.Proofs.Ytkhjoomjjdgkjaa.P
open Go.Shelf Go.RowKit Go.Proofs.YtkhjoomjjdgkjaaW.PrintWords Go.Proofs.YtkhjoomjjdgkjaaW.PrintLast Go.Proofs.YtkhjoomjjdgkjaaW.PrintMore
attribute [local go_sem] max2_int min2_int max_two min_two max_three min_three max_four min_four
set_option linter.unusedVariables false
set_option linter.unusedSimpArgs false
set_option maxHeartbeats 8000000
set_option maxRecDepth 100000
def impl_Field_square.l0 : Nat → Int → Int → Int → Int → Int → Option (Int)
  | 0, _, _, _, _, _ => none
  | k + 1, x1, x10, x11, x260000, x260001 => if x11 < x10 then ((impl_Field_mul.f k x260000 x260001 x1 x1).bind fun t260 => (impl_Field_square.l0 k t260 x10 (wrap64 (x11 + 1)) x260000 x260001)) else (some x1)
def impl_Field_square.f (k : Nat) (a0_0 : Int) (a0_1 : Int) (a1 : Int) (a2 : Int) : Option (Int) := if a0_0 = 0 then (none) else (impl_Field_square.l0 k a1 (Int.tmod a2 a0_0) 0 a0_0 a0_1)
theorem impl_Field_square.mono_l : ∀ k, (∀ y0 y1 y2 y3 y4, LeO (impl_Field_square.l0 k y0 y1 y2 y3 y4) (impl_Field_square.l0 (k + 1) y0 y1 y2 y3 y4))
 | 0 => fun _ _ _ _ _ r h => by simp [impl_Field_square.l0] at h
 | k + 1 => by
  have ih0 := impl_Field_square.mono_l k
  ·intro y0 y1 y2 y3 y4
   unfold impl_Field_square.l0
   repeat' first
   | (with_reducible first | apply ih0 | apply impl_Field_mul.mono | exact LeO.refl _ | exact LeO.none _ | refine LeO.ite ?_ ?_ | refine LeO.bind ?_ (fun _ => ?_))
   | exact LeO.none _
   | refine LeO.ite ?_ ?_
   | refine LeO.bind ?_ (fun _ => ?_)
theorem impl_Field_square.mono : ∀ a0 a1 a2 a3 k, LeO (impl_Field_square.f k a0 a1 a2 a3) (impl_Field_square.f (k + 1) a0 a1 a2 a3) := by
 intro a0 a1 a2 a3 k
 have ih0 := impl_Field_square.mono_l k
 unfold impl_Field_square.f
 repeat' first
  | (with_reducible first | apply ih0 | apply impl_Field_mul.mono | exact LeO.refl _ | exact LeO.none _ | refine LeO.ite ?_ ?_ | refine LeO.bind ?_ (fun _ => ?_))
  | exact LeO.none _
  | refine LeO.ite ?_ ?_
  | refine LeO.bind ?_ (fun _ => ?_)
theorem impl_Field_square.calls (k : Nat) (a0_0 : Int) (a0_1 : Int) (a1 : Int) (a2 : Int) (r : Int) (w : World) (h : impl_Field_square.f k a0_0 a0_1 a1 a2 = some r) :
 Calls Try.prog 81 #[.agg #[.int .i64 a0_0, .int .i64 a0_1], .int .i64 a1, .int .i64 a2] w fun e w' => e = .returned (.int .i64 r) ∧ Below w.heap.size w w' := by
 have hu27 := Try.underlying27
 have HB := Aq.mk (Below.refl w.heap.size w)
 have H : (if a0_0 = 0 then (none) else (impl_Field_square.l0 k a1 (Int.tmod a2 a0_0) 0 a0_0 a0_1)) = some r := h
 clear h
 by_cases c4 : a0_0 = 0
 ·rw [if_pos c4] at H
  exact absurd H (by simp)
 rw [if_neg c4] at H
 have c4b0 := beq_eq_false_iff_ne.mpr c4
 have c4b1 := bne_iff_ne.mpr c4
 replace H' := Aq.mk H
 clear H
 go_enter Try.func81, Try.ntmps81
 go_wp2_with (first | ((with_reducible refine gQd (N := 3) rfl ?_); refine xQe ?hg (N := 3) ?hd (cs := #[.int .i64 a0_0, .int .i64 a0_1]) (t := 27) ?hr ?_; (case hd => rfl); (case hg => rfl); (case hr => exact tH); intro gb259 hg w5 hbox hb; refine qM4 (bQT tB hb) hbox (tZ w hg) (tZ w hg) ?_; clear HB; intro HB BK259 GW259 GE259; clear hb hbox hg; have hcz6_0 : w5.cell? ⟨gb259, 0, none⟩ = some (.int .i64 a0_0) := (kQC BK259.out 0).trans rfl; have hcz6_1 : w5.cell? ⟨gb259, 1, none⟩ = some (.int .i64 a0_1) := (kQC BK259.out 1).trans rfl; have hfz6_0 := kQF BK259.out 0; have hfz6_1 := kQF BK259.out 1))
 go_loopg [1, 11] k (fun kq v1 v11 w' => ∃ (x1_1 : Int) (x11_1 : Int), v1 = .int .i64 x1_1 ∧ v11 = .int .i64 x11_1 ∧ Aq (impl_Field_square.l0 kq x1_1 (Int.tmod a2 a0_0) x11_1 a0_0 a0_1 = some r) ∧ Aq (kq ≤ k) ∧ Aq (w'.heap[gb259]? = some (.cells #[.int .i64 a0_0, .int .i64 a0_1] 27 (0, 0))) ∧ Aq (Below w.heap.size w w'))
 case atStart => exact ⟨(a1), (0), tS, tS, H', ⟨Nat.le_refl _⟩, ⟨tG BK259.out⟩, ⟨tB⟩⟩
 clear H'
 try clear c4
 try clear c4b0
 try clear c4b1
 try clear hcz6_0
 try clear hcz6_1
 try clear hfz6_0
 try clear hfz6_1
 obtain ⟨x1_1, x11_1, rfl, rfl, HA, HK1, BK259, HB⟩ := hrel
 cases gk with
 | zero => exact absurd HA.out (by simp [impl_Field_square.l0])
 | succ k1 =>
  have H := HA.out
  clear HA
  simp only [impl_Field_square.l0] at H
  by_cases c7 : x11_1 < (Int.tmod a2 a0_0)
  rotate_left
  ·rw [if_neg c7] at H
   have c7b0 := decide_eq_false c7
   clear c7
   obtain rfl := Option.some.inj H
   go_wp2
   go_ret
   exact ⟨tE, tB⟩
  rw [if_pos c7] at H
  have c7b0 := decide_eq_true c7
  clear c7
  obtain ⟨t260, A8, H⟩ := qBd H
  replace H' := Aq.mk H
  clear H
  have hcz9_0 : wr.cell? ⟨gb259, 0, none⟩ = some (.int .i64 a0_0) := (kQC BK259.out 0).trans rfl
  have hcz9_1 : wr.cell? ⟨gb259, 1, none⟩ = some (.int .i64 a0_1) := (kQC BK259.out 1).trans rfl
  have hfz9_0 := kQF BK259.out 0
  have hfz9_1 := kQF BK259.out 1
  go_wp2_with (first | ((with_reducible refine gQc (f := 80) rfl ?_); refine goesL_ (some 16) rfl rfl Try.func80 (by kernel_rfl) rfl #[.agg #[.int .i64 a0_0, .int .i64 a0_1], .int .i64 x1_1, .int .i64 x1_1] rfl tL ?_; (with_reducible refine (impl_Field_mul.calls k1 a0_0 a0_1 x1_1 x1_1 t260 _ A8.out).mono ?_); rintro e w10 ⟨rfl, hb⟩; refine ⟨_, rfl, ?_⟩; refine qM2 (tQ BK259.out hb) (bQT tB hb) ?_; clear BK259 HB; intro BK259 HB; (try clear hb); (try clear hb2); (try clear hk); (try clear hi)))
  go_roundg k1
  case measure => have := HK1.out; omega
  case rel => exact ⟨(t260), (wrap64 (x11_1 + 1)), tS, tS, H', ⟨by have := HK1.out; omega⟩, ⟨tG BK259.out⟩, ⟨tB⟩⟩
def impl_trim.l0 : Nat → List Int → Option (List Int)
  | 0, _ => none
  | k + 1, x0 => if (x0.length : Int) > 0 then (if 0 ≤ (wrap64 ((x0.length : Int) - 1)) then (if (wrap64 ((x0.length : Int) - 1)) < (x0.length : Int) then (if (rd x0 (wrap64 ((x0.length : Int) - 1))) = 0 then (if (wrap64 ((x0.length : Int) - 1)) ≤ (x0.length : Int) then (impl_trim.l0 k (x0.take ((wrap64 ((x0.length : Int) - 1)) : Int).toNat)) else (none)) else (some x0)) else (none)) else (none)) else (some x0)
def impl_trim.f (k : Nat) (l0 : List Int) : Option (List Int) := impl_trim.l0 k l0
theorem impl_trim.mono_l : ∀ k, (∀ y0, LeO (impl_trim.l0 k y0) (impl_trim.l0 (k + 1) y0))
 | 0 => fun _ r h => by simp [impl_trim.l0] at h
 | k + 1 => by
  have ih0 := impl_trim.mono_l k
  ·intro y0
   unfold impl_trim.l0
   repeat' first
   | (with_reducible first | apply ih0 | exact LeO.refl _ | exact LeO.none _ | refine LeO.ite ?_ ?_ | refine LeO.bind ?_ (fun _ => ?_))
   | exact LeO.none _
   | refine LeO.ite ?_ ?_
   | refine LeO.bind ?_ (fun _ => ?_)
theorem impl_trim.mono : ∀ a0 k, LeO (impl_trim.f k a0) (impl_trim.f (k + 1) a0) := by
 intro a0 k
 have ih0 := impl_trim.mono_l k
 unfold impl_trim.f
 repeat' first
  | (with_reducible first | apply ih0 | exact LeO.refl _ | exact LeO.none _ | refine LeO.ite ?_ ?_ | refine LeO.bind ?_ (fun _ => ?_))
  | exact LeO.none _
  | refine LeO.ite ?_ ?_
  | refine LeO.bind ?_ (fun _ => ?_)
theorem impl_trim.calls (k : Nat) (P0_ : Nat → Prop) (u9000_ : Value) (l0 : List Int) (r : List Int) (w0 w : World) (hB : Below w0.heap.size w0 w) (ho0 : Kd.R (Kd.int .i64) 2 w w0.heap.size P0_ u9000_ l0) (h : impl_trim.f k l0 = some r) :
 Calls Try.prog 82 #[u9000_] w fun e w' => ∃ v0_ : Value, e = .returned (v0_) ∧ Kd.R (Kd.int .i64) 2 w' w0.heap.size (fun k_ => (P0_ k_ ∨ w.heap.size ≤ k_)) v0_ r ∧ Below w0.heap.size w0 w' ∧ Kept w w' (fun k_ => P0_ k_) := by
 have HO0 := Aq.mk (show Kd.R (Kd.int .i64) 2 w w0.heap.size (fun k_ => (P0_ k_ ∨ w.heap.size ≤ k_)) u9000_ l0 from Kd.R_mono ho0 (fun k_ hk => (.inl hk)))
 have HK := Aq.mk (Kept.refl w (fun k_ => P0_ k_))
 have HW0 := Aq.mk hB.size
 have HB := Aq.mk hB
 clear hB
 have H : (impl_trim.l0 k l0) = some r := h
 clear h
 replace H' := Aq.mk H
 clear H
 go_enter Try.func82, Try.ntmps82
 go_wp2
 go_loopg [0] k (fun kq v0 w' => ∃ (x0_1 : List Int), Aq (impl_trim.l0 kq x0_1 = some r) ∧ Aq (kq ≤ k) ∧ Aq (Kd.R (Kd.int .i64) 2 w' w0.heap.size (fun k_ => (P0_ k_ ∨ w.heap.size ≤ k_)) v0 x0_1) ∧ Aq (Kept w w' (fun k_ => P0_ k_)) ∧ Aq (Below w0.heap.size w0 w'))
 case atStart => exact ⟨(l0), H', ⟨Nat.le_refl _⟩, ⟨tR HO0.out⟩, ⟨by repeat (first | (with_reducible first | exact HK.out | apply Kept.alloc | apply Kept.drewN | apply Kept.drew) | exact HK.out)⟩, ⟨tB⟩⟩
 clear H'
 obtain ⟨x0_1, HA, HK1, HO_0, HK, HB⟩ := hrel
 cases gk with
 | zero => exact absurd HA.out (by simp [impl_trim.l0])
 | succ k1 =>
  have H := HA.out
  clear HA
  simp only [impl_trim.l0] at H
  by_cases c2 : (x0_1.length : Int) > 0
  rotate_left
  ·rw [if_neg c2] at H
   have c2b0 := decide_eq_false c2
   have c2b1 : decide (0 < x0_1.length) = false := decide_eq_false (by omega)
   clear c2
   obtain rfl := Option.some.inj H
   obtain ⟨Ao11, co11, eo11⟩ := Kd.R_slice HO_0.out
   subst eo11
   go_wp2
   go_ret
   exact ⟨_, tE, tR HO_0.out, tB, by repeat (first | (with_reducible first | exact HK.out | apply Kept.alloc | apply Kept.drewN | apply Kept.drew) | exact HK.out)⟩
  rw [if_pos c2] at H
  have c2b0 := decide_eq_true c2
  have c2b1 : decide (0 < x0_1.length) = true := decide_eq_true (by omega)
  clear c2
  obtain ⟨ji3, hji3⟩ : ∃ j_ : Int, (wrap64 ((x0_1.length : Int) - 1)) = j_ := ⟨_, rfl⟩
  first | rw [hji3] at H | simp only [hji3] at H | skip
  have hji3w : (IntKind.i64.wrap ((x0_1.length : Int) - 1)) = ji3 := (i64_w _).trans hji3
  by_cases c4 : 0 ≤ (ji3)
  rotate_left
  ·rw [if_neg c4] at H
   exact absurd H (by simp)
  rw [if_pos c4] at H
  have c4b0 := decide_eq_true c4
  clear c4
  by_cases c5 : (ji3) < (x0_1.length : Int)
  rotate_left
  ·rw [if_neg c5] at H
   exact absurd H (by simp)
  rw [if_pos c5] at H
  have c5b0 := decide_eq_true c5
  clear c5
  by_cases c6 : (rd x0_1 (ji3)) = 0
  rotate_left
  ·rw [if_neg c6] at H
   have c6b0 := beq_eq_false_iff_ne.mpr c6
   have c6b1 := bne_iff_ne.mpr c6
   obtain rfl := Option.some.inj H
   obtain ⟨Ao10, co10, eo10⟩ := Kd.R_slice HO_0.out
   subst eo10
   have p261 : 0 ≤ ((ji3) : Int) := of_decide_eq_true tA
   have q261 : (ji3) < (x0_1.length : Int) := of_decide_eq_true tA
   obtain ⟨ad261, e261, hx261_0⟩ := Kd.at_int (Kd.R_reads' HO_0.out).2.2 (ji3) p261 q261
   cases e261
   replace p261 := eq_true p261
   replace q261 := eq_true q261
   go_wp2
   go_ret
   exact ⟨_, by first | rfl | (simp [errW_none, errW_some] <;> rfl) | (simp only [← hji3]; first | rfl | (simp [errW_none, errW_some] <;> rfl)) | (simp [*, errW_none, errW_some] <;> rfl), tR HO_0.out, tB, by repeat (first | (with_reducible first | exact HK.out | apply Kept.alloc | apply Kept.drewN | apply Kept.drew) | exact HK.out)⟩
  rw [if_pos c6] at H
  have c6b0 := beq_iff_eq.mpr c6
  have c6b1 := bne_eq_false_iff_eq.mpr c6
  clear c6
  by_cases c7 : (ji3) ≤ (x0_1.length : Int)
  rotate_left
  ·rw [if_neg c7] at H
   exact absurd H (by simp)
  rw [if_pos c7] at H
  have c7b0 := eq_true c7
  have c7b1 := decide_eq_true c7
  clear c7
  obtain ⟨y262, hy262⟩ : ∃ y_ : List Int, y_ = (x0_1.take ((ji3) : Int).toNat) := ⟨_, rfl⟩
  replace H : (impl_trim.l0 k1 y262) = some r := by first | (rw [hy262]; with_reducible exact H) | (have H2_ := (Option.bind_some _ _).symm.trans H; rw [hy262]; with_reducible exact H2_) | (have H2_ := (Option.bind_some _ _).symm.trans H; with_reducible exact H2_) | with_reducible exact H | (rw [hy262]; exact H) | exact H
  have Ny262 := Aq.mk hy262
  clear hy262
  replace H' := Aq.mk H
  clear H
  obtain ⟨Ao8, co8, eo8⟩ := Kd.R_slice HO_0.out
  subst eo8
  have p261 : 0 ≤ ((ji3) : Int) := of_decide_eq_true tA
  have q261 : (ji3) < (x0_1.length : Int) := of_decide_eq_true tA
  obtain ⟨ad261, e261, hx261_0⟩ := Kd.at_int (Kd.R_reads' HO_0.out).2.2 (ji3) p261 q261
  cases e261
  replace p261 := eq_true p261
  replace q261 := eq_true q261
  have q9 : ((ji3) : Int) ≤ ((x0_1.length : Int) : Int) := of_decide_eq_true tA
  obtain ⟨i09, hi09, _, hsz9, _⟩ := info_parts info2
  have hcut9 := cut_to (P := Try.prog) 24 2 .i64 Try.underlying24 hi09 (some ad261) x0_1.length co8 (ji3) (of_decide_eq_true tA) q9 (Kd.R_reads' HO_0.out).2.1
  have hr9 := Kd.R_take (m := ((ji3) : Int).toNat) HO_0.out (by omega)
  have hy9 : y262.length = ((ji3) : Int).toNat := (by rw [Ny262.out, List.length_take]; omega)
  rw [← Ny262.out] at hr9
  rw [← hy9] at hr9 hcut9
  clear hy9 hi09 hsz9 HO_0
  have HO264 := Aq.mk hr9
  clear hr9
  replace q9 := eq_true q9
  go_wp2
  go_roundg k1
  case measure => have := HK1.out; omega
  case rel => exact ⟨(y262), H', ⟨by have := HK1.out; omega⟩, ⟨tR HO264.out⟩, ⟨by repeat (first | (with_reducible first | exact HK.out | apply Kept.alloc | apply Kept.drewN | apply Kept.drew) | exact HK.out)⟩, ⟨tB⟩⟩
end Go.Proofs.Ytkhjoomjjdgkjaa.P
