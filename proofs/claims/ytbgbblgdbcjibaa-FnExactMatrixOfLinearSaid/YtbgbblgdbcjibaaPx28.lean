/- Functions of the program and what they tell, as the printing program wrote it. -/
import Derived.Test.YtbgbblgdbcjibaaPx0
import Derived.Test.YtbgbblgdbcjibaaPx13
namespace Go.Proofs.Ytbgbblgdbcjibaa.P
open Go.Shelf Go.RowKit Go.Proofs.YtbgbblgdbcjibaaW.PrintWords Go.Proofs.YtbgbblgdbcjibaaW.PrintLast Go.Proofs.YtbgbblgdbcjibaaW.PrintMore
attribute [local go_sem] max2_int min2_int max_two min_two max_three min_three max_four min_four
set_option linter.unusedVariables false
set_option linter.unusedSimpArgs false
set_option maxHeartbeats 8000000
set_option maxRecDepth 100000
def impl_Field_values.l0 : Nat → List Int → List Int → List Int → Int → Int → Int → Int → Option (List Int)
  | 0, _, _, _, _, _, _, _ => none
  | k + 1, x1, x7, x11, x12, x13, x539000, x539001 => if x13 < x12 then (if 0 ≤ x13 then (if x13 < (x11.length : Int) then ((impl_Field_value.f k x539000 x539001 x1 (rd x11 x13)).bind fun t543 => (if x7.length < 17592186044416 then (impl_Field_values.l0 k x1 (x7 ++ [t543]) x11 x12 (wrap64 (x13 + 1)) x539000 x539001) else (none))) else (none)) else (none)) else (some x7)
def impl_Field_values.f (k : Nat) (a0_0 : Int) (a0_1 : Int) (l1 : List Int) (l2 : List Int) : Option (List Int) := impl_Field_values.l0 k l1 (([] : List Int)) l2 (l2.length : Int) 0 a0_0 a0_1
theorem impl_Field_values.mono_l : ∀ k, (∀ y0 y1 y2 y3 y4 y5 y6, LeO (impl_Field_values.l0 k y0 y1 y2 y3 y4 y5 y6) (impl_Field_values.l0 (k + 1) y0 y1 y2 y3 y4 y5 y6))
 | 0 => fun _ _ _ _ _ _ _ r h => by simp [impl_Field_values.l0] at h
 | k + 1 => by
  have ih0 := impl_Field_values.mono_l k
  ·intro y0 y1 y2 y3 y4 y5 y6
   unfold impl_Field_values.l0
   repeat' first
   | (with_reducible first | apply ih0 | apply impl_Field_value.mono | exact LeO.refl _ | exact LeO.none _ | refine LeO.ite ?_ ?_ | refine LeO.bind ?_ (fun _ => ?_))
   | exact LeO.none _
   | refine LeO.ite ?_ ?_
   | refine LeO.bind ?_ (fun _ => ?_)
theorem impl_Field_values.mono : ∀ a0 a1 a2 a3 k, LeO (impl_Field_values.f k a0 a1 a2 a3) (impl_Field_values.f (k + 1) a0 a1 a2 a3) := by
 intro a0 a1 a2 a3 k
 have ih0 := impl_Field_values.mono_l k
 unfold impl_Field_values.f
 repeat' first
  | (with_reducible first | apply ih0 | apply impl_Field_value.mono | exact LeO.refl _ | exact LeO.none _ | refine LeO.ite ?_ ?_ | refine LeO.bind ?_ (fun _ => ?_))
  | exact LeO.none _
  | refine LeO.ite ?_ ?_
  | refine LeO.bind ?_ (fun _ => ?_)
theorem impl_Field_values.calls (k : Nat) (a0_0 : Int) (a0_1 : Int) (A1 : Option Addr) (c1 : Nat) (l1 : List Int) (A2 : Option Addr) (c2 : Nat) (l2 : List Int) (r : List Int) (w : World) (hr1 : Kd.C (Kd.int .i64) w A1 l1.length l1) (hc1 : l1.length ≤ c1) (hr2 : Kd.C (Kd.int .i64) w A2 l2.length l2) (hc2 : l2.length ≤ c2) (h : impl_Field_values.f k a0_0 a0_1 l1 l2 = some r) :
 Calls Try.prog 60 #[.agg #[.int .i64 a0_0, .int .i64 a0_1], .slice A1 l1.length c1, .slice A2 l2.length c2] w fun e w' => ∃ v0_ : Value, e = .returned (v0_) ∧ Kd.R (Kd.int .i64) 2 w' w.heap.size (fun _ => True) v0_ r ∧ Below w.heap.size w w' := by
 have hu26 := Try.underlying26
 have HR1 := Aq.mk hr1
 have HC1 := Aq.mk hc1
 clear hr1 hc1
 have HR2 := Aq.mk hr2
 have HC2 := Aq.mk hc2
 clear hr2 hc2
 have HB := Aq.mk (Below.refl w.heap.size w)
 have H : (impl_Field_values.l0 k l1 (([] : List Int)) l2 (l2.length : Int) 0 a0_0 a0_1) = some r := h
 clear h
 obtain ⟨y539, hy539⟩ : ∃ y_ : List Int, y_ = (([] : List Int)) := ⟨_, rfl⟩
 replace H : (impl_Field_values.l0 k l1 y539 l2 (l2.length : Int) 0 a0_0 a0_1) = some r := by first | (rw [hy539]; with_reducible exact H) | (have H2_ := (Option.bind_some _ _).symm.trans H; rw [hy539]; with_reducible exact H2_) | (have H2_ := (Option.bind_some _ _).symm.trans H; with_reducible exact H2_) | with_reducible exact H | (rw [hy539]; exact H) | exact H
 have Ny539 := Aq.mk hy539
 clear hy539
 replace H' := Aq.mk H
 clear H
 go_enter Try.func60, Try.ntmps60
 go_wp2_with (first | ((with_reducible refine gQd (N := 3) rfl ?_); refine xQe ?hg (N := 3) ?hd (cs := #[.int .i64 a0_0, .int .i64 a0_1]) (t := 26) ?hr ?_; (case hd => rfl); (case hg => rfl); (case hr => exact tH); intro gb538 hg w4 hbox hb; refine qM4 (bQT tB hb) hbox (tZ w hg) (tZ w hg) ?_; clear HB; intro HB BK538 GW538 GE538; clear hb hbox hg) | ((with_reducible refine gQd (N := 10) rfl ?_); refine Kd.R_lit (Kd.int .i64) _ 2 ?hg (N := 10) ?hd (xs := ([] : List Int)) (inner := []) (ok := fun _ => True) (okp := fun _ => True) ?hr ?hp (fun _ hk => hk) trivial (Below.refl _ _) (Nat.le_refl _) (by simp) ?_; (case hd => rfl); (case hg => rfl); (case hr => exact tH); (case hp => exact (Reps.none _ _)); intro v540 w5 ho6 hb hg_ hnew_; clear hg_ hnew_; (first | rw [← Ny539.out] at ho6 | (simp only [Int.reduceToNat] at ho6; rw [← Ny539.out] at ho6)); refine qM3 (Kd.R_lower ho6 (bQZ tB)) (tQ BK538.out hb) (bQT tB hb) ?_; clear BK538 HB; intro HO541 BK538 HB; clear hb ho6))
 go_loopg [7, 13] k (fun kq v7 v13 w' => ∃ (x7_1 : List Int) (x13_1 : Int), v13 = .int .i64 x13_1 ∧ Aq (impl_Field_values.l0 kq l1 x7_1 l2 (l2.length : Int) x13_1 a0_0 a0_1 = some r) ∧ Aq (kq ≤ k) ∧ Aq (Kd.R (Kd.int .i64) 2 w' w.heap.size (fun _ => True) v7 x7_1) ∧ Aq (w'.heap[gb538]? = some (.cells #[.int .i64 a0_0, .int .i64 a0_1] 26 (0, 0))) ∧ Aq (Below w.heap.size w w'))
 case atStart => exact ⟨(y539), (0), tS, H', ⟨Nat.le_refl _⟩, ⟨tR HO541.out⟩, ⟨tG BK538.out⟩, ⟨tB⟩⟩
 clear H'
 try clear c1
 try clear c2
 obtain ⟨x7_1, x13_1, rfl, HA, HK1, HO_7, BK538, HB⟩ := hrel
 cases gk with
 | zero => exact absurd HA.out (by simp [impl_Field_values.l0])
 | succ k1 =>
  have H := HA.out
  clear HA
  simp only [impl_Field_values.l0] at H
  by_cases c7 : x13_1 < (l2.length : Int)
  rotate_left
  ·rw [if_neg c7] at H
   have c7b0 := decide_eq_false c7
   clear c7
   obtain rfl := Option.some.inj H
   go_wp2
   go_ret
   exact ⟨_, tE, tR HO_7.out, tB⟩
  rw [if_pos c7] at H
  have c7b0 := decide_eq_true c7
  clear c7
  by_cases c8 : 0 ≤ x13_1
  rotate_left
  ·rw [if_neg c8] at H
   exact absurd H (by simp)
  rw [if_pos c8] at H
  have c8b0 := decide_eq_true c8
  clear c8
  by_cases c9 : x13_1 < (l2.length : Int)
  rotate_left
  ·rw [if_neg c9] at H
   exact absurd H (by simp)
  rw [if_pos c9] at H
  have c9b0 := decide_eq_true c9
  clear c9
  obtain ⟨t543, A10, H⟩ := qBd H
  by_cases c11 : x7_1.length < 17592186044416
  rotate_left
  ·rw [if_neg c11] at H
   exact absurd H (by simp)
  rw [if_pos c11] at H
  have LMc11 := Aq.mk c11
  clear c11
  obtain ⟨y544, hy544⟩ : ∃ y_ : List Int, y_ = (x7_1 ++ [t543]) := ⟨_, rfl⟩
  replace H : (impl_Field_values.l0 k1 l1 y544 l2 (l2.length : Int) (wrap64 (x13_1 + 1)) a0_0 a0_1) = some r := by first | (rw [hy544]; with_reducible exact H) | (have H2_ := (Option.bind_some _ _).symm.trans H; rw [hy544]; with_reducible exact H2_) | (have H2_ := (Option.bind_some _ _).symm.trans H; with_reducible exact H2_) | with_reducible exact H | (rw [hy544]; exact H) | exact H
  have Ny544 := Aq.mk hy544
  clear hy544
  replace H' := Aq.mk H
  clear H
  have p542 : 0 ≤ (x13_1 : Int) := of_decide_eq_true tA
  have q542 : x13_1 < (l2.length : Int) := of_decide_eq_true tA
  obtain ⟨ad542, e542, hx542_0⟩ := Kd.at_int HR2.out x13_1 p542 q542
  cases e542
  replace hx542_0 := (HB.out.cell (World.block_lt_of_cell? w _ hx542_0)).trans hx542_0
  replace p542 := eq_true p542
  replace q542 := eq_true q542
  have hcz12_0 : wr.cell? ⟨gb538, 0, none⟩ = some (.int .i64 a0_0) := (kQC BK538.out 0).trans rfl
  have hcz12_1 : wr.cell? ⟨gb538, 1, none⟩ = some (.int .i64 a0_1) := (kQC BK538.out 1).trans rfl
  have hfz12_0 := kQF BK538.out 0
  have hfz12_1 := kQF BK538.out 1
  go_wp2_with (first | ((with_reducible refine gQc (f := 57) rfl ?_); refine goesL_ (some 21) rfl rfl Try.func57 (by kernel_rfl) rfl #[.agg #[.int .i64 a0_0, .int .i64 a0_1], .slice A1 l1.length c1, .int .i64 (rd l2 x13_1)] rfl tL ?_; (with_reducible refine (impl_Field_value.calls k1 a0_0 a0_1 _ _ l1 (rd l2 x13_1) t543 _ ?s1 ?s2 A10.out).mono ?_); (case s1 => exact tC ((Kd.C_below HR1.out HB.out))); (case s2 => exact HC1.out); rintro e w13 ⟨rfl, hb⟩; refine ⟨_, rfl, ?_⟩; refine qM3 (Kd.R_below (tR HO_7.out) hb) (tQ BK538.out hb) (bQT tB hb) ?_; clear HO_7 BK538 HB; intro HO_7 BK538 HB; (try clear hb); (try clear hb2); (try clear hk); (try clear hi)) | ((with_reducible refine gate_builtin (b := .append) (xs := #[.tmp 17, .tmp 22]) rfl ?_); at_builtin; refine Kd.R_append (Kd.int .i64) (w0 := w) w.heap.size rfl (.tmp 17) (.tmp 22) 29 2 (.int .i64 0) 8 rfl Try.underlying29 info2 rfl (by decide) (by omega) u7 x7_1 t543 [.int .i64 t543] (fun _ => True) (fun _ => False) rfl rfl ?aP (fun _ hk => hk.elim) ?aF ?aO ?aB ?aS ?aL ?_; (case aP => exact rfl); (case aB => exact tB); (case aF => exact (fun _ _ => trivial)); (case aO => exact (tR HO_7.out)); (case aS => exact (bQZ tB)); (case aL => have := LMc11.out; omega); intro v545 w14 ho hb hg hat; rw [← Ny544.out] at ho; refine qM3 (blk_grown (g := gb538) (o := .cells #[.int .i64 a0_0, .int .i64 a0_1] 26 (0, 0)) (tG BK538.out) hg (Kd.R_ne HO_7.out BK538.out (by decide))) hb ho ?_; clear BK538 HB HO_7; intro BK538 HB HO546; clear ho hb hg hat))
  go_roundg k1
  case measure => have := HK1.out; omega
  case rel => exact ⟨(y544), (wrap64 (x13_1 + 1)), tS, H', ⟨by have := HK1.out; omega⟩, ⟨tR HO546.out⟩, ⟨tG BK538.out⟩, ⟨tB⟩⟩
end Go.Proofs.Ytbgbblgdbcjibaa.P
